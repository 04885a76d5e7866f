/- Lemmas for the proof. No condition. -/
import Derived.Test.YtneajphgfdlmhaaGreatDoorQB07
import Derived.Test.YtneajphgfdlmhaaGreatDoorQB11
import Derived.Deep.DeepCutAuto
import Derived.Deep.CutBlock
import Derived.Laws.CopyOwn
set_option linter.unusedVariables false
set_option linter.unusedSimpArgs false
set_option maxRecDepth 100000
set_option maxHeartbeats 16000000
open Go.Ending renaming returned → aj
open Go.IntKind renaming i64 → I
open Go.Value renaming int → Z, slice → ah, tuple → aG
open Nat renaming mul_le_mul → dP
namespace Go.Proofs.fu
open Go Go.RowKit Go.SW Go.Num Go.Mem Go.Proofs
theorem Ou {x y:Nat} (hx:x<1000000000) (hy:y<1000000000):(0:Int)≤(x:Int)*(y:Int)∧(x:Int)*(y:Int)≤999999998000000001:=by
 have h:x*y≤999999999*999999999:=dP zo zo;rw [← Int.natCast_mul];omega
theorem _root_.Go.aj0 {G:Prop} (h:G:=by
 obtain ⟨i0,hi,hz0,hz1,hz2⟩:=info_parts Ab;go_enter ak7,ak6
 go_wp2_with (at_make;refine wpList_make_full _ rfl _ _ Iz rfl w.heap.size 61 i0 (.int .u32 0) 1 KO hi hz0 hz1 _ _ _ _ (l.length+m.length) rfl rfl zo zo (by rw [hz2];omega) (by unfold maxLen;omega) (Nat.le_refl _) ?_)
 intro w0 hown0 kJ;rw [qR] at hown0
 go_wp2
 go_loopw [6,7,8,9,10,19,26] (fun _ _ _ _ _ iv _ wr=>∃ (i:Nat) (p:List Nat),i≤l.length∧iv= .int .i64 i∧Hid (p.length=l.length+m.length)∧(∀ t,i+m.length≤t→p.getD t 0=0) ∧
   wr.ownsRow w.heap.size 61 1 (.slice (some ⟨w.heap.size,0,none⟩) (l.length+m.length) (l.length+m.length)) (l.length+m.length) (eH p)∧fZ 1000000000 p∧Hid (val 1000000000 p=val 1000000000 (l.take i)*val 1000000000 m)∧Below w.heap.size w wr)
  (fun _ _ _ _ _ iv _ _=>l.length - (intOf iv).toNat)
 case atStart=>exact ⟨0,List.replicate (l.length+m.length) 0,Nat.zero_le _,rfl,zh zi,fun t _=>by simp [List.getD,List.getElem?_replicate];split<;>rfl,hown0,fun x hx=>by rw [List.eq_of_mem_replicate hx];omega,zh (by rw [uL];simp [val]),(Below.refl _ _).grown kJ (Nat.le_refl _) (fun k h=>by cases h)⟩
 case round =>
  obtain ⟨i,p,hil,rfl,HL,hz,hown,hdp,HV,hb⟩:=hrel;have HZ:=zh hz;clear hz
  by_cases hlt:i<l.length
  ·obtain ⟨b,off,rfl,hbb,hx0⟩:=hc i hlt;have hx:wr.cell? ⟨b,off+i,none⟩=some (.int .u32 (l.getD i 0:Nat)):=(hb.cell (by exact hbb)).trans hx0;have hdl:l.getD i 0<1000000000:=hl.getD zo i;clear hx0 hc;have HD:Hid (l.getD i 0=l.getD i 0):=rfl
   revert HD
   generalize KT:l.getD i 0=x at hx hdl;have HX:=zh KT;clear KT;intro _;obtain ⟨wo,rfl⟩:∃ wo:World,wo=wr:=⟨_,rfl⟩
   go_wp2
   go_loopw [8,9,10,26] (fun cv _ _ jv wq=>∃ (j c:Nat) (q:List Nat),j≤m.length∧c<1000000000∧jv= .int .i64 j∧cv= .int .u64 c∧Hid (q.length=l.length+m.length)∧Hid (∀ t,i+m.length≤t→q.getD t 0=0) ∧
     wq.ownsRow w.heap.size 61 1 (.slice (some ⟨w.heap.size,0,none⟩) (l.length+m.length) (l.length+m.length)) (l.length+m.length) (eH q)∧fZ 1000000000 q∧Hid (val 1000000000 q+c*1000000000^(i+j)=val 1000000000 (l.take i)*val 1000000000 m+1000000000^i*(x*val 1000000000 (m.take j)))∧Below w.heap.size w wq)
    (fun _ _ _ jv _=>m.length - (intOf jv).toNat)
   case atStart=>exact ⟨0,0,p,Nat.zero_le _,by omega,rfl,rfl,HL,HZ,hown,hdp,zh (by rw [HV.out];simp [val]),hb⟩
   case round =>
    obtain ⟨j,c,q,hjl,hcb,rfl,rfl,RD,Rx,hown,Iu,Yk,hb⟩:=hrel
    by_cases hjlt:j<m.length
    ·obtain ⟨b2,off2,rfl,G6,hy0⟩:=hd j hjlt;have hy:wr.cell? ⟨b2,off2+j,none⟩=some (.int .u32 (m.getD j 0:Nat)):=(hb.cell (by exact G6)).trans hy0;have Mx:m.getD j 0<1000000000:=hmd.getD zo j;have hij:i+j<q.length:=by have:=RD.out;omega
     have hq1:wr.cell? ⟨w.heap.size,i+j,none⟩=some (.int .u32 (q.getD (i+j) 0:Nat)):=by rw [hown.cellAt (i+j) zo,nP hij]
     have hq2:wr.frozen? ⟨w.heap.size,i+j,none⟩=false:=hown.frozenAt (i+j);have ab6:q.getD (i+j) 0<1000000000:=Iu.getD zo (i+j);have HS:=zh (BA hjlt hij Yk.out);have HC:=zh (zN hcb ab6 hdl Mx)
     have HO:Hid (∀ d:Nat,d<1000000000→(wr.setCell ⟨w.heap.size,i+j,none⟩ (.int .u32 (d:Int))).ownsRow w.heap.size 61 1 (.slice (some ⟨w.heap.size,0,none⟩) (l.length+m.length) (l.length+m.length)) (l.length+m.length) (eH (q.set (i+j) d)) ∧
       Below w.heap.size w (wr.setCell ⟨w.heap.size,i+j,none⟩ (.int .u32 (d:Int)))∧fZ 1000000000 (q.set (i+j) d)∧(q.set (i+j) d).length=l.length+m.length∧(∀ t,i+m.length≤t→(q.set (i+j) d).getD t 0=0)):=fun d hd=>by
      have h1:=(hown.stored (i+j) (.int .u32 (d:Int))).1;rw [kU] at h1;exact ⟨h1,hb.setCell (Nat.le_refl _) _,Iu.set _ hd,by rw [List.length_set];exact RD.out,fun t ht=>by rw [A9 zo];exact Rx.out t ht⟩
     clear hy0 hd hown Yk Iu RD Rx hij;generalize m.getD j 0=y at *;generalize q.getD (i+j) 0=z at *;obtain ⟨hp1,hp2⟩:=Ou hdl Mx;have hr:((((c+(z+x*y))%1000000000:Nat)):Int)=((c:Int)+((z:Int)+(x:Int)*(y:Int)))%1000000000:=by rw [Int.natCast_emod,Int.natCast_add,Int.natCast_add,Int.natCast_mul];rfl
     have hq:((((c+(z+x*y)) / 1000000000:Nat)):Int)=((c:Int)+((z:Int)+(x:Int)*(y:Int))) / 1000000000:=by rw [Int.natCast_ediv,Int.natCast_add,Int.natCast_add,Int.natCast_mul];rfl
     have pR:=HO.out _ (Nat.mod_lt (c+(z+x*y)) zo);rw [hr] at pR;have pW:=zh pR;have HR:=zh hq;clear HO pR hr hq
     go_wp2
     go_roundw
     case rel=>exact ⟨j+1,(c+(z+x*y)) / 1000000000,q.set (i+j) ((c+(z+x*y))%1000000000),by omega,HC.out,by go_num,by rw [HR.out],zh pW.out.2.2.2.1,zh pW.out.2.2.2.2,pW.out.1,pW.out.2.2.1,zh (by rw [← Nat.add_assoc i j 1];exact HS.out),pW.out.2.1⟩
     case measure=>exact zM
    ·have hjm:j=m.length:=by omega
     subst hjm;have hij:i+m.length<q.length:=by have:=RD.out;omega
     have hq1:wr.cell? ⟨w.heap.size,i+m.length,none⟩=some (.int .u32 0):=by rw [hown.cellAt (i+m.length) zo,nP hij,Rx.out _ (Nat.le_refl _)];rfl
     have hq2:wr.frozen? ⟨w.heap.size,i+m.length,none⟩=false:=hown.frozenAt (i+m.length)
     have HF:Hid (val 1000000000 (q.set (i+m.length) c)=val 1000000000 (l.take (i+1))*val 1000000000 m) :=
      zL hlt hij (Rx.out _ (Nat.le_refl _)) (by have:=Yk.out;rw [List.take_length] at this;rw [HX.out];exact this)
     have HO:Hid ((wr.setCell ⟨w.heap.size,i+m.length,none⟩ (.int .u32 (c:Int))).ownsRow w.heap.size 61 1 (.slice (some ⟨w.heap.size,0,none⟩) (l.length+m.length) (l.length+m.length)) (l.length+m.length) (eH (q.set (i+m.length) c)) ∧
       Below w.heap.size w (wr.setCell ⟨w.heap.size,i+m.length,none⟩ (.int .u32 (c:Int)))∧fZ 1000000000 (q.set (i+m.length) c)∧(q.set (i+m.length) c).length=l.length+m.length∧(∀ t,i+1+m.length≤t→(q.set (i+m.length) c).getD t 0=0)):=by
      have h1:=(hown.stored (i+m.length) (.int .u32 (c:Int))).1;rw [kU] at h1;exact ⟨h1,hb.setCell (Nat.le_refl _) _,Iu.set _ hcb,by rw [List.length_set];exact RD.out,fun t ht=>by rw [A9 zo];exact Rx.out t zo⟩
     clear hown Yk Iu RD Rx hij hd
     go_wp2
     go_roundw
     case rel=>exact ⟨i+1,q.set (i+m.length) c,by omega,by go_num,zh HO.out.2.2.2.1,HO.out.2.2.2.2,HO.out.1,HO.out.2.2.1,HF,HO.out.2.1⟩
     case measure=>exact zM
  ·have ab2:i=l.length:=by omega
   subst ab2;clear hc hd;have HF:Hid (val 1000000000 p=val 1000000000 l*val 1000000000 m):=by have:=HV.out;rwa [List.take_length] at this
   have hown3:nC wr (.slice (some ⟨w.heap.size,0,none⟩) (l.length+m.length) (l.length+m.length)) p:=nC.ig hown;clear hown HV;go_wp2_with ((first|go_at_call 227|go_at_call 327);refine (pX _ _ _ hown3 hdp).mono ?_;rintro e w' ⟨v,rfl,rfl,hv⟩)
   go_ret
   exact ⟨v,rfl,hb,by rw [← HF.out];exact hv⟩):G:=h
theorem Bz (pl ps:Option Addr) (cl cs:Nat) (l m:List Nat) (w:World) (hl:fZ 1000000000 l) (hmd:fZ 1000000000 m) (hb1:l.length≤1099511627776) (hb2:m.length≤1099511627776)
   (hc:∀ k,k<l.length→∃ b off,pl=some ⟨b,off,none⟩∧b<w.heap.size∧w.cell? ⟨b,off+k,none⟩=some (.int .u32 (l.getD k 0:Nat)))
   (hd:∀ k,k<m.length→∃ b off,ps=some ⟨b,off,none⟩∧b<w.heap.size∧w.cell? ⟨b,off+k,none⟩=some (.int .u32 (m.getD k 0:Nat))) :
    Calls Tryz.prog 145 #[ah pl l.length cl,ah ps m.length cs] w fun e w'=>∃ v,e= aj v∧Below w.heap.size w w'∧bW w' v (val 1000000000 l*val 1000000000 m):=aj0
theorem _root_.Go.ai9 {G:Prop} (h:G:=by
 obtain ⟨pa,ca,rfl,h1,h2,h3⟩:=nC.read hx.Da;obtain ⟨pb,cb,rfl,k1,k2,k3⟩:=nC.read hy.Da;have:=Bz pa pb ca cb _ _ w (cZ zo a) (cZ zo b) ha hb h3 k3
 rwa [bQ zo,bQ zo] at this):G:=h
theorem jQ (x y:Value) (a b:Nat) (w:World) (hx:bW w x a) (hy:bW w y b) (ha:sz 1000000000 a≤1099511627776) (hb:sz 1000000000 b≤1099511627776) :
  Calls Tryz.prog 145 #[x,y] w fun e w'=>∃ v,e= aj v∧Below w.heap.size w w'∧bW w' v (a*b):=ai9
theorem _root_.Go.ai8 {G:Prop} (h:G:=by
 obtain ⟨i0,hi,hz0,hz1,hz2⟩:=info_parts Ab;go_enter ak5,ak4
 go_wp2_with (at_make;refine wpList_make_full _ rfl _ _ Iz rfl w.heap.size 61 i0 (.int .u32 0) 1 KO hi hz0 hz1 _ _ _ _ l.length rfl rfl zo zo (by rw [hz2];omega) (by unfold maxLen;omega) (Nat.le_refl _) ?_)
 intro w0 hown0 kJ;rw [qR] at hown0
 go_wp2
 go_loopw [7,8] (fun rv iv wr=>∃ (q:Int) (r:Nat) (s:List Nat), -1≤q∧q<l.length∧r<d∧iv= .int .i64 q∧rv= .int .u64 r∧Hid (s.length=l.length - (q+1).toNat) ∧
   wr.ownsRow w.heap.size 61 1 (.slice (some ⟨w.heap.size,0,none⟩) l.length l.length) l.length (eH (List.replicate (q+1).toNat 0++s))∧fZ 1000000000 s∧Hid (val 1000000000 (l.drop (q+1).toNat)=d*val 1000000000 s+r)∧Below w.heap.size w wr)
  (fun _ iv _=>(intOf iv+1).toNat)
 case atStart =>
  have e:((l.length:Int) - 1+1).toNat=l.length:=by omega
  exact ⟨(l.length:Int) - 1,0,[],by omega,by omega,hd0,rfl,rfl,zh (by rw [e];simp),by rw [e,List.append_nil];exact hown0,fZ.nil,zh (by rw [e,List.drop_length];simp [val]),(Below.refl _ _).grown kJ (Nat.le_refl _) (fun k h=>by cases h)⟩
 case round =>
  obtain ⟨q,r,s,hq1,hq2,hrd,rfl,rfl,HS,hown,hds,HV,hb⟩:=hrel
  by_cases hq:q<0
  ·have hq0:q= -1:=by omega
   subst hq0;have HF:Hid (val 1000000000 l=d*val 1000000000 s+r):=zh (by have:=HV.out;simpa using this);have hown3:nC wr (.slice (some ⟨w.heap.size,0,none⟩) l.length l.length) s:=by have:=nC.ig hown;simpa using this
   have e1:Hid (val 1000000000 l / d=val 1000000000 s):=by unfold Hid;rw [HF.out,Nat.mul_add_div hd0,Nat.div_eq_of_lt hrd,Nat.add_zero]
   have e2:Hid (val 1000000000 l%d=r):=by unfold Hid;rw [HF.out,Nat.mul_add_mod,Nat.mod_eq_of_lt hrd]
   clear hown HV HF HS hc;go_wp2_with ((first|go_at_call 227|go_at_call 327);refine (pX _ _ _ hown3 hds).mono ?_;rintro e w' ⟨v,rfl,rfl,hv⟩)
   go_ret2
   exact ⟨v,by rw [e2.out];rfl,hb,by rw [e1.out];exact hv⟩
  ·obtain ⟨j,rfl⟩:=Int.eq_ofNat_of_zero_le (by omega:0≤q);have ej:((j:Int)+1).toNat=j+1:=by omega
   have hjl:j<l.length:=by omega
   rw [ej] at HS HV hown;obtain ⟨b,off,rfl,hbb,hx0⟩:=hc j hjl;have hx:wr.cell? ⟨b,off+j,none⟩=some (.int .u32 (l.getD j 0:Nat)):=(hb.cell (by exact hbb)).trans hx0;have hdl:l.getD j 0<1000000000:=hl.getD zo j;have hlen:(List.replicate (j+1) 0++s).length=l.length:=by rw [List.length_append,List.length_replicate,HS.out];omega
   have hr1:wr.cell? ⟨w.heap.size,j,none⟩=some (.int .u32 0):=by
    rw [hown.cellAt j zo,nP (by rw [hlen];exact hjl),uU zo];rfl
   have hr2:wr.frozen? ⟨w.heap.size,j,none⟩=false:=hown.frozenAt j;have HP:=zh (BI hjl HV.out);have hdg:=zO hrd hdl;have hmd:=Nat.mod_lt (r*1000000000+l.getD j 0) hd0
   have HO:Hid (∀ d:Nat,(wr.setCell ⟨w.heap.size,j,none⟩ (.int .u32 (d:Int))).ownsRow w.heap.size 61 1 (.slice (some ⟨w.heap.size,0,none⟩) l.length l.length) l.length (eH (List.replicate j 0++d::s))∧Below w.heap.size w (wr.setCell ⟨w.heap.size,j,none⟩ (.int .u32 (d:Int)))):=fun d=>by
    have h1:=(hown.stored j (.int .u32 (d:Int))).1;rw [kU,xG] at h1;exact ⟨h1,hb.setCell (Nat.le_refl _) _⟩
   clear hx0 hc hown hlen;generalize l.getD j 0=x at *;have hqi:(((r*1000000000+x) / d:Nat):Int)=((r:Int)*1000000000+(x:Int)) / (d:Int):=by rw [Int.natCast_ediv,Int.natCast_add,Int.natCast_mul];rfl
   have Ul:(((r*1000000000+x)%d:Nat):Int)=((r:Int)*1000000000+(x:Int))%(d:Int):=by rw [Int.natCast_emod,Int.natCast_add,Int.natCast_mul];rfl
   generalize (r*1000000000+x) / d=Q at *;generalize (r*1000000000+x)%d=M at *;have g1:0≤((r:Int)*1000000000+(x:Int)) / (d:Int):=by rw [← hqi];omega
   have g2:((r:Int)*1000000000+(x:Int)) / (d:Int)≤999999999:=by rw [← hqi];omega
   have g3:0≤((r:Int)*1000000000+(x:Int))%(d:Int):=by rw [← Ul];omega
   have g4:((r:Int)*1000000000+(x:Int))%(d:Int)≤999999999:=by rw [← Ul];omega
   have pR:=HO.out Q;rw [hqi] at pR;have pW:=zh pR;have HM:=zh Ul;have HG:=zh hdg;have Y8:=zh hmd;clear pR HO hqi Ul hdg hmd
   go_wp2
   go_roundw
   case rel=>exact ⟨(j:Int) - 1,M,Q::s,by omega,by omega,Y8.out,rfl,by rw [HM.out],zh (by rw [List.length_cons,HS.out];omega),by rw [show ((j:Int) - 1+1).toNat=j by omega];exact pW.out.1,hds.cons HG.out,zh (by rw [show ((j:Int) - 1+1).toNat=j by omega];exact HP.out),pW.out.2⟩
   case measure=>simp [intOf]):G:=h
theorem vY (pl:Option Addr) (cl:Nat) (l:List Nat) (d:Nat) (w:World) (hl:fZ 1000000000 l) (hb1:l.length≤1099511627776) (hd0:0<d) (hd1:d≤1000000000)
   (hc:∀ k,k<l.length→∃ b off,pl=some ⟨b,off,none⟩∧b<w.heap.size∧w.cell? ⟨b,off+k,none⟩=some (.int .u32 (l.getD k 0:Nat))) :
    Calls Tryz.prog 225 #[ah pl l.length cl,Z .u32 d] w fun e w'=>∃ v,e= aj (aG #[v,Z .u32 (val 1000000000 l%d:Nat)])∧Below w.heap.size w w'∧bW w' v (val 1000000000 l / d):=ai8
theorem xD (x:Value) (a d:Nat) (w:World) (hx:bW w x a) (ha:sz 1000000000 a≤1099511627776) (hd0:0<d) (hd1:d≤1000000000) :
  Calls Tryz.prog 225 #[x,Z .u32 d] w fun e w'=>∃ v,e= aj (aG #[v,Z .u32 (a%d:Nat)])∧Below w.heap.size w w'∧bW w' v (a / d):=by
 obtain ⟨pa,ca,rfl,h1,h2,h3⟩:=nC.read hx.Da;have:=vY pa ca _ d w (cZ zo a) ha hd0 hd1 h3
 rwa [bQ zo] at this
theorem Ll (pl:Option Addr) (cl:Nat) (l:List Nat) (w:World) (hm:l.length≤9223372036854775807) (hv:val 1000000000 l≤18446744073709551615)
   (hc:∀ k,k<l.length→∃ b off,pl=some ⟨b,off,none⟩∧b<w.heap.size∧w.cell? ⟨b,off+k,none⟩=some (.int .u32 (l.getD k 0:Nat))) :
    Calls Tryz.prog 224 #[ah pl l.length cl] w fun e w'=>e= aj (Z .u64 (val 1000000000 l:Nat))∧w=w':=by
  have HV0:=zh hv;clear hv;go_enter Tryz.func224,Tryz.ntmps224
  go_wp2
  go_loop [3,4] (fun rv iv=>∃ (q:Int) (r:Nat), -1≤q∧q<l.length∧iv= Z I q∧rv= Z .u64 r∧Hid (r=val 1000000000 (l.drop (q+1).toNat)))
    (fun _ iv=>(intOf iv+1).toNat)
  case atStart =>
    have e:((l.length:Int) - 1+1).toNat=l.length:=by omega
    exact ⟨(l.length:Int) - 1,0,by omega,by omega,rfl,rfl,zh (by rw [e,List.drop_length];rfl)⟩
  case round =>
    obtain ⟨q,r,hq1,hq2,rfl,rfl,HV⟩:=hrel
    by_cases hq:q<0
    · have hq0:q= -1:=by omega
      subst hq0
      go_wp2
      go_ret
      exact ⟨by have:=HV.out;rw [show ((-1:Int)+1).toNat=0 by omega,List.drop_zero] at this;rw [← this];rfl,rfl⟩
    · obtain ⟨j,rfl⟩:=Int.eq_ofNat_of_zero_le (by omega:0≤q)
      have ej:((j:Int)+1).toNat=j+1:=by omega
      have hjl:j<l.length:=by omega
      rw [ej] at HV;obtain ⟨b,off,rfl,hbb,hx⟩:=hc j hjl;have HS:=zh (rP (B:=1000000000) hjl)
      have hbd:r*1000000000+l.getD j 0≤18446744073709551615:=by
        have h1:=HS.out;have h2:=tH 1000000000 zo l j;have h3:=HV0.out;have h4:=HV.out;rw [← h4] at h1;omega
      clear hc;generalize l.getD j 0=x at *
      go_wp2
      go_round
      case rel=>exact ⟨(j:Int) - 1,r*1000000000+x,by omega,by omega,rfl,by go_num,zh (by rw [show ((j:Int) - 1+1).toNat=j by omega,HS.out,← HV.out])⟩
      case measure=>simp [intOf]
theorem IX (x:Value) (a:Nat) (w:World) (hx:bW w x a) (ha:a≤18446744073709551615) :
  Calls Tryz.prog 224 #[x] w fun e w'=>e= aj (Z .u64 (a:Nat))∧w=w':=by
 obtain ⟨pa,ca,rfl,h1,h2,h3⟩:=nC.read hx.Da;have:=Ll pa ca _ w zo (by rw [bQ zo];exact ha) h3
 rwa [bQ zo] at this
theorem _root_.Go.ai7 {G:Prop} (h:G:=by
 obtain ⟨i0,hi,hz0,hz1,hz2⟩:=info_parts Ab;go_enter ak3,ak2
 go_wp2
 go_loopw [0,3] (fun av mv wr=>∃ (b:Nat) (s:List Nat),b≤18446744073709551615∧s.length≤3∧av= .int .u64 b∧wr.ownsRow w.heap.size 61 1 mv s.length (eH s)∧Hid (s++eF 1000000000 b=eF 1000000000 a)∧Below w.heap.size w wr)
  (fun av _ _=>(intOf av).toNat)
 case atStart=>exact ⟨a,[],ha,by simp,rfl,World.ownsRow_nil _ _ _ _,zh rfl,Below.refl _ _⟩
 case round =>
  obtain ⟨b,s,hb1,hb2,rfl,hown,HD,hb⟩:=hrel
  rcases Nat.eq_zero_or_pos b with h0|h0
  ·subst h0
   go_wp2
   go_ret
   refine ⟨_,rfl,hb,?_⟩;have e:=HD.out;rw [iD,List.append_nil] at e;subst e;exact Row.ig hown
  ·have HN:Hid ((s++[b%1000000000])++eF 1000000000 (b / 1000000000)=eF 1000000000 a):=by
    unfold Hid;rw [← HD.out,kW zo h0,List.append_assoc];rfl
   have hdv:b / 1000000000<b:=Nat.div_lt_self h0 zo
   have hl3:s.length+1≤3:=by
    have h1:=congrArg List.length HN.out;have h2:=cO (B:=1000000000) zo 3 a zo;unfold sz at h2;simp only [List.length_append,List.length_cons,List.length_nil] at h1;omega
   go_wp2_with (at_builtin;refine wpList_append_own _ rfl (.tmp 8) (.tmp 12) Iz rfl w.heap.size 61 i0 (.int .u32 0) 1 4 KO hi hz0 hz1 hz2 rfl zd _ _ _ rfl (hown.alloc _) ⟨wr.heap.size,0,none⟩ 1 1 [.int .u32 ((b:Int)%1000000000)] rfl rfl (by intro t u ht;match t,ht with|0,ht=>simp at ht;subst ht;simp [Addr.add]) (by intro u hu;simp at hu;subst hu;rfl) (by unfold maxLen;omega) zo (by have:=hb.size;simp;omega) ?_)
   intro v' w1 hown1 hgrow1 _
   have hown2:w1.ownsRow w.heap.size 61 1 v' (s++[b%1000000000]).length (eH (s++[b%1000000000])):=by
    have e:eH (s++[b%1000000000])=eH s++[.int .u32 ((b:Int)%1000000000)]:=by unfold eH;simp only [List.map_append,List.map_cons,List.map_nil];rfl
    rw [e,List.length_append];exact hown1
   have hb3:Below w.heap.size w w1:=(hb.alloc hb.size _).grown hgrow1 (by simp;have:=hb.size;omega) (fun k hk=>(hown.lt k hk).1);clear hown hown1 hgrow1
   go_wp2
   go_roundw
   case rel=>exact ⟨b / 1000000000,s++[b%1000000000],by omega,by rw [List.length_append];exact hl3,by go_num,hown2,HN,hb3⟩
   case measure=>simp [intOf];omega):G:=h
theorem mW (a:Nat) (w:World) (ha:a≤18446744073709551615) :
  Calls Tryz.prog 190 #[Z .u64 a] w fun e w'=>∃ v,e= aj v∧Below w.heap.size w w'∧bW w' v a:=ai7
def yK (w:World) (g k:Nat) (pre u post v:List Nat) (e:Ending) (w':World):Prop :=
 e= aj (Z .u32 (val 1000000000 u / val 1000000000 v:Nat))∧w.grownBy w' (some g) ∧
   ∃ s,aA w' g (eH (pre++(s++[0])++post)).toArray 61∧s.length=k+2∧fZ 1000000000 s∧val 1000000000 s=val 1000000000 u%val 1000000000 v
theorem _root_.Go.ai6 {G:Prop} (h:G:=by
 obtain ⟨bv,ov,rfl,hbg,hbv,_⟩:=hd 0 zo
 have hvc:∀ (w':World),w.grownBy w' (some g)→∀ i,i<k+2→w'.cell? ⟨bv,ov+i,none⟩=some (.int .u32 (v.getD i 0:Nat)):=fun w' hg i hi=>by
  obtain ⟨b,off,h1,h2,h3,h4⟩:=hd i hi;simp only [Option.some.injEq,Addr.mk.injEq,and_true] at h1;obtain ⟨rfl,rfl⟩:=h1;exact hg.cell h4 (by simpa using h2)
 have huc:∀ (w':World) (x:List Nat),x.length=k+3→aA w' g (eH (pre++x++post)).toArray 61→∀ i,i<k+3→w'.cell? ⟨g,j+i,none⟩=some (.int .u32 (x.getD i 0:Nat)):=fun w' x hx hb i hi=>by
  rw [hb.cell,List.getElem?_toArray,nP (by simp;omega)];rw [List.getD_eq_getElem?_getD,List.append_assoc,List.getElem?_append_right zo,hj,Nat.add_sub_cancel_left,List.getElem?_append_left zo];rfl
 have HVC:=zh hvc;have Ym:=zh huc;have Yp:=zh ab8;have HLT:=zh hlt;have HU:=zh hu;have Yl:=zh hv;have HJ:=zh hj;clear hvc huc hd ab8 hlt hu hv hj;have h1:=HVC.out w ⟨rfl,rfl,rfl,Nat.le_refl _,fun _ _ _=>rfl⟩ (k+1) zo;have h2:=HVC.out w ⟨rfl,rfl,rfl,Nat.le_refl _,fun _ _ _=>rfl⟩ k zo;have h3:=Ym.out w u HU.out Yp.out (k+2) zo;have h4:=Ym.out w u HU.out Yp.out (k+1) zo;have h5:=Ym.out w u HU.out Yp.out k zo;have b1:=dv.getD zo (k+1);have b2:=dv.getD zo k;have b3:=du.getD zo (k+2);have b4:=du.getD zo (k+1);have b5:=du.getD zo k;have HG0:=zh (JL zo HU.out Yl.out du ht HLT.out dv);have HGS:=zh (fun q r=>MI (k:=k) (q:=q) (r:=r) (by omega:1<1000000000) HU.out Yl.out du zo HLT.out);have HGE:=zh (fun q r=>QS (k:=k) (q:=q) (r:=r) (by omega:1<1000000000) HU.out Yl.out dv zo);have aF5:=zh ht;clear ht;generalize hT:v.getD (k+1) 0=top at *
 generalize hV2:v.getD k 0=v2 at *;generalize hUN:u.getD (k+2) 0=un at *;generalize hU1:u.getD (k+1) 0=u1 at *;generalize hU2:u.getD k 0=u2 at *;have HT:=zh hT;have Bj:=zh hV2;have HUN:=zh hUN;have HU1:=zh hU1;have HU2:=zh hU2;clear hT hV2 hUN hU1 hU2;have htop:500000000≤top:=by have:=aF5.out;omega
 go_enter ak1,ak0
 go_wp2_with fail
 go_quiet (fail)
 obtain ⟨nq0,rfl⟩:∃ m,m=nq:=⟨nq,rfl⟩;go_wp2_with fail
 go_quiet (fail)
 have hw1:w.grownBy ((w.drewN nq0).drewN nq) (some g):=lJ (lJ (QD w _) _) _;have ab7:Hid (aA ((w.drewN nq0).drewN nq) g (eH (pre++u++post)).toArray 61):=Yp.out;obtain ⟨W,hW⟩:∃ W,W=(w.drewN nq0).drewN nq:=⟨_,rfl⟩;rw [← hW] at hw1 ab7 ⊢;clear hW h1 h2 h3 h4 h5;have hqd:(((un*1000000000+u1) / top:Nat):Int)=((un:Int)*1000000000+(u1:Int)) / (top:Int):=by rw [Int.natCast_ediv,Int.natCast_add,Int.natCast_mul];rfl
 have hrd:(((un*1000000000+u1)%top:Nat):Int)=((un:Int)*1000000000+(u1:Int))%(top:Int):=by rw [Int.natCast_emod,Int.natCast_add,Int.natCast_mul];rfl
 rw [← hqd,← hrd];clear hqd hrd;have hr0:(un*1000000000+u1)%top<1000000000:=Nat.lt_trans (Nat.mod_lt _ zo) b1;generalize (un*1000000000+u1) / top=q0 at *;generalize (un*1000000000+u1)%top=r0 at *
 go_upto_block 0 with fail
 go_cut [8,9] from 19 (fun q r wc=>∃ qn:Nat,q= .int .u64 qn∧qn≤1000000000∧Hid (val 1000000000 u / val 1000000000 v≤qn)∧Hid (qn≤val 1000000000 u / val 1000000000 v+1)∧w.grownBy wc (some g)∧Hid (aA wc g (eH (pre++u++post)).toArray 61))
 case first =>
  go_wp2_with fail
  go_loopw [8,9] (fun q r wr=>∃ qn rn:Nat,q= .int .u64 qn∧r= .int .u64 rn∧rn<1000000000∧Hid (KF 1000000000 (val 1000000000 u) (val 1000000000 v) top (un*1000000000+u1) qn rn)∧w.grownBy wr (some g)∧Hid (aA wr g (eH (pre++u++post)).toArray 61))
   (fun q _ _=>(intOf q).toNat)
  case atStart=>exact ⟨q0,r0,rfl,rfl,hr0,HG0,hw1,ab7⟩
  case round =>
   obtain ⟨qn,rn,rfl,rfl,hrb,HG,hnr,HB⟩:=hrel;have h2:=HVC.out wr hnr k zo;have h5:=Ym.out wr u HU.out HB.out k zo;rw [Bj.out] at h2;rw [HU2.out] at h5;have hqb:qn≤1000000001:=HG.out.bound
   have hpr:Hid (0≤(qn:Int)*(v2:Int)∧(qn:Int)*(v2:Int)≤1000000001*999999999):=by
    have h:qn*v2≤1000000001*999999999:=Nat.mul_le_mul hqb zo;unfold Hid;rw [← Int.natCast_mul];omega
   obtain ⟨hp1,hp2⟩:=hpr
   by_cases hc:1000000000≤qn
   ·have HS:=zh (HGS.out qn rn HG.out (.inl hc));have hge:decide ((1000000000:Int)≤(qn:Int))=true:=by rw [decide_eq_true_iff];omega
    have HC:=zh hc;have hq1:1≤qn:=by omega
    clear hc
    by_cases hr:1000000000≤rn+top
    ·have hrd:decide ((1000000000:Int)≤(rn:Int)+(top:Int))=true:=by rw [decide_eq_true_iff];omega
     have HR:=zh hr;clear hr;go_wp2_with fail
     go_quiet (fail)
     go_wp2_with fail
     go_meet
     have g2:=HS.out.2;have hq2:qn - 1≤1000000000:=by omega
     have h3:(qn - 1)*v2≤(rn+top)*1000000000+u2:=by
      have h4:(qn - 1)*v2≤1000000000*1000000000:=Nat.mul_le_mul hq2 zo;have h5:=HR.out;omega
     exact ⟨qn - 1,by go_num,hq2,zh g2.high,zh (HGE.out _ _ g2 hq2 h3),lJ hnr _,HB⟩
    ·have hrd:decide ((1000000000:Int)≤(rn:Int)+(top:Int))=false:=by rw [decide_eq_false_iff_not];omega
     have HR:=zh hr;clear hr;go_wp2_with fail
     go_quiet (fail)
     go_wp2_with fail
     go_roundw
     case rel=>exact ⟨qn - 1,rn+top,by go_num,by go_num,Nat.lt_of_not_le HR.out,zh HS.out.2,lJ hnr _,HB⟩
     case measure=>exact zM
   ·have hge:decide ((1000000000:Int)≤(qn:Int))=false:=by rw [decide_eq_false_iff_not];omega
    have HC:=zh hc;have hq2:qn≤999999999:=by omega
    clear hc
    by_cases ht:rn*1000000000+u2<qn*v2
    ·have HS:=zh (HGS.out qn rn HG.out (.inr ht));have hq1:1≤qn:=HS.out.1;have hlt:(rn:Int)*1000000000+(u2:Int)<(qn:Int)*(v2:Int):=by rw [← Int.natCast_mul];omega
     clear ht
     by_cases hr:1000000000≤rn+top
     ·have hrd:decide ((1000000000:Int)≤(rn:Int)+(top:Int))=true:=by rw [decide_eq_true_iff];omega
      have HR:=zh hr;clear hr;go_wp2_with fail
      go_quiet (fail)
      go_wp2_with fail
      go_meet
      have g2:=HS.out.2;have hq2:qn - 1≤1000000000:=by omega
      have h3:(qn - 1)*v2≤(rn+top)*1000000000+u2:=by
       have h4:(qn - 1)*v2≤1000000000*1000000000:=Nat.mul_le_mul hq2 zo;have h5:=HR.out;omega
      exact ⟨qn - 1,by go_num,hq2,zh g2.high,zh (HGE.out _ _ g2 hq2 h3),lJ hnr _,HB⟩
     ·have hrd:decide ((1000000000:Int)≤(rn:Int)+(top:Int))=false:=by rw [decide_eq_false_iff_not];omega
      have HR:=zh hr;clear hr;go_wp2_with fail
      go_quiet (fail)
      go_wp2_with fail
      go_roundw
      case rel=>exact ⟨qn - 1,rn+top,by go_num,by go_num,Nat.lt_of_not_le HR.out,zh HS.out.2,lJ hnr _,HB⟩
      case measure=>exact zM
    ·have hlt:¬ (rn:Int)*1000000000+(u2:Int)<(qn:Int)*(v2:Int):=by rw [← Int.natCast_mul];omega
     have HN:=zh (HGE.out _ _ HG.out zo (Nat.le_of_not_lt ht));clear ht;go_wp2_with fail
     go_quiet (fail)
     go_wp2_with fail
     go_meet
     exact ⟨qn,rfl,by omega,zh HG.out.high,HN,lJ hnr _,HB⟩
 case rest =>
  obtain ⟨qn,rfl,hqb,Ry,HQ2,hnc,HBc⟩:=hcut;clear hw1 ab7 hr0 HG0 HGS HGE;go_wp2_with fail
  go_loopw [10,11,12,13,14,77] (fun cv bv' _ _ _ iv wr=>∃ (i c b:Nat) (s:List Nat),i≤k+2∧c≤1000000000∧b≤1∧iv= .int .i64 i∧cv= .int .u64 c∧bv'= .int .i64 b∧Hid (s.length=i)∧fZ 1000000000 s ∧
    Hid (aA wr g (eH (pre++(s++u.drop i)++post)).toArray 61)∧w.grownBy wr (some g)∧Hid (val 1000000000 s+qn*val 1000000000 (v.take i)=val 1000000000 (u.take i)+(b+c)*1000000000^i))
   (fun _ _ _ _ _ iv _=>k+2 - (intOf iv).toNat)
  case atStart=>exact ⟨0,0,0,[],Nat.zero_le _,by omega,by omega,rfl,rfl,rfl,rfl,fZ.nil,HBc,hnc,zh (by simp [val])⟩
  case round =>
   obtain ⟨i,c,b,s,hi,hcb,hbb,rfl,rfl,rfl,HS,hds,HB,hnr,HV⟩:=hrel
   by_cases hlt:i<k+2
   ·have hc1:=HVC.out wr hnr i hlt;have hc2:=Ym.out wr (s++u.drop i) (by rw [List.length_append,List.length_drop,HU.out,HS.out];omega) HB.out i zo;rw [getD_in HS.out (Nat.le_refl _)] at hc2;have hc3:wr.frozen? ⟨g,j+i,none⟩=false:=aA.free HB.out _;have dvi:=dv.getD zo i;have dui:=du.getD zo i
    have HST:Hid (∀ d b',d+b+(c+qn*v.getD i 0)%1000000000=u.getD i 0+b'*1000000000→val 1000000000 (s++[d])+qn*val 1000000000 (v.take (i+1))=val 1000000000 (u.take (i+1))+(b'+(c+qn*v.getD i 0) / 1000000000)*1000000000^(i+1)) :=
     fun d b' h=>SF (by rw [HU.out];omega) (by rw [Yl.out];omega) HS.out HV.out h rfl
    have HO:Hid (∀ d:Nat,aA (wr.setCell ⟨g,j+i,none⟩ (.int .u32 (d:Int))) g (eH (pre++((s++[d])++u.drop (i+1))++post)).toArray 61∧w.grownBy (wr.setCell ⟨g,j+i,none⟩ (.int .u32 (d:Int))) (some g)):=fun d=>by
     have h1:=aA.set HB.out (j+i) (.int .u32 (d:Int));rw [List.setIfInBounds_toArray,kU,Gn HJ.out HS.out (by rw [HU.out];omega)] at h1;exact ⟨h1,xR hnr _ _⟩
    generalize v.getD i 0=y at *;generalize u.getD i 0=x at *;have hpn:qn*y≤1000000000*999999999:=Nat.mul_le_mul hqb zo;have hp1:0≤(qn:Int)*(y:Int):=by rw [← Int.natCast_mul];omega
    have hp2:(qn:Int)*(y:Int)≤999999999000000000:=by rw [← Int.natCast_mul];omega
    have hM:(((c+qn*y)%1000000000:Nat):Int)=((c:Int)+(qn:Int)*(y:Int))%1000000000:=by rw [Int.natCast_emod,Int.natCast_add,Int.natCast_mul];rfl
    have hC:(((c+qn*y) / 1000000000:Nat):Int)=((c:Int)+(qn:Int)*(y:Int)) / 1000000000:=by rw [Int.natCast_ediv,Int.natCast_add,Int.natCast_mul];rfl
    have hCb:(c+qn*y) / 1000000000≤1000000000:=by omega
    have hMb:(c+qn*y)%1000000000<1000000000:=Nat.mod_lt _ zo;generalize (c+qn*y) / 1000000000=C at *;generalize (c+qn*y)%1000000000=M at *;have HC2:=zh hC;have Y8:=zh hM;have gM1:0≤((c:Int)+(qn:Int)*(y:Int))%1000000000:=by rw [← hM];omega
    have gM2:((c:Int)+(qn:Int)*(y:Int))%1000000000≤999999999:=by rw [← hM];omega
    clear HV HB hpn
    by_cases hneg:x<b+M
    ·have Xk:(x:Int) - (b:Int) - ((c:Int)+(qn:Int)*(y:Int))%1000000000<0:=by rw [← hM];omega
     have pR:=HO.out (x+1000000000 - (b+M));rw [show ((x+1000000000 - (b+M):Nat):Int)=(x:Int) - (b:Int) - ((c:Int)+(qn:Int)*(y:Int))%1000000000+1000000000 by rw [← hM];omega] at pR;have pW:=zh pR;have HN:=zh hneg;clear HO pR hM hC hneg;go_wp2_with fail
     go_roundw
     case rel=>exact ⟨i+1,C,1,s++[x+1000000000 - (b+M)],by omega,hCb,by omega,by go_num,by rw [HC2.out],rfl,zh (by rw [List.length_append,HS.out];rfl),hds.snoc (by have:=HN.out;omega),zh pW.out.1,pW.out.2,zh (HST.out _ _ (by have:=HN.out;omega))⟩
     case measure=>exact zM
    ·have Xk:¬ (x:Int) - (b:Int) - ((c:Int)+(qn:Int)*(y:Int))%1000000000<0:=by rw [← hM];omega
     have pR:=HO.out (x - (b+M));rw [show ((x - (b+M):Nat):Int)=(x:Int) - (b:Int) - ((c:Int)+(qn:Int)*(y:Int))%1000000000 by rw [← hM];omega] at pR;have pW:=zh pR;have HN:=zh hneg;clear HO pR hM hC hneg;go_wp2_with fail
     go_roundw
     case rel=>exact ⟨i+1,C,0,s++[x - (b+M)],by omega,hCb,by omega,by go_num,by rw [HC2.out],rfl,zh (by rw [List.length_append,HS.out];rfl),hds.snoc (by have:=HN.out;omega),zh pW.out.1,pW.out.2,zh (HST.out _ _ (by have:=HN.out;omega))⟩
     case measure=>exact zM
   ·have hik:i=k+2:=by omega
    subst hik
    have YS:0<val 1000000000 v:=by
     rw [oV Yl.out];have h1:0<1000000000^k:=Nat.pow_pos zo;have h2:0<1000000000^k*(v.getD k 0+1000000000*v.getD (k+1) 0):=Nat.mul_pos h1 (by rw [HT.out];omega);omega
    have at6:Hid (val 1000000000 s+qn*val 1000000000 v=val 1000000000 (u.take (k+2))+(b+c)*1000000000^(k+2)):=by
     have:=HV.out;rwa [List.take_of_length_le (by rw [Yl.out];omega)] at this
    have HUs:Hid (val 1000000000 u=val 1000000000 (u.take (k+2))+1000000000^(k+2)*un):=by
     have:=dO 1000000000 (l:=u) (k:=k+2) (by rw [HU.out];omega);rw [show k+2+1=u.length by rw [HU.out],List.take_length] at this;rw [HUN.out] at this;exact this
    have hu1:=Ym.out wr (s++u.drop (k+2)) (by rw [List.length_append,List.length_drop,HU.out,HS.out];omega) HB.out (k+2) zo;rw [getD_in HS.out (Nat.le_refl _),HUN.out] at hu1;clear HV
    by_cases hov:un<b+c
    ·have HE:=zh (SI (by omega:1<1000000000) HS.out hds Yl.out dv YS at6.out HUs.out hov HQ2.out);have ao1:(un:Int) - (b:Int)<(c:Int):=by omega
     have hq1:1≤qn:=by rw [HE.out.1];exact Nat.le_add_left _ _
     go_wp2_with fail
     clear hu1 hov ao1
     go_loopw [15,16,17,18,125] (fun ov' _ _ _ iv wr=>∃ (i o:Nat) (t:List Nat),i≤k+2∧o≤1∧iv= .int .i64 i∧ov'= .int .u32 o∧Hid (t.length=i)∧fZ 1000000000 t ∧
       Hid (aA wr g (eH (pre++(t++(s++u.drop (k+2)).drop i)++post)).toArray 61)∧w.grownBy wr (some g)∧Hid (val 1000000000 t+o*1000000000^i=val 1000000000 (s.take i)+val 1000000000 (v.take i)))
      (fun _ _ _ _ iv _=>k+2 - (intOf iv).toNat)
     case atStart=>exact ⟨0,0,[],Nat.zero_le _,by omega,rfl,rfl,rfl,fZ.nil,HB,hnr,zh (by simp [val])⟩
     case round =>
      clear HB hnr;obtain ⟨i,o,t,hi,hob,rfl,rfl,VX,hdt,HB,hnr,HV⟩:=hrel;have hxl:(s++u.drop (k+2)).length=k+3:=by rw [List.length_append,List.length_drop,HU.out,HS.out];omega
      by_cases hlt:i<k+2
      ·have hc1:=HVC.out wr hnr i hlt;have hc2:=Ym.out wr (t++(s++u.drop (k+2)).drop i) (by rw [List.length_append,List.length_drop,hxl,VX.out];omega) HB.out i zo;rw [getD_in VX.out (Nat.le_refl _)] at hc2;have hsi:(s++u.drop (k+2)).getD i 0=s.getD i 0:=by rw [List.getD_eq_getElem?_getD,List.getElem?_append_left (by rw [HS.out];exact hlt),← List.getD_eq_getElem?_getD]
       rw [hsi] at hc2;have hc3:wr.frozen? ⟨g,j+i,none⟩=false:=aA.free HB.out _;have dvi:=dv.getD zo i;have dui:=hds.getD zo i
       have HST:Hid (∀ d o',d+o'*1000000000=s.getD i 0+o+v.getD i 0→val 1000000000 (t++[d])+o'*1000000000^(i+1)=val 1000000000 (s.take (i+1))+val 1000000000 (v.take (i+1))) :=
        fun d o' h=>yU (by rw [HS.out];exact hlt) VX.out HV.out h
       have HO:Hid (∀ d:Nat,aA (wr.setCell ⟨g,j+i,none⟩ (.int .u32 (d:Int))) g (eH (pre++((t++[d])++(s++u.drop (k+2)).drop (i+1))++post)).toArray 61∧w.grownBy (wr.setCell ⟨g,j+i,none⟩ (.int .u32 (d:Int))) (some g)):=fun d=>by
        have h1:=aA.set HB.out (j+i) (.int .u32 (d:Int));rw [List.setIfInBounds_toArray,kU,Gn HJ.out VX.out (by rw [hxl];omega)] at h1;exact ⟨h1,xR hnr _ _⟩
       clear hsi hxl HB HV;generalize v.getD i 0=y at *;generalize s.getD i 0=x at *
       by_cases hge:x+y+o<1000000000
       ·have hge':decide ((1000000000:Int)≤(x:Int)+(y:Int)+(o:Int))=false:=by rw [decide_eq_false_iff_not];omega
        have pR:=HO.out (x+y+o);rw [show ((x+y+o:Nat):Int)=(x:Int)+(y:Int)+(o:Int) by omega] at pR;have pW:=zh pR;have HN:=zh hge;clear HO pR hge;go_wp2_with fail
        go_roundw
        case rel=>exact ⟨i+1,0,t++[x+y+o],by omega,by omega,by go_num,rfl,zh (by rw [List.length_append,VX.out];rfl),hdt.snoc HN.out,zh pW.out.1,pW.out.2,zh (HST.out _ _ zo)⟩
        case measure=>exact zM
       ·have hge':decide ((1000000000:Int)≤(x:Int)+(y:Int)+(o:Int))=true:=by rw [decide_eq_true_iff];omega
        have ap0:(0:Int)≤(x:Int)+(y:Int)+(o:Int) - 1000000000:=by omega
        have pR:=HO.out (x+y+o - 1000000000);rw [show ((x+y+o - 1000000000:Nat):Int)=(x:Int)+(y:Int)+(o:Int) - 1000000000 by omega] at pR;have pW:=zh pR;have HN:=zh hge;clear HO pR hge;go_wp2_with fail
        go_roundw
        case rel=>exact ⟨i+1,1,t++[x+y+o - 1000000000],by omega,by omega,by go_num,rfl,zh (by rw [List.length_append,VX.out];rfl),hdt.snoc zo,zh pW.out.1,pW.out.2,zh (HST.out _ _ (by have:=HN.out;omega))⟩
        case measure=>exact zM
      ·have hik:i=k+2:=by omega
       subst hik
       have HR:Hid (val 1000000000 t=val 1000000000 u%val 1000000000 v):=by
        have h1:=HV.out;rw [List.take_of_length_le (by rw [HS.out];exact Nat.le_refl _),List.take_of_length_le (by rw [Yl.out];exact Nat.le_refl _),HE.out.2] at h1;have h2:=iP (by omega:0<1000000000) hdt;rw [VX.out] at h2;have h3:o=0∨o=1:=by omega
        unfold Hid
        rcases h3 with rfl|rfl<;>omega
       have HB:Hid (aA wr g (eH (pre++(t++u.drop (k+2))++post)).toArray 61):=by
        have h1:=HB.out;rw [List.drop_append_of_le_length (by rw [HS.out];exact Nat.le_refl _),List.drop_of_length_le (by rw [HS.out];exact Nat.le_refl _),List.nil_append] at h1;exact h1
       have hbf:aA wr g (eH (pre++(t++u.drop (k+2))++post)).toArray 61:=HB.out;have hn1:=Ym.out wr (t++u.drop (k+2)) (by rw [List.length_append,List.length_drop,HU.out,VX.out];omega) HB.out (k+2) zo;have hn2:wr.frozen? ⟨g,j+(k+2),none⟩=false:=hbf.free _
       have Vv:Hid (aA (wr.setCell ⟨g,j+(k+2),none⟩ (.int .u32 0)) g (eH (pre++(t++[0])++post)).toArray 61∧w.grownBy (wr.setCell ⟨g,j+(k+2),none⟩ (.int .u32 0)) (some g)):=by
        have h1:=hbf.set (j+(k+2)) (.int .u32 ((0:Nat):Int));rw [List.setIfInBounds_toArray,kU,Gn HJ.out VX.out (by rw [HU.out];omega),List.drop_eq_nil_of_le (by rw [HU.out];omega),List.append_nil] at h1;exact ⟨h1,xR hnr _ _⟩
       clear hbf HB hnr;go_wp2_with fail
       go_ret
       unfold yK;exact ⟨by rw [show val 1000000000 u / val 1000000000 v=qn - 1 by rw [HE.out.1];rfl,Int.natCast_sub hq1];rfl,Vv.out.2,t,Vv.out.1,VX.out,hdt,HR.out⟩
    ·have HE:=zh (SK (by omega:1<1000000000) Yl.out dv YS at6.out HUs.out zo Ry.out);have ao1:¬ (un:Int) - (b:Int)<(c:Int):=by omega
     have hbf:aA wr g (eH (pre++(s++u.drop (k+2))++post)).toArray 61:=HB.out;have hn1:=Ym.out wr (s++u.drop (k+2)) (by rw [List.length_append,List.length_drop,HU.out,HS.out];omega) HB.out (k+2) zo;have hn2:wr.frozen? ⟨g,j+(k+2),none⟩=false:=hbf.free _
     have Vv:Hid (aA (wr.setCell ⟨g,j+(k+2),none⟩ (.int .u32 0)) g (eH (pre++(s++[0])++post)).toArray 61∧w.grownBy (wr.setCell ⟨g,j+(k+2),none⟩ (.int .u32 0)) (some g)):=by
      have h1:=hbf.set (j+(k+2)) (.int .u32 ((0:Nat):Int));rw [List.setIfInBounds_toArray,kU,Gn HJ.out HS.out (by rw [HU.out];omega),List.drop_eq_nil_of_le (by rw [HU.out];omega),List.append_nil] at h1;exact ⟨h1,xR hnr _ _⟩
     clear hbf HB hnr;go_wp2_with fail
     go_ret
     unfold yK;exact ⟨by rw [← HE.out.1];rfl,Vv.out.2,s,Vv.out.1,HS.out,hds,HE.out.2⟩):G:=h
theorem zX (g j k cu:Nat) (pv:Option Addr) (cv:Nat) (pre u post v:List Nat) (w:World) (hj:pre.length=j) (hu:u.length=k+3) (hv:v.length=k+2) (du:fZ 1000000000 u) (dv:fZ 1000000000 v) (hk:k≤1099511627776)
  (ht:1000000000≤2*v.getD (k+1) 0) (hlt:val 1000000000 u<val 1000000000 v*1000000000) (ab8:aA w g (eH (pre++u++post)).toArray 61)
  (hd:∀ i,i<k+2→∃ b off,pv=some ⟨b,off,none⟩∧b≠g∧b<w.heap.size∧w.cell? ⟨b,off+i,none⟩=some (.int .u32 (v.getD i 0:Nat))) :
  Calls Tryz.prog 226 #[ah (some ⟨g,j,none⟩) (k+3) cu,ah pv (k+2) cv] w (yK w g k pre u post v):=ai6
def nN (w:World) (q r:Nat) (e:Ending) (w':World):Prop:=∃ vq vr,e= aj (aG #[vq,vr])∧Below w.heap.size w w'∧bW w' vq q∧bW w' vr r
theorem _root_.Go.ai5 {G:Prop} (h:G:=by
 have HX:=zh hx;have hs:=qx h;rw [Nat.div_eq_of_lt h,Nat.mod_eq_of_lt h];have HC:=zh (jM x y a b w hx hy);rw [hs] at HC;clear hx hs hy h;go_enter V5,V4
 go_wp2_with ((first|go_at_call 223|go_at_call 317);refine (HC.out).mono ?_;rintro e w1 ⟨rfl,hb1⟩)
 go_ret2
 exact ⟨_,_,rfl,hb1,bW.zero _,HX.out.later hb1⟩):G:=h
theorem Ah (x y:Value) (a b:Nat) (w:World) (hx:bW w x a) (hy:bW w y b) (h:a<b) :
  Calls Tryz.prog 143 #[x,y] w (nN w (a / b) (a%b)):=ai5
theorem _root_.Go.ai4 {G:Prop} (h:G:=by
 have hs:vZ a b=0∨vZ a b=1:=by
  rcases Nat.lt_or_ge b a with h2|h2
  ·exact .inr (oW h2)
  ·have:a=b:=by omega
   subst this;exact .inl (rQ a)
 have hdb:eF 1000000000 b=[b]:=by rw [kW zo hb0,Nat.mod_eq_of_lt hb1,Nat.div_eq_of_lt hb1,iD]
 obtain ⟨p,c,e1, -, -, e3⟩:=nC.read hy.Da;rw [hdb] at e1 e3;simp only [List.length_cons,List.length_nil,Value.slice.injEq] at e1;obtain ⟨rfl, -, rfl⟩:=e1;obtain ⟨b2,off,rfl,hb2,hcell⟩:=e3 0 zi;have hcell2:w.cell? ⟨b2,off,none⟩=some (.int .u32 (b:Int)):=by simpa using hcell
 have HC:=zh (jM _ _ a b w hx hy);have HX:=zh hx;clear hdb hcell e3 hx hy;have hmod:a%b<1000000000:=Nat.lt_trans (Nat.mod_lt _ hb0) hb1
 rcases hs with hs|hs
 all_goals
  rw [hs] at HC;clear hs;go_enter V5,V4
  go_wp2_with ((first|go_at_call 223|go_at_call 317);refine (HC.out).mono ?_;rintro e w1 ⟨rfl,ME⟩;have hc1:w1.cell? ⟨b2,off,none⟩=some (.int .u32 (b:Int)):=(ME.cell (by exact hb2)).trans hcell2)
  refine (xD _ a b _ (HX.out.later ME) zo hb0 zo).mono ?_;rintro e w2 ⟨v,rfl,MC,hv⟩;have HV:=zh hv;clear hv;generalize hm:a%b=m at *;have HM:=zh hm;clear hm;go_wp2_with fail
  refine (mW m _ zo).mono ?_;rintro e w3 ⟨v3,rfl,ap9,hv3⟩;have HV3:=zh hv3;clear hv3;go_wp2_with fail
  go_ret2
  exact ⟨_,_,rfl,Bt (Bt ME MC) ap9,HV.out.later ap9,HV3.out⟩):G:=h
theorem yx (pa pb:Option Addr) (ca cb:Nat) (a b:Nat) (w:World) (hx:bW w (ah pa (sz 1000000000 a) ca) a) (hy:bW w (ah pb 1 cb) b) (hb0:0<b) (hb1:b<1000000000) (h:b≤a) (ha:sz 1000000000 a≤549755813888) :
  Calls Tryz.prog 143 #[ah pa (sz 1000000000 a) ca,ah pb 1 cb] w (nN w (a / b) (a%b)):=ai4
theorem _root_.Go.ai3 {G:Prop} (h:G:=by
 obtain ⟨i0,hi,hz0,hz1,hz2⟩:=info_parts Ab
 have hs:vZ a b=0∨vZ a b=1:=by
  rcases Nat.lt_or_ge b a with h2|h2
  ·exact .inr (oW h2)
  ·have:a=b:=by omega
   subst this;exact .inl (rQ a)
 have hb0:0<b:=by
  rcases Nat.eq_zero_or_pos b with h0|h0
  ·rw [h0,AY] at hsb;omega
  ·exact h0
 have hkl:k+2≤sz 1000000000 a:=by rw [← hsb];exact gu zo h
 obtain ⟨ht0,htB,hs0,hs5,hsv,htv⟩:=I7 hsb;obtain ⟨hd1,hd2,hd3,hd4,hd5⟩:=dividend (a:=a) hs0 zo hsb hkl;obtain ⟨p,c,e1, -, -, e3⟩:=nC.read hy.Da;have hlb:(eF 1000000000 b).length=k+2:=hsb;rw [hlb] at e1 e3;simp only [Value.slice.injEq] at e1;obtain ⟨rfl, -, rfl⟩:=e1;obtain ⟨b2,off,rfl,hb2,hcell⟩:=e3 (k+1) zo;have HC:=zh (jM _ _ a b w hx hy);have HX:=zh hx;have HY:=zh hy;have HSV:=zh hsv;have HTV:=zh htv;have HD4:=zh hd4;have HD5:=zh hd5;have HD2:=zh hd2;have HSB:=zh hsb;clear e3 hx hy hsv htv hd4 hd5 hd2 hsb hlb;have htop:=HSB.out;generalize hT:(eF 1000000000 b).getD (k+1) 0=t at *;clear hT htop;have hdiv:((1000000000 / (t+1):Nat):Int)=1000000000 / ((t:Int)+1):=by rw [Int.natCast_ediv];rfl
 have hsc1:(0:Int)≤1000000000 / ((t:Int)+1):=by rw [← hdiv];exact Int.natCast_nonneg _
 generalize hS:1000000000 / (t+1)=S at *;have hsc2:1000000000 / ((t:Int)+1)≤500000000:=by rw [← hdiv];omega
 have NK:=zh hdiv;have HSq:=zh hS;clear hdiv hS;generalize hus:eF 1000000000 (a*S)++List.replicate (sz 1000000000 a+1 - sz 1000000000 (a*S)) 0=us at *;have HUS:=zh hus;clear hus;generalize hL:sz 1000000000 a=L at *;have HL:=zh hL;clear hL
 rcases hs with hs|hs
 all_goals
  rw [hs] at HC;clear hs;go_enter V5,V4
  go_wp2_with ((first|go_at_call 223|go_at_call 317);refine (HC.out).mono ?_;rintro e w1 ⟨rfl,ME⟩;have hc1:w1.cell? ⟨b2,off+(k+1),none⟩=some (.int .u32 (t:Int)):=(ME.cell (by exact hb2)).trans hcell)
  rw [← NK.out];refine (jQ _ _ b S _ ((HY.out.later ME).later ((Below.refl _ _).alloc (Nat.le_refl _) _)) (bW.lit hs0 zo) (by rw [HSB.out];omega) (by have:=cO (B:=1000000000) zo 1 S zo;omega)).mono ?_;rintro e w2 ⟨vv,rfl,MC,hv⟩;have hbw2:Below w.heap.size w w2:=Bt (Bt ME ((Below.refl _ _).alloc (Nat.le_refl _) _)) MC;obtain ⟨pv,cv,rfl,hv1,hv2,hv3⟩:=nC.read hv.Da;have HVR:=zh hv3;have hvl:(eF 1000000000 (b*S)).length=k+2:=HSV.out;rw [hvl] at hv1 ⊢;have Y6:=zh hvl;clear hv hv3 hvl hc1 MC;go_wp2_with (at_make;refine wpList_make_full _ rfl _ _ Iz rfl w2.heap.size 61 i0 (.int .u32 0) 1 KO hi hz0 hz1 _ _ _ _ (L+1) rfl rfl zo zo (by rw [hz2];omega) (by unfold maxLen;omega) (Nat.le_refl _) ?_)
  intro w3 hown3 hgrow3;rw [qR] at hown3;have ap7:=zh (uG hown3).1;have Cw:Below w2.heap.size w2 w3:=(Below.refl _ _).grown hgrow3 (Nat.le_refl _) (fun k h=>by cases h);clear hown3 hgrow3;go_wp2_with fail
  refine (jQ _ _ a S _ ((HX.out.later (Bt hbw2 Cw)).later ((Below.refl _ _).alloc (Nat.le_refl _) _)) (bW.lit hs0 zo) (by rw [HL.out];omega) (by have:=cO (B:=1000000000) zo 1 S zo;omega)).mono ?_;rintro e w4 ⟨vt,rfl,ap8,hvt⟩;obtain ⟨pt,ct,rfl,ht1,ht2,ht3⟩:=nC.read hvt.Da;have ac0:Below w3.heap.size w3 w4:=Bt ((Below.refl _ _).alloc (Nat.le_refl _) _) ap8;have ap6:=zh (ap7.out.later ac0);have aq4:=Bt Cw ac0;have HTS:=zh (fun h=>nC.src ht3 h);clear hvt ht3 ap8 ap7
  go_wp2_with (refine wpList_copy_splice (o:=⟨some 54,_,_,_,_,_⟩) rfl (.tmp 49) (.tmp 53) Iz Iz rfl 61 KO (by rw [hi];simp [hz1]) _ _ _ _ _ _ rfl rfl w2.heap.size 0 (eH (List.replicate (L+1) 0)) 61 ap6.out (eH (eF 1000000000 (a*S))) (by rw [fB];exact (Nat.min_eq_left hd1).symm) (fun h=>⟨rfl,HTS.out h⟩) (by rw [Nat.zero_add,fB,fB,List.length_replicate];exact hd1) (Gg _) w2.heap.size w2 aq4 (Nat.le_refl _) ?_)
  intro w5 ap5 aq3
  have Us:Hid (aA w5 w2.heap.size (eH us).toArray 61):=by
   have h1:=ap5.out;unfold splice at h1
   have e:List.take 0 (eH (List.replicate (L+1) 0))++(eH (eF 1000000000 (a*S))++List.drop (0+(eH (eF 1000000000 (a*S))).length) (eH (List.replicate (L+1) 0)))=eH us:=by
    rw [← HUS.out];unfold eH sz;simp
   rw [e] at h1;exact h1
  have hg5:w2.heap.size<w5.heap.size:=aA.lt Us.out;clear ap5 ap6 HTS;go_wp2_with (at_make;refine wpList_make_full _ rfl _ _ Iz rfl w5.heap.size 61 i0 (.int .u32 0) 1 KO hi hz0 hz1 _ _ _ _ (L - (k+2)+1) rfl rfl zo zo (by rw [hz2];omega) (by unfold maxLen;omega) (Nat.le_refl _) ?_)
  intro w6 hown6 Ur;rw [qR] at hown6;have aq0:=zh (uG hown6).1;have ab9:Below w5.heap.size w5 w6:=(Below.refl _ _).grown Ur (Nat.le_refl _) (fun k h=>by cases h);have aq1:=zh (Us.out.later ab9);have aq2:Below w2.heap.size w2 w6:=aq3.trans (ab9.mono (Nat.le_of_lt hg5));clear hown6 Ur Us ab9;go_wp2_with fail
  go_loopw [12] (fun jv wr=>∃ (q:Int) (s qs:List Nat), -1≤q∧q≤(L:Int) - ((k:Int)+2)∧jv= .int .i64 q∧Hid (s.length=k+2)∧fZ 1000000000 s∧fZ 1000000000 qs∧Hid (qs.length+(q+1).toNat=L - (k+2)+1) ∧
    Hid (aA wr w2.heap.size (eH (us.take (q+1).toNat++(s++List.replicate (L+1 - (q+1).toNat - (k+2)) 0))).toArray 61)∧Hid (aA wr w5.heap.size (eH (List.replicate (q+1).toNat 0++qs)).toArray 61) ∧
    Hid (val 1000000000 (us.drop (q+1).toNat)=b*S*val 1000000000 qs+val 1000000000 s)∧Hid (val 1000000000 s<b*S)∧Below w2.heap.size w2 wr) (fun jv _=>(intOf jv+1).toNat)
  case atStart =>
   have e:((L:Int) - ((k:Int)+2)+1).toNat=L - (k+2)+1:=by omega
   refine ⟨(L:Int) - ((k:Int)+2),us.drop (L - (k+2)+1),[],by omega,Int.le_refl _,rfl,zh (by rw [List.length_drop,HD2.out];omega),hd3.drop _,fZ.nil,zh (by rw [e];simp),zh ?_,zh ?_,zh (by rw [e];simp [val]),HD5,aq2⟩
   ·rw [e,show L+1 - (L - (k+2)+1) - (k+2)=0 by omega,List.replicate_zero,List.append_nil,List.take_append_drop];exact aq1.out
   ·rw [e,List.append_nil];exact aq0.out
  case round =>
   clear aq1 aq0 aq2 aq3 aq4 Cw ac0;obtain ⟨q,s,qs,hq1,hq2,rfl,HSL,hds,Iu,HQL,Yq,HBH,HVE,at0,hbr⟩:=hrel
   by_cases hq:q<0
   ·have hq0:q= -1:=by omega
    subst hq0;have e0:((-1:Int)+1).toNat=0:=by omega
    rw [e0] at Yq HBH HVE HQL;simp only [List.take_zero,List.nil_append,List.replicate_zero,List.drop_zero,Nat.add_zero,Nat.sub_zero] at Yq HBH HVE HQL;have HE:=zh (TU hs0 (by rw [← HD4.out];exact HVE.out) at0.out);have hbw:Below w.heap.size w wr:=Bt hbw2 hbr;have hDu:=zh (nC.wE (n:=k+2) (m:=L+1) Yq.out HSL.out zo zo);have hDq:=zh (nC.wE (n:=L - (k+2)+1) (m:=L - (k+2)+1) (post:=[]) (by rw [List.append_nil];exact HBH.out) HQL.out zo zo);have hle:val 1000000000 s / S≤b:=by rw [HE.out.2];exact Nat.le_of_lt (Nat.mod_lt _ hb0)
    have hsz:sz 1000000000 (val 1000000000 s)≤k+2:=cO zo _ _ (by have:=iP (by omega:0<1000000000) hds;rwa [HSL.out] at this);go_wp2_with fail
    refine (pX _ _ _ hDu.out hds).mono ?_;rintro e w' ⟨v1,rfl,rfl,hv1⟩;go_wp2_with fail
    refine (xD _ _ S _ hv1 zo hs0 zo).mono ?_;rintro e w7 ⟨v2,rfl,jP,hv2⟩;have Bj:=zh hv2;clear hv2;go_wp2_with fail
    refine (pX _ _ _ (hDq.out.later jP) Iu).mono ?_;rintro e w' ⟨v3,rfl,rfl,hv3⟩;have HV3:=zh hv3;clear hv3;go_wp2_with fail
    go_ret2
    exact ⟨v3,v2,rfl,Bt hbw jP,by rw [← HE.out.1];exact HV3.out,by rw [← HE.out.2];exact Bj.out⟩
   ·obtain ⟨j,rfl⟩:=Int.eq_ofNat_of_zero_le (by omega:0≤q);have ej:((j:Int)+1).toNat=j+1:=by omega
    rw [ej] at Yq HBH HVE HQL;have hjl:j<us.length:=by rw [HD2.out];omega
    go_wp2_with fail
    rw [show j+(k+2)+1 - j=k+3 by omega];have hux:us.getD j 0<1000000000:=hd3.getD zo j;have e1:us.take (j+1)++(s++List.replicate (L+1 - (j+1) - (k+2)) 0)=us.take j++(us.getD j 0::s)++List.replicate (L+1 - (j+1) - (k+2)) 0:=by rw [kC hjl];simp
    rw [e1] at Yq;have HW:=zh (PS hux at0.out);refine (zX w2.heap.size j k (L+1 - j) pv cv (us.take j) (us.getD j 0::s) (List.replicate (L+1 - (j+1) - (k+2)) 0) (eF 1000000000 (b*S)) wr (by rw [List.length_take];omega) (by simp [HSL.out]) Y6.out (hds.cons hux) (cZ zo _) zo HTV.out (by rw [bQ zo];exact HW.out) Yq.out (fun i hi=>?_)).mono ?_
    ·obtain ⟨b',off',e1,h1,h2⟩:=HVR.out i (by rw [Y6.out];exact hi);exact ⟨b',off',e1,Nat.ne_of_lt h1,Nat.lt_of_lt_of_le h1 hbr.size,(hbr.cell (by exact h1)).trans h2⟩
    ·rintro e wx ⟨rfl,YN,s',hB',an8,az7,aa8⟩;rw [bQ zo] at aa8 ⊢;have HB':=zh hB';have au1:=zh aa8;have aF7:=zh an8;have hbx:Below w2.heap.size w2 wx:=EH hbr YN hbr.size (Nat.le_refl _);have hBx:aA wx w5.heap.size (eH (List.replicate (j+1) 0++qs)).toArray 61:=(YN.block _ (aA.lt HBH.out) (by simp;omega)).trans HBH.out;have rC:=zh hBx;clear hB' aa8 an8 hBx;generalize hqh:val 1000000000 (us.getD j 0::s) / (b*S)=qh at *;have HQH:=zh hqh;clear hqh
     have HQ0:wx.cell? ⟨w5.heap.size,j,none⟩=some (.int .u32 0):=by
      rw [rC.out.cell,List.getElem?_toArray,nP (by simp;omega),uU zo];rfl
     have HQF:wx.frozen? ⟨w5.heap.size,j,none⟩=false:=rC.out.free _;go_wp2_with fail
     have hbs:0<b*S:=Nat.mul_pos hb0 hs0;have hqd:qh<1000000000:=by rw [← HQH.out];exact Nat.div_lt_of_lt_mul HW.out
     have YU:((j:Int) - 1+1).toNat=j:=by omega
     have Ut:((⟨w5.heap.size,j,none⟩:Addr).block)=w5.heap.size:=rfl;refine ⟨⟨(j:Int) - 1,s',qh::qs,by omega,by omega,rfl,aF7,az7,Iu.cons hqd,zh ?_,zh ?_,zh ?_,zh ?_,zh ?_,?_⟩,?_⟩
     ·rw [YU,List.length_cons];have:=HQL.out;omega
     ·have h1:=HB'.out.setOther (a:=⟨w5.heap.size,j,none⟩) (.int .u32 (qh:Int)) (by simp;omega);rw [YU]
      have e2:us.take j++(s'++[0])++List.replicate (L+1 - (j+1) - (k+2)) 0=us.take j++(s'++List.replicate (L+1 - j - (k+2)) 0):=by
       rw [show L+1 - j - (k+2)=(L+1 - (j+1) - (k+2))+1 by omega,List.replicate_succ];simp
      rw [e2] at h1;exact h1
     ·have h1:=rC.out.set j (.int .u32 (qh:Int));rw [List.setIfInBounds_toArray,kU,xG] at h1;rw [YU];exact h1
     ·rw [YU];exact QG hjl HVE.out HQH.out.symm au1.out
     ·rw [au1.out];exact Nat.mod_lt _ hbs
     ·exact hbx.setCell (by simp;omega) _
     ·simp only [intOf];omega):G:=h
theorem Ag (pa pb:Option Addr) (ca cb:Nat) (a b k:Nat) (w:World) (hx:bW w (ah pa (sz 1000000000 a) ca) a) (hy:bW w (ah pb (k+2) cb) b) (hsb:sz 1000000000 b=k+2) (h:b≤a) (ha:sz 1000000000 a≤549755813888) :
  Calls Tryz.prog 143 #[ah pa (sz 1000000000 a) ca,ah pb (k+2) cb] w (nN w (a / b) (a%b)):=ai3
theorem _root_.Go.ai2 {G:Prop} (h:G:=by
 rcases Nat.lt_or_ge a b with h|h
 ·exact Ah x y a b w hx hy h
 ·obtain ⟨p,c,e1, -, -, -⟩:=nC.read hx.Da;obtain ⟨q,d,e2, -, -, -⟩:=nC.read hy.Da
  have hp:sz 1000000000 b≠0:=fun h0=>by
   have:=(nX (B:=1000000000) zo (n:=b)).mp (List.length_eq_zero_iff.mp h0);omega
  have e3:(eF 1000000000 b).length=sz 1000000000 b:=rfl;rw [e3] at e2;subst e1
  rcases Nat.lt_or_ge (sz 1000000000 b) 2 with h2|h2
  ·have h1:sz 1000000000 b=1:=by omega
   rw [h1] at e2;subst e2;have:=jg (B:=1000000000) zo b;rw [h1] at this;exact yx p q c d a b w hx hy hb zo h ha
  ·obtain ⟨k,hk⟩:∃ k,sz 1000000000 b=k+2:=⟨sz 1000000000 b - 2,by omega⟩;rw [hk] at e2;subst e2;exact Ag p q c d a b k w hx hy hk h ha):G:=h
theorem iw (x y:Value) (a b:Nat) (w:World) (hx:bW w x a) (hy:bW w y b) (hb:0<b) (ha:sz 1000000000 a≤549755813888) :
  Calls Tryz.prog 143 #[x,y] w (nN w (a / b) (a%b)):=ai2
end Go.Proofs.fu
