/- Lemmas for the proof. No condition. -/
import Derived.Test.YtbngfhgoeoncmaaGreatDoorTB06
import Derived.Test.YtbngfhgoeoncmaaGreatDoorTB17
import Derived.Deep.DeepCutAuto
import Derived.Deep.CutBlock
set_option linter.unusedVariables false
set_option linter.unusedSimpArgs false
set_option maxRecDepth 100000
set_option maxHeartbeats 16000000
open Go.Ending renaming returned → ah
open Go.Value renaming int → Z, slice → aj, tuple → aF
namespace Go.Proofs.dw
open Go Go.RowKit Go.SW Go.Num Go.Mem Go.Proofs
theorem _root_.Go.Vu {G:Prop} (h:G:=by
 obtain ⟨i0,hi,hz0,hz1,hz2⟩:=info_parts uR;go_enter VL,VK
 go_wp2_with (at_make;refine wpList_make_full _ rfl _ _ DV rfl w.heap.size 22 i0 (.int .u32 0) 1 D9 hi hz0 hz1 _ _ _ _ l.length rfl rfl zo zo (by rw [hz2];omega) (by unfold maxLen;omega) (Nat.le_refl _) ?_)
 intro w0 hown0 oG;rw [o7] at hown0
 go_wp2
 go_loopw [7,8] (fun rv iv wr=>∃ (q:Int) (r:Nat) (s:List Nat), -1≤q∧q<l.length∧r<d∧iv= .int .i64 q∧rv= .int .u64 r∧Hid (s.length=l.length - (q+1).toNat) ∧
   wr.ownsRow w.heap.size 22 1 (.slice (some ⟨w.heap.size,0,none⟩) l.length l.length) l.length (dB (List.replicate (q+1).toNat 0++s))∧gF 1000000000 s∧Hid (val 1000000000 (l.drop (q+1).toNat)=d*val 1000000000 s+r)∧Below w.heap.size w wr)
  (fun _ iv _=>(intOf iv+1).toNat)
 case atStart =>
  have e:((l.length:Int) - 1+1).toNat=l.length:=by omega
  exact ⟨(l.length:Int) - 1,0,[],by omega,by omega,hd0,rfl,rfl,zh (by rw [e];simp),by rw [e,List.append_nil];exact hown0,gF.nil,zh (by rw [e,List.drop_length];simp [val]),(Below.refl _ _).grown oG (Nat.le_refl _) (fun k h=>by cases h)⟩
 case round =>
  obtain ⟨q,r,s,hq1,hq2,hrd,rfl,rfl,HS,hown,hds,HV,hb⟩:=hrel
  by_cases hq:q<0
  ·have hq0:q= -1:=by omega
   subst hq0;have HF:Hid (val 1000000000 l=d*val 1000000000 s+r):=zh (by have:=HV.out;simpa using this);have hown3:kP wr (.slice (some ⟨w.heap.size,0,none⟩) l.length l.length) s:=by have:=kP.jN hown;simpa using this
   have e1:Hid (val 1000000000 l / d=val 1000000000 s):=by unfold Hid;rw [HF.out,Nat.mul_add_div hd0,Nat.div_eq_of_lt hrd,Nat.add_zero]
   have e2:Hid (val 1000000000 l%d=r):=by unfold Hid;rw [HF.out,Nat.mul_add_mod,Nat.mod_eq_of_lt hrd]
   clear hown HV HF HS hc;go_wp2_with ((first|go_at_call 161|go_at_call 248|go_at_call 212);refine (nk _ _ _ hown3 hds).mono ?_;rintro e w' ⟨v,rfl,rfl,hv⟩)
   go_ret2
   exact ⟨v,by rw [e2.out];rfl,hb,by rw [e1.out];exact hv⟩
  ·obtain ⟨j,rfl⟩:=Int.eq_ofNat_of_zero_le (by omega:0≤q);have ej:((j:Int)+1).toNat=j+1:=by omega
   have hjl:j<l.length:=by omega
   rw [ej] at HS HV hown;obtain ⟨b,off,rfl,hbb,hx0⟩:=hc j hjl;have hx:wr.cell? ⟨b,off+j,none⟩=some (.int .u32 (l.getD j 0:Nat)):=(hb.cell (by exact hbb)).trans hx0;have hdl:l.getD j 0<1000000000:=hl.getD zo j;have hlen:(List.replicate (j+1) 0++s).length=l.length:=by rw [List.length_append,List.length_replicate,HS.out];omega
   have hr1:wr.cell? ⟨w.heap.size,j,none⟩=some (.int .u32 0):=by
    rw [hown.cellAt j zo,mE (by rw [hlen];exact hjl),BU zo];rfl
   have hr2:wr.frozen? ⟨w.heap.size,j,none⟩=false:=hown.frozenAt j;have HP:=zh (Io hjl HV.out);have hdg:=EP hrd hdl;have hmd:=Nat.mod_lt (r*1000000000+l.getD j 0) hd0
   have HO:Hid (∀ d:Nat,(wr.setCell ⟨w.heap.size,j,none⟩ (.int .u32 (d:Int))).ownsRow w.heap.size 22 1 (.slice (some ⟨w.heap.size,0,none⟩) l.length l.length) l.length (dB (List.replicate j 0++d::s))∧Below w.heap.size w (wr.setCell ⟨w.heap.size,j,none⟩ (.int .u32 (d:Int)))):=fun d=>by
    have h1:=(hown.stored j (.int .u32 (d:Int))).1;rw [jY,ET] at h1;exact ⟨h1,hb.setCell (Nat.le_refl _) _⟩
   clear hx0 hc hown hlen;generalize l.getD j 0=x at *;have hqi:(((r*1000000000+x) / d:Nat):Int)=((r:Int)*1000000000+(x:Int)) / (d:Int):=by rw [Int.natCast_ediv,Int.natCast_add,Int.natCast_mul];rfl
   have hmi:(((r*1000000000+x)%d:Nat):Int)=((r:Int)*1000000000+(x:Int))%(d:Int):=by rw [Int.natCast_emod,Int.natCast_add,Int.natCast_mul];rfl
   generalize (r*1000000000+x) / d=Q at *;generalize (r*1000000000+x)%d=M at *;have g1:0≤((r:Int)*1000000000+(x:Int)) / (d:Int):=by rw [← hqi];omega
   have g2:((r:Int)*1000000000+(x:Int)) / (d:Int)≤999999999:=by rw [← hqi];omega
   have g3:0≤((r:Int)*1000000000+(x:Int))%(d:Int):=by rw [← hmi];omega
   have g4:((r:Int)*1000000000+(x:Int))%(d:Int)≤999999999:=by rw [← hmi];omega
   have oL:=HO.out Q;rw [hqi] at oL;have tQ:=zh oL;have HM:=zh hmi;have HG:=zh hdg;have YW:=zh hmd;clear oL HO hqi hmi hdg hmd
   go_wp2
   go_roundw
   case rel=>exact ⟨(j:Int) - 1,M,Q::s,by omega,by omega,YW.out,rfl,by rw [HM.out],zh (by rw [List.length_cons,HS.out];omega),by rw [show ((j:Int) - 1+1).toNat=j by omega];exact tQ.out.1,hds.cons HG.out,zh (by rw [show ((j:Int) - 1+1).toNat=j by omega];exact HP.out),tQ.out.2⟩
   case measure=>simp [intOf]):G:=h
theorem nL (pl:Option Addr) (cl:Nat) (l:List Nat) (d:Nat) (w:World) (hl:gF 1000000000 l) (hb1:l.length≤1099511627776) (hd0:0<d) (hd1:d≤1000000000)
   (hc:∀ k,k<l.length→∃ b off,pl=some ⟨b,off,none⟩∧b<w.heap.size∧w.cell? ⟨b,off+k,none⟩=some (.int .u32 (l.getD k 0:Nat))) :
    Calls Tryz.prog 159 #[aj pl l.length cl,Z .u32 d] w fun e w'=>∃ v,e= ah (aF #[v,Z .u32 (val 1000000000 l%d:Nat)])∧Below w.heap.size w w'∧aT w' v (val 1000000000 l / d):=Vu
theorem qX (x:Value) (a d:Nat) (w:World) (hx:aT w x a) (ha:sz 1000000000 a≤1099511627776) (hd0:0<d) (hd1:d≤1000000000) :
  Calls Tryz.prog 159 #[x,Z .u32 d] w fun e w'=>∃ v,e= ah (aF #[v,Z .u32 (a%d:Nat)])∧Below w.heap.size w w'∧aT w' v (a / d):=by
 obtain ⟨pa,ca,rfl,h1,h2,h3⟩:=kP.read hx.xM;have:=nL pa ca _ d w (eH zo a) ha hd0 hd1 h3
 rwa [dh zo] at this
theorem _root_.Go.Zf {G:Prop} (h:G:=by
 have HV0:=zh hv;clear hv;go_enter Zr,Zq
 go_wp2
 go_loop [3,4] (fun rv iv=>∃ (q:Int) (r:Nat), -1≤q∧q<l.length∧iv= .int .i64 q∧rv= .int .u64 r∧Hid (r=val 1000000000 (l.drop (q+1).toNat)))
  (fun _ iv=>(intOf iv+1).toNat)
 case atStart =>
  have e:((l.length:Int) - 1+1).toNat=l.length:=by omega
  exact ⟨(l.length:Int) - 1,0,by omega,by omega,rfl,rfl,zh (by rw [e,List.drop_length];rfl)⟩
 case round =>
  obtain ⟨q,r,hq1,hq2,rfl,rfl,HV⟩:=hrel
  by_cases hq:q<0
  ·have hq0:q= -1:=by omega
   subst hq0
   go_wp2
   go_ret
   exact ⟨by have:=HV.out;rw [show ((-1:Int)+1).toNat=0 by omega,List.drop_zero] at this;rw [← this];rfl,rfl⟩
  ·obtain ⟨j,rfl⟩:=Int.eq_ofNat_of_zero_le (by omega:0≤q);have ej:((j:Int)+1).toNat=j+1:=by omega
   have hjl:j<l.length:=by omega
   rw [ej] at HV;obtain ⟨b,off,rfl,hbb,hx⟩:=hc j hjl;have HS:=zh (yN (B:=1000000000) hjl)
   have hbd:r*1000000000+l.getD j 0≤18446744073709551615:=by
    have h1:=HS.out;have h2:=wE 1000000000 zo l j;have h3:=HV0.out;have h4:=HV.out;rw [← h4] at h1;omega
   clear hc;generalize l.getD j 0=x at *
   go_wp2
   go_round
   case rel=>exact ⟨(j:Int) - 1,r*1000000000+x,by omega,by omega,rfl,by go_num,zh (by rw [show ((j:Int) - 1+1).toNat=j by omega,HS.out,← HV.out])⟩
   case measure=>simp [intOf]):G:=h
theorem ug (pl:Option Addr) (cl:Nat) (l:List Nat) (w:World) (hm:l.length≤9223372036854775807) (hv:val 1000000000 l≤18446744073709551615)
   (hc:∀ k,k<l.length→∃ b off,pl=some ⟨b,off,none⟩∧b<w.heap.size∧w.cell? ⟨b,off+k,none⟩=some (.int .u32 (l.getD k 0:Nat))) :
    Calls Tryz.prog 157 #[aj pl l.length cl] w fun e w'=>e= ah (Z .u64 (val 1000000000 l:Nat))∧w=w':=Zf
theorem yO (x:Value) (a:Nat) (w:World) (hx:aT w x a) (ha:a≤18446744073709551615) :
  Calls Tryz.prog 157 #[x] w fun e w'=>e= ah (Z .u64 (a:Nat))∧w=w':=by
 obtain ⟨pa,ca,rfl,h1,h2,h3⟩:=kP.read hx.xM;have:=ug pa ca _ w zo (by rw [dh zo];exact ha) h3
 rwa [dh zo] at this
theorem _root_.Go.Vt {G:Prop} (h:G:=by
 obtain ⟨i0,hi,hz0,hz1,hz2⟩:=info_parts uR;go_enter VJ,VI
 go_wp2
 go_loopw [0,3] (fun av mv wr=>∃ (b:Nat) (s:List Nat),b≤18446744073709551615∧s.length≤3∧av= .int .u64 b∧wr.ownsRow w.heap.size 22 1 mv s.length (dB s)∧Hid (s++fG 1000000000 b=fG 1000000000 a)∧Below w.heap.size w wr)
  (fun av _ _=>(intOf av).toNat)
 case atStart=>exact ⟨a,[],ha,by simp,rfl,World.ownsRow_nil _ _ _ _,zh rfl,Below.refl _ _⟩
 case round =>
  obtain ⟨b,s,hb1,hb2,rfl,hown,HD,hb⟩:=hrel
  rcases Nat.eq_zero_or_pos b with h0|h0
  ·subst h0
   go_wp2
   go_ret
   refine ⟨_,rfl,hb,?_⟩;have e:=HD.out;rw [gY,List.append_nil] at e;subst e;exact Row.jN hown
  ·have HN:Hid ((s++[b%1000000000])++fG 1000000000 (b / 1000000000)=fG 1000000000 a):=by
    unfold Hid;rw [← HD.out,j3 zo h0,List.append_assoc];rfl
   have hdv:b / 1000000000<b:=Nat.div_lt_self h0 zo
   have hl3:s.length+1≤3:=by
    have h1:=congrArg List.length HN.out;have h2:=cZ (B:=1000000000) zo 3 a zo;unfold sz at h2;simp only [List.length_append,List.length_cons,List.length_nil] at h1;omega
   go_wp2_with (at_builtin;refine wpList_append_own _ rfl (.tmp 8) (.tmp 12) DV rfl w.heap.size 22 i0 (.int .u32 0) 1 4 D9 hi hz0 hz1 hz2 rfl zd _ _ _ rfl (hown.alloc _) ⟨wr.heap.size,0,none⟩ 1 1 [.int .u32 ((b:Int)%1000000000)] rfl rfl (by intro t u ht;match t,ht with|0,ht=>simp at ht;subst ht;simp [Addr.add]) (by intro u hu;simp at hu;subst hu;rfl) (by unfold maxLen;omega) zo (by have:=hb.size;simp;omega) ?_)
   intro v' w1 hown1 hgrow1 _
   have hown2:w1.ownsRow w.heap.size 22 1 v' (s++[b%1000000000]).length (dB (s++[b%1000000000])):=by
    have e:dB (s++[b%1000000000])=dB s++[.int .u32 ((b:Int)%1000000000)]:=by unfold dB;simp only [List.map_append,List.map_cons,List.map_nil];rfl
    rw [e,List.length_append];exact hown1
   have hb3:Below w.heap.size w w1:=(hb.alloc hb.size _).grown hgrow1 (by simp;have:=hb.size;omega) (fun k hk=>(hown.lt k hk).1);clear hown hown1 hgrow1
   go_wp2
   go_roundw
   case rel=>exact ⟨b / 1000000000,s++[b%1000000000],by omega,by rw [List.length_append];exact hl3,by go_num,hown2,HN,hb3⟩
   case measure=>simp [intOf];omega):G:=h
theorem jP (a:Nat) (w:World) (ha:a≤18446744073709551615) :
  Calls Tryz.prog 158 #[Z .u64 a] w fun e w'=>∃ v,e= ah v∧Below w.heap.size w w'∧aT w' v a:=Vt
def qE (w:World) (g k:Nat) (pre u post v:List Nat) (e:Ending) (w':World):Prop :=
 e= ah (Z .u32 (val 1000000000 u / val 1000000000 v:Nat))∧w.grownBy w' (some g) ∧
   ∃ s,aA w' g (dB (pre++(s++[0])++post)).toArray 22∧s.length=k+2∧gF 1000000000 s∧val 1000000000 s=val 1000000000 u%val 1000000000 v
theorem _root_.Go.Vs {G:Prop} (h:G:=by
 obtain ⟨bv,ov,rfl,hbg,hbv,_⟩:=hd 0 zo
 have hvc:∀ (w':World),w.grownBy w' (some g)→∀ i,i<k+2→w'.cell? ⟨bv,ov+i,none⟩=some (.int .u32 (v.getD i 0:Nat)):=fun w' hg i hi=>by
  obtain ⟨b,off,h1,h2,h3,h4⟩:=hd i hi;simp only [Option.some.injEq,Addr.mk.injEq,and_true] at h1;obtain ⟨rfl,rfl⟩:=h1;exact hg.cell h4 (by simpa using h2)
 have huc:∀ (w':World) (x:List Nat),x.length=k+3→aA w' g (dB (pre++x++post)).toArray 22→∀ i,i<k+3→w'.cell? ⟨g,j+i,none⟩=some (.int .u32 (x.getD i 0:Nat)):=fun w' x hx hb i hi=>by
  rw [hb.cell,List.getElem?_toArray,mE (by simp;omega)];rw [List.getD_eq_getElem?_getD,List.append_assoc,List.getElem?_append_right zo,hj,Nat.add_sub_cancel_left,List.getElem?_append_left zo];rfl
 have HVC:=zh hvc;have Um:=zh huc;have Uq:=zh Tk;have HLT:=zh hlt;have HU:=zh hu;have Uk:=zh hv;have HJ:=zh hj;clear hvc huc hd Tk hlt hu hv hj;have h1:=HVC.out w ⟨rfl,rfl,rfl,Nat.le_refl _,fun _ _ _=>rfl⟩ (k+1) zo;have h2:=HVC.out w ⟨rfl,rfl,rfl,Nat.le_refl _,fun _ _ _=>rfl⟩ k zo;have h3:=Um.out w u HU.out Uq.out (k+2) zo;have h4:=Um.out w u HU.out Uq.out (k+1) zo;have h5:=Um.out w u HU.out Uq.out k zo;have b1:=dv.getD zo (k+1);have b2:=dv.getD zo k;have b3:=du.getD zo (k+2);have b4:=du.getD zo (k+1);have b5:=du.getD zo k;have HG0:=zh (FV zo HU.out Uk.out du ht HLT.out dv);have HGS:=zh (fun q r=>Jd (k:=k) (q:=q) (r:=r) (by omega:1<1000000000) HU.out Uk.out du zo HLT.out);have HGE:=zh (fun q r=>MB (k:=k) (q:=q) (r:=r) (by omega:1<1000000000) HU.out Uk.out dv zo);have ao4:=zh ht;clear ht;generalize hT:v.getD (k+1) 0=top at *
 generalize hV2:v.getD k 0=v2 at *;generalize hUN:u.getD (k+2) 0=un at *;generalize hU1:u.getD (k+1) 0=u1 at *;generalize hU2:u.getD k 0=u2 at *;have HT:=zh hT;have Ig:=zh hV2;have HUN:=zh hUN;have HU1:=zh hU1;have HU2:=zh hU2;clear hT hV2 hUN hU1 hU2;have htop:500000000≤top:=by have:=ao4.out;omega
 go_enter VH,VG
 go_wp2_with fail
 go_quiet (fail)
 obtain ⟨nq0,rfl⟩:∃ m,m=nq:=⟨nq,rfl⟩;go_wp2_with fail
 go_quiet (fail)
 have hw1:w.grownBy ((w.drewN nq0).drewN nq) (some g):=ko (ko (BO w _) _) _;have Ja:Hid (aA ((w.drewN nq0).drewN nq) g (dB (pre++u++post)).toArray 22):=Uq.out;obtain ⟨W,hW⟩:∃ W,W=(w.drewN nq0).drewN nq:=⟨_,rfl⟩;rw [← hW] at hw1 Ja ⊢;clear hW h1 h2 h3 h4 h5;have Tc:(((un*1000000000+u1) / top:Nat):Int)=((un:Int)*1000000000+(u1:Int)) / (top:Int):=by rw [Int.natCast_ediv,Int.natCast_add,Int.natCast_mul];rfl
 have hrd:(((un*1000000000+u1)%top:Nat):Int)=((un:Int)*1000000000+(u1:Int))%(top:Int):=by rw [Int.natCast_emod,Int.natCast_add,Int.natCast_mul];rfl
 rw [← Tc,← hrd];clear Tc hrd;have hr0:(un*1000000000+u1)%top<1000000000:=Nat.lt_trans (Nat.mod_lt _ zo) b1;generalize (un*1000000000+u1) / top=q0 at *;generalize (un*1000000000+u1)%top=r0 at *
 go_upto_block 0 with fail
 go_cut [8,9] from 19 (fun q r wc=>∃ qn:Nat,q= .int .u64 qn∧qn≤1000000000∧Hid (val 1000000000 u / val 1000000000 v≤qn)∧Hid (qn≤val 1000000000 u / val 1000000000 v+1)∧w.grownBy wc (some g)∧Hid (aA wc g (dB (pre++u++post)).toArray 22))
 case first =>
  go_wp2_with fail
  go_loopw [8,9] (fun q r wr=>∃ qn rn:Nat,q= .int .u64 qn∧r= .int .u64 rn∧rn<1000000000∧Hid (H9 1000000000 (val 1000000000 u) (val 1000000000 v) top (un*1000000000+u1) qn rn)∧w.grownBy wr (some g)∧Hid (aA wr g (dB (pre++u++post)).toArray 22))
   (fun q _ _=>(intOf q).toNat)
  case atStart=>exact ⟨q0,r0,rfl,rfl,hr0,HG0,hw1,Ja⟩
  case round =>
   obtain ⟨qn,rn,rfl,rfl,hrb,HG,hnr,HB⟩:=hrel;have h2:=HVC.out wr hnr k zo;have h5:=Um.out wr u HU.out HB.out k zo;rw [Ig.out] at h2;rw [HU2.out] at h5;have hqb:qn≤1000000001:=HG.out.bound
   have hpr:Hid (0≤(qn:Int)*(v2:Int)∧(qn:Int)*(v2:Int)≤1000000001*999999999):=by
    have h:qn*v2≤1000000001*999999999:=Nat.mul_le_mul hqb zo;unfold Hid;rw [← Int.natCast_mul];omega
   obtain ⟨hp1,hp2⟩:=hpr
   by_cases hc:1000000000≤qn
   ·have HS:=zh (HGS.out qn rn HG.out (.inl hc));have hge:decide ((1000000000:Int)≤(qn:Int))=true:=by rw [decide_eq_true_iff];omega
    have HC:=zh hc;have hq1:1≤qn:=by omega
    clear hc
    by_cases hr:1000000000≤rn+top
    ·have hrd:decide ((1000000000:Int)≤(rn:Int)+(top:Int))=true:=by rw [decide_eq_true_iff];omega
     have HR:=zh hr;clear hr;go_wp2_with fail
     go_quiet (fail)
     go_wp2_with fail
     go_meet
     have g2:=HS.out.2;have hq2:qn - 1≤1000000000:=by omega
     have h3:(qn - 1)*v2≤(rn+top)*1000000000+u2:=by
      have h4:(qn - 1)*v2≤1000000000*1000000000:=Nat.mul_le_mul hq2 zo;have h5:=HR.out;omega
     exact ⟨qn - 1,by go_num,hq2,zh g2.high,zh (HGE.out _ _ g2 hq2 h3),ko hnr _,HB⟩
    ·have hrd:decide ((1000000000:Int)≤(rn:Int)+(top:Int))=false:=by rw [decide_eq_false_iff_not];omega
     have HR:=zh hr;clear hr;go_wp2_with fail
     go_quiet (fail)
     go_wp2_with fail
     go_roundw
     case rel=>exact ⟨qn - 1,rn+top,by go_num,by go_num,Nat.lt_of_not_le HR.out,zh HS.out.2,ko hnr _,HB⟩
     case measure=>exact zM
   ·have hge:decide ((1000000000:Int)≤(qn:Int))=false:=by rw [decide_eq_false_iff_not];omega
    have HC:=zh hc;have hq2:qn≤999999999:=by omega
    clear hc
    by_cases ht:rn*1000000000+u2<qn*v2
    ·have HS:=zh (HGS.out qn rn HG.out (.inr ht));have hq1:1≤qn:=HS.out.1;have hlt:(rn:Int)*1000000000+(u2:Int)<(qn:Int)*(v2:Int):=by rw [← Int.natCast_mul];omega
     clear ht
     by_cases hr:1000000000≤rn+top
     ·have hrd:decide ((1000000000:Int)≤(rn:Int)+(top:Int))=true:=by rw [decide_eq_true_iff];omega
      have HR:=zh hr;clear hr;go_wp2_with fail
      go_quiet (fail)
      go_wp2_with fail
      go_meet
      have g2:=HS.out.2;have hq2:qn - 1≤1000000000:=by omega
      have h3:(qn - 1)*v2≤(rn+top)*1000000000+u2:=by
       have h4:(qn - 1)*v2≤1000000000*1000000000:=Nat.mul_le_mul hq2 zo;have h5:=HR.out;omega
      exact ⟨qn - 1,by go_num,hq2,zh g2.high,zh (HGE.out _ _ g2 hq2 h3),ko hnr _,HB⟩
     ·have hrd:decide ((1000000000:Int)≤(rn:Int)+(top:Int))=false:=by rw [decide_eq_false_iff_not];omega
      have HR:=zh hr;clear hr;go_wp2_with fail
      go_quiet (fail)
      go_wp2_with fail
      go_roundw
      case rel=>exact ⟨qn - 1,rn+top,by go_num,by go_num,Nat.lt_of_not_le HR.out,zh HS.out.2,ko hnr _,HB⟩
      case measure=>exact zM
    ·have hlt:¬ (rn:Int)*1000000000+(u2:Int)<(qn:Int)*(v2:Int):=by rw [← Int.natCast_mul];omega
     have HN:=zh (HGE.out _ _ HG.out zo (Nat.le_of_not_lt ht));clear ht;go_wp2_with fail
     go_quiet (fail)
     go_wp2_with fail
     go_meet
     exact ⟨qn,rfl,by omega,zh HG.out.high,HN,ko hnr _,HB⟩
 case rest =>
  obtain ⟨qn,rfl,hqb,Nl,HQ2,hnc,HBc⟩:=hcut;clear hw1 Ja hr0 HG0 HGS HGE;go_wp2_with fail
  go_loopw [10,11,12,13,14,77] (fun cv bv' _ _ _ iv wr=>∃ (i c b:Nat) (s:List Nat),i≤k+2∧c≤1000000000∧b≤1∧iv= .int .i64 i∧cv= .int .u64 c∧bv'= .int .i64 b∧Hid (s.length=i)∧gF 1000000000 s ∧
    Hid (aA wr g (dB (pre++(s++u.drop i)++post)).toArray 22)∧w.grownBy wr (some g)∧Hid (val 1000000000 s+qn*val 1000000000 (v.take i)=val 1000000000 (u.take i)+(b+c)*1000000000^i))
   (fun _ _ _ _ _ iv _=>k+2 - (intOf iv).toNat)
  case atStart=>exact ⟨0,0,0,[],Nat.zero_le _,by omega,by omega,rfl,rfl,rfl,rfl,gF.nil,HBc,hnc,zh (by simp [val])⟩
  case round =>
   obtain ⟨i,c,b,s,hi,hcb,hbb,rfl,rfl,rfl,HS,hds,HB,hnr,HV⟩:=hrel
   by_cases hlt:i<k+2
   ·have hc1:=HVC.out wr hnr i hlt;have hc2:=Um.out wr (s++u.drop i) (by rw [List.length_append,List.length_drop,HU.out,HS.out];omega) HB.out i zo;rw [getD_in HS.out (Nat.le_refl _)] at hc2;have hc3:wr.frozen? ⟨g,j+i,none⟩=false:=aA.free HB.out _;have dvi:=dv.getD zo i;have dui:=du.getD zo i
    have HST:Hid (∀ d b',d+b+(c+qn*v.getD i 0)%1000000000=u.getD i 0+b'*1000000000→val 1000000000 (s++[d])+qn*val 1000000000 (v.take (i+1))=val 1000000000 (u.take (i+1))+(b'+(c+qn*v.getD i 0) / 1000000000)*1000000000^(i+1)) :=
     fun d b' h=>N8 (by rw [HU.out];omega) (by rw [Uk.out];omega) HS.out HV.out h rfl
    have HO:Hid (∀ d:Nat,aA (wr.setCell ⟨g,j+i,none⟩ (.int .u32 (d:Int))) g (dB (pre++((s++[d])++u.drop (i+1))++post)).toArray 22∧w.grownBy (wr.setCell ⟨g,j+i,none⟩ (.int .u32 (d:Int))) (some g)):=fun d=>by
     have h1:=aA.set HB.out (j+i) (.int .u32 (d:Int));rw [List.setIfInBounds_toArray,jY,Cz HJ.out HS.out (by rw [HU.out];omega)] at h1;exact ⟨h1,rD hnr _ _⟩
    generalize v.getD i 0=y at *;generalize u.getD i 0=x at *;have hpn:qn*y≤1000000000*999999999:=Nat.mul_le_mul hqb zo;have hp1:0≤(qn:Int)*(y:Int):=by rw [← Int.natCast_mul];omega
    have hp2:(qn:Int)*(y:Int)≤999999999000000000:=by rw [← Int.natCast_mul];omega
    have hM:(((c+qn*y)%1000000000:Nat):Int)=((c:Int)+(qn:Int)*(y:Int))%1000000000:=by rw [Int.natCast_emod,Int.natCast_add,Int.natCast_mul];rfl
    have hC:(((c+qn*y) / 1000000000:Nat):Int)=((c:Int)+(qn:Int)*(y:Int)) / 1000000000:=by rw [Int.natCast_ediv,Int.natCast_add,Int.natCast_mul];rfl
    have hCb:(c+qn*y) / 1000000000≤1000000000:=by omega
    have hMb:(c+qn*y)%1000000000<1000000000:=Nat.mod_lt _ zo;generalize (c+qn*y) / 1000000000=C at *;generalize (c+qn*y)%1000000000=M at *;have NC:=zh hC;have YW:=zh hM;have gM1:0≤((c:Int)+(qn:Int)*(y:Int))%1000000000:=by rw [← hM];omega
    have gM2:((c:Int)+(qn:Int)*(y:Int))%1000000000≤999999999:=by rw [← hM];omega
    clear HV HB hpn
    by_cases hneg:x<b+M
    ·have hng:(x:Int) - (b:Int) - ((c:Int)+(qn:Int)*(y:Int))%1000000000<0:=by rw [← hM];omega
     have oL:=HO.out (x+1000000000 - (b+M));rw [show ((x+1000000000 - (b+M):Nat):Int)=(x:Int) - (b:Int) - ((c:Int)+(qn:Int)*(y:Int))%1000000000+1000000000 by rw [← hM];omega] at oL;have tQ:=zh oL;have HN:=zh hneg;clear HO oL hM hC hneg;go_wp2_with fail
     go_roundw
     case rel=>exact ⟨i+1,C,1,s++[x+1000000000 - (b+M)],by omega,hCb,by omega,by go_num,by rw [NC.out],rfl,zh (by rw [List.length_append,HS.out];rfl),hds.snoc (by have:=HN.out;omega),zh tQ.out.1,tQ.out.2,zh (HST.out _ _ (by have:=HN.out;omega))⟩
     case measure=>exact zM
    ·have hng:¬ (x:Int) - (b:Int) - ((c:Int)+(qn:Int)*(y:Int))%1000000000<0:=by rw [← hM];omega
     have oL:=HO.out (x - (b+M));rw [show ((x - (b+M):Nat):Int)=(x:Int) - (b:Int) - ((c:Int)+(qn:Int)*(y:Int))%1000000000 by rw [← hM];omega] at oL;have tQ:=zh oL;have HN:=zh hneg;clear HO oL hM hC hneg;go_wp2_with fail
     go_roundw
     case rel=>exact ⟨i+1,C,0,s++[x - (b+M)],by omega,hCb,by omega,by go_num,by rw [NC.out],rfl,zh (by rw [List.length_append,HS.out];rfl),hds.snoc (by have:=HN.out;omega),zh tQ.out.1,tQ.out.2,zh (HST.out _ _ (by have:=HN.out;omega))⟩
     case measure=>exact zM
   ·have hik:i=k+2:=by omega
    subst hik
    have UU:0<val 1000000000 v:=by
     rw [pV Uk.out];have h1:0<1000000000^k:=Nat.pow_pos zo;have h2:0<1000000000^k*(v.getD k 0+1000000000*v.getD (k+1) 0):=Nat.mul_pos h1 (by rw [HT.out];omega);omega
    have ag3:Hid (val 1000000000 s+qn*val 1000000000 v=val 1000000000 (u.take (k+2))+(b+c)*1000000000^(k+2)):=by
     have:=HV.out;rwa [List.take_of_length_le (by rw [Uk.out];omega)] at this
    have HUs:Hid (val 1000000000 u=val 1000000000 (u.take (k+2))+1000000000^(k+2)*un):=by
     have:=cO 1000000000 (l:=u) (k:=k+2) (by rw [HU.out];omega);rw [show k+2+1=u.length by rw [HU.out],List.take_length] at this;rw [HUN.out] at this;exact this
    have hu1:=Um.out wr (s++u.drop (k+2)) (by rw [List.length_append,List.length_drop,HU.out,HS.out];omega) HB.out (k+2) zo;rw [getD_in HS.out (Nat.le_refl _),HUN.out] at hu1;clear HV
    by_cases hov:un<b+c
    ·have HE:=zh (N9 (by omega:1<1000000000) HS.out hds Uk.out dv UU ag3.out HUs.out hov HQ2.out);have aa1:(un:Int) - (b:Int)<(c:Int):=by omega
     have hq1:1≤qn:=by rw [HE.out.1];exact Nat.le_add_left _ _
     go_wp2_with fail
     clear hu1 hov aa1
     go_loopw [15,16,17,18,125] (fun ov' _ _ _ iv wr=>∃ (i o:Nat) (t:List Nat),i≤k+2∧o≤1∧iv= .int .i64 i∧ov'= .int .u32 o∧Hid (t.length=i)∧gF 1000000000 t ∧
       Hid (aA wr g (dB (pre++(t++(s++u.drop (k+2)).drop i)++post)).toArray 22)∧w.grownBy wr (some g)∧Hid (val 1000000000 t+o*1000000000^i=val 1000000000 (s.take i)+val 1000000000 (v.take i)))
      (fun _ _ _ _ iv _=>k+2 - (intOf iv).toNat)
     case atStart=>exact ⟨0,0,[],Nat.zero_le _,by omega,rfl,rfl,rfl,gF.nil,HB,hnr,zh (by simp [val])⟩
     case round =>
      clear HB hnr;obtain ⟨i,o,t,hi,hob,rfl,rfl,Rm,hdt,HB,hnr,HV⟩:=hrel;have hxl:(s++u.drop (k+2)).length=k+3:=by rw [List.length_append,List.length_drop,HU.out,HS.out];omega
      by_cases hlt:i<k+2
      ·have hc1:=HVC.out wr hnr i hlt;have hc2:=Um.out wr (t++(s++u.drop (k+2)).drop i) (by rw [List.length_append,List.length_drop,hxl,Rm.out];omega) HB.out i zo;rw [getD_in Rm.out (Nat.le_refl _)] at hc2;have hsi:(s++u.drop (k+2)).getD i 0=s.getD i 0:=by rw [List.getD_eq_getElem?_getD,List.getElem?_append_left (by rw [HS.out];exact hlt),← List.getD_eq_getElem?_getD]
       rw [hsi] at hc2;have hc3:wr.frozen? ⟨g,j+i,none⟩=false:=aA.free HB.out _;have dvi:=dv.getD zo i;have dui:=hds.getD zo i
       have HST:Hid (∀ d o',d+o'*1000000000=s.getD i 0+o+v.getD i 0→val 1000000000 (t++[d])+o'*1000000000^(i+1)=val 1000000000 (s.take (i+1))+val 1000000000 (v.take (i+1))) :=
        fun d o' h=>rY (by rw [HS.out];exact hlt) Rm.out HV.out h
       have HO:Hid (∀ d:Nat,aA (wr.setCell ⟨g,j+i,none⟩ (.int .u32 (d:Int))) g (dB (pre++((t++[d])++(s++u.drop (k+2)).drop (i+1))++post)).toArray 22∧w.grownBy (wr.setCell ⟨g,j+i,none⟩ (.int .u32 (d:Int))) (some g)):=fun d=>by
        have h1:=aA.set HB.out (j+i) (.int .u32 (d:Int));rw [List.setIfInBounds_toArray,jY,Cz HJ.out Rm.out (by rw [hxl];omega)] at h1;exact ⟨h1,rD hnr _ _⟩
       clear hsi hxl HB HV;generalize v.getD i 0=y at *;generalize s.getD i 0=x at *
       by_cases hge:x+y+o<1000000000
       ·have hge':decide ((1000000000:Int)≤(x:Int)+(y:Int)+(o:Int))=false:=by rw [decide_eq_false_iff_not];omega
        have oL:=HO.out (x+y+o);rw [show ((x+y+o:Nat):Int)=(x:Int)+(y:Int)+(o:Int) by omega] at oL;have tQ:=zh oL;have HN:=zh hge;clear HO oL hge;go_wp2_with fail
        go_roundw
        case rel=>exact ⟨i+1,0,t++[x+y+o],by omega,by omega,by go_num,rfl,zh (by rw [List.length_append,Rm.out];rfl),hdt.snoc HN.out,zh tQ.out.1,tQ.out.2,zh (HST.out _ _ zo)⟩
        case measure=>exact zM
       ·have hge':decide ((1000000000:Int)≤(x:Int)+(y:Int)+(o:Int))=true:=by rw [decide_eq_true_iff];omega
        have aa5:(0:Int)≤(x:Int)+(y:Int)+(o:Int) - 1000000000:=by omega
        have oL:=HO.out (x+y+o - 1000000000);rw [show ((x+y+o - 1000000000:Nat):Int)=(x:Int)+(y:Int)+(o:Int) - 1000000000 by omega] at oL;have tQ:=zh oL;have HN:=zh hge;clear HO oL hge;go_wp2_with fail
        go_roundw
        case rel=>exact ⟨i+1,1,t++[x+y+o - 1000000000],by omega,by omega,by go_num,rfl,zh (by rw [List.length_append,Rm.out];rfl),hdt.snoc zo,zh tQ.out.1,tQ.out.2,zh (HST.out _ _ (by have:=HN.out;omega))⟩
        case measure=>exact zM
      ·have hik:i=k+2:=by omega
       subst hik
       have HR:Hid (val 1000000000 t=val 1000000000 u%val 1000000000 v):=by
        have h1:=HV.out;rw [List.take_of_length_le (by rw [HS.out];exact Nat.le_refl _),List.take_of_length_le (by rw [Uk.out];exact Nat.le_refl _),HE.out.2] at h1;have h2:=jF (by omega:0<1000000000) hdt;rw [Rm.out] at h2;have h3:o=0∨o=1:=by omega
        unfold Hid
        rcases h3 with rfl|rfl<;>omega
       have HB:Hid (aA wr g (dB (pre++(t++u.drop (k+2))++post)).toArray 22):=by
        have h1:=HB.out;rw [List.drop_append_of_le_length (by rw [HS.out];exact Nat.le_refl _),List.drop_of_length_le (by rw [HS.out];exact Nat.le_refl _),List.nil_append] at h1;exact h1
       have hbf:aA wr g (dB (pre++(t++u.drop (k+2))++post)).toArray 22:=HB.out;have hn1:=Um.out wr (t++u.drop (k+2)) (by rw [List.length_append,List.length_drop,HU.out,Rm.out];omega) HB.out (k+2) zo;have hn2:wr.frozen? ⟨g,j+(k+2),none⟩=false:=hbf.free _
       have QV:Hid (aA (wr.setCell ⟨g,j+(k+2),none⟩ (.int .u32 0)) g (dB (pre++(t++[0])++post)).toArray 22∧w.grownBy (wr.setCell ⟨g,j+(k+2),none⟩ (.int .u32 0)) (some g)):=by
        have h1:=hbf.set (j+(k+2)) (.int .u32 ((0:Nat):Int));rw [List.setIfInBounds_toArray,jY,Cz HJ.out Rm.out (by rw [HU.out];omega),List.drop_eq_nil_of_le (by rw [HU.out];omega),List.append_nil] at h1;exact ⟨h1,rD hnr _ _⟩
       clear hbf HB hnr;go_wp2_with fail
       go_ret
       unfold qE;exact ⟨by rw [show val 1000000000 u / val 1000000000 v=qn - 1 by rw [HE.out.1];rfl,Int.natCast_sub hq1];rfl,QV.out.2,t,QV.out.1,Rm.out,hdt,HR.out⟩
    ·have HE:=zh (Oa (by omega:1<1000000000) Uk.out dv UU ag3.out HUs.out zo Nl.out);have aa1:¬ (un:Int) - (b:Int)<(c:Int):=by omega
     have hbf:aA wr g (dB (pre++(s++u.drop (k+2))++post)).toArray 22:=HB.out;have hn1:=Um.out wr (s++u.drop (k+2)) (by rw [List.length_append,List.length_drop,HU.out,HS.out];omega) HB.out (k+2) zo;have hn2:wr.frozen? ⟨g,j+(k+2),none⟩=false:=hbf.free _
     have QV:Hid (aA (wr.setCell ⟨g,j+(k+2),none⟩ (.int .u32 0)) g (dB (pre++(s++[0])++post)).toArray 22∧w.grownBy (wr.setCell ⟨g,j+(k+2),none⟩ (.int .u32 0)) (some g)):=by
      have h1:=hbf.set (j+(k+2)) (.int .u32 ((0:Nat):Int));rw [List.setIfInBounds_toArray,jY,Cz HJ.out HS.out (by rw [HU.out];omega),List.drop_eq_nil_of_le (by rw [HU.out];omega),List.append_nil] at h1;exact ⟨h1,rD hnr _ _⟩
     clear hbf HB hnr;go_wp2_with fail
     go_ret
     unfold qE;exact ⟨by rw [← HE.out.1];rfl,QV.out.2,s,QV.out.1,HS.out,hds,HE.out.2⟩):G:=h
theorem q9 (g j k cu:Nat) (pv:Option Addr) (cv:Nat) (pre u post v:List Nat) (w:World) (hj:pre.length=j) (hu:u.length=k+3) (hv:v.length=k+2) (du:gF 1000000000 u) (dv:gF 1000000000 v) (hk:k≤1099511627776)
  (ht:1000000000≤2*v.getD (k+1) 0) (hlt:val 1000000000 u<val 1000000000 v*1000000000) (Tk:aA w g (dB (pre++u++post)).toArray 22)
  (hd:∀ i,i<k+2→∃ b off,pv=some ⟨b,off,none⟩∧b≠g∧b<w.heap.size∧w.cell? ⟨b,off+i,none⟩=some (.int .u32 (v.getD i 0:Nat))) :
  Calls Tryz.prog 160 #[aj (some ⟨g,j,none⟩) (k+3) cu,aj pv (k+2) cv] w (qE w g k pre u post v):=Vs
end Go.Proofs.dw
