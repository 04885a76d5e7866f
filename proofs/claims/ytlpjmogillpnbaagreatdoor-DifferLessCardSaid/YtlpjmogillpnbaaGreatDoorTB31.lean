/- Lemmas for the proof. No condition. -/
import Derived.Test.YtlpjmogillpnbaaGreatDoorTB30
import Derived.RegionTactic
set_option linter.unusedVariables false
set_option linter.unusedSimpArgs false
set_option maxRecDepth 100000
set_option maxHeartbeats 16000000
open Bool renaming false_eq_true → bW
open Go.Ending renaming returned → ah
open Go.IntKind renaming i64 → I
open Go.Value renaming agg → au, bool → ay, int → Z, pointer → aA, slice → aj, tuple → aD
open List renaming getD_eq_getElem?_getD → bM, length_cons → aZ, replicate → bD
open Nat renaming add_assoc → jr, add_mul → bX, add_zero → eO, div_eq_of_lt → dS, div_lt_iff_lt_mul → bK, eq_zero_or_pos → aS, le_of_lt → jL, le_refl → aI, le_trans → aB, lt_of_lt_of_le → aL, lt_or_ge → aO, min_eq_left → jl, mod_eq_of_lt → eZ, mod_lt → dV, mul_comm → aJ, mul_le_mul_right → aX, mul_pos → gH, one_mul → fP, pow_le_pow_right → bE, pow_succ → bF
namespace Go.Proofs.aV
open Go Go.RowKit Go.SW Go.Num Go.Mem Go.Proofs
theorem Gs.drop {w:World} {b off n c:Nat} {l:List Nat} (h:Gs w (aj (some ⟨b,off,none⟩) n c) l) (k:Nat) (hk:k≤n):Gs w (aj (some ⟨b,off+k,none⟩) (n - k) (c - k)) (l.drop k):=by
 rcases Row.cases h with ⟨h1, -⟩|⟨b',off',cap,arr,e,h2,h3,h4,h5⟩
 ·cases h1
 ·simp only [Value.slice.injEq,Option.some.injEq,Addr.mk.injEq,and_true] at e;obtain ⟨⟨rfl,rfl⟩,hn,rfl⟩:=e;rw [bQ] at hn h2;refine Row.mk (by rw [bQ,List.length_drop];omega) (by rw [bQ,List.length_drop];omega) zo h4 fun i hi=>?_;rw [bQ,List.length_drop] at hi;have:=h5 (k+i) (by rw [bQ];omega);rw [← jr] at this;rw [this];simp [ints]
theorem Nm.setBlock {w:World} {b off k c n g:Nat} (h:Nm w (aj (some ⟨b,off,none⟩) k c) n) (hne:b≠g) (o:Nat) (u:Value):Nm (w.setCell ⟨g,o,none⟩ u) (aj (some ⟨b,off,none⟩) k c) n:=by
 obtain ⟨a,cap,h1,h2,h3,h4,h5⟩:=h;refine ⟨a,cap,h1,h2,h3,h4,fun ad had=>?_⟩;obtain ⟨h6,arr,h7,h8⟩:=h5 ad had
 have e:ad.block=b:=by
  subst had;simp only [Value.slice.injEq,Option.some.injEq] at h1;rw [← h1.1]
 have hy:aC w ad.block arr 3:=h7;exact ⟨h6,arr,hy.setOther u (by rw [e];exact hne),h8⟩
theorem Od (b off n c:Nat) (l:List Nat) (w:World) (h:Gs w (aj (some ⟨b,off,none⟩) n c) l) (hd:fD 10000 l) :
  Calls Tryz.prog 242 #[aj (some ⟨b,off,none⟩) n c] w fun e w'=>∃ k,e= ah (aj (some ⟨b,off,none⟩) k c)∧w=w'∧Nm w (aj (some ⟨b,off,none⟩) k c) (val 10000 l):=by
 rcases Gs.cases h with ⟨h1, -⟩|⟨b',off',cap,e,h1,h2,h3, -, h5⟩
 ·cases h1
 ·simp only [Value.slice.injEq,Option.some.injEq,Addr.mk.injEq,and_true] at e;obtain ⟨⟨rfl,rfl⟩,rfl,rfl⟩:=e;refine (DT b off c l w h1 h2 h5).mono ?_;rintro e w' ⟨rfl,rfl⟩;refine ⟨_,rfl,rfl,?_⟩
  rcases Row.cases h with ⟨e1, -⟩|⟨b',off',cap',arr,e1, -, -, h4, -⟩
  ·cases e1
  ·simp only [Value.slice.injEq,Option.some.injEq,Addr.mk.injEq,and_true] at e1;obtain ⟨⟨rfl,rfl⟩, -, rfl⟩:=e1;have ht:=trimLen_le l l.length;have e:val 10000 l=val 10000 (l.take (trimLen l l.length)):=by rw [sH _ _ _ (aI _)];simp
   rw [e];refine Nm.MI ?_ (hd.take _) (sI l _ (aI _));refine Row.mk (arr:=arr) (by rw [bQ];simp;omega) (by rw [bQ];simp;omega) h2 h4 fun i hi=>?_;rw [bQ] at hi;have hi2:i<l.length:=by simp at hi;omega
   have:=h5 i hi2;rw [h4.cell] at this;rw [this];simp [ints,hi2]
theorem Nm.Qe {w:World} {v:Value} {a k:Nat} (h:Gs w v ((dF 10000 a).drop k)):Nm w v (val 10000 ((dF 10000 a).drop k)):=Nm.MI h ((bN zo a).drop k) (Go.Dec.xk (lg zo a) k)
theorem FT (x:Value) (a n p m D:Nat) (bl:List Nat) (pb:Option Addr) (cb:Nat) (w:World) (hx:Nm w x a) (hbs:Gs w (aj pb (n+1) cb) bl) (hbl:bl.length=n+1) (db:fD 10000 bl) (htop:1≤bl.getD n 0)
  (hn:n=p+1) (hm:sz 10000 a=m+n) (hm1:1≤m) (ha2:sz 10000 a≤274877906944) (hD:val 10000 bl=D) :
  Calls Tryz.prog 239 #[x,aj pb (n+1) cb] w (qV w a D):=by
 obtain ⟨i0,hi,hz0,hz1,hz2⟩:=info_parts yt;have Gp:bl.length=p+2:=by omega
 have hv2:=mP (B:=10000) Gp;have V7:=gQ (B:=10000) zo (db.take p);rw [List.length_take,jl zo] at V7;rw [hD] at hv2;have d1:=db.getD zo n;have d0:=db.getD zo p;rw [show p+1=n by omega] at hv2
 obtain ⟨b,off,rfl,lbb,c1⟩:∃ b off,pb=some ⟨b,off,none⟩∧b<w.heap.size∧w.cell? ⟨b,off+n,none⟩=some (.int .i64 (bl.getD n 0:Nat)):=by
  obtain ⟨a',c',e, -, -, h5⟩:=hbs.read;simp only [Value.slice.injEq] at e;obtain ⟨rfl, -, -⟩:=e;exact h5 n zo
 have c0:w.cell? ⟨b,off+p,none⟩=some (.int .i64 (bl.getD p 0:Nat)):=by
  obtain ⟨a',c',e, -, -, h5⟩:=hbs.read;simp only [Value.slice.injEq] at e;obtain ⟨rfl, -, -⟩:=e;obtain ⟨b',o',e2, -, h6⟩:=h5 p zo;simp only [Option.some.injEq,Addr.mk.injEq,and_true] at e2;obtain ⟨rfl,rfl⟩:=e2;exact h6
 generalize bl.getD n 0=t1 at *;generalize bl.getD p 0=t0 at *;obtain ⟨T,eT⟩:∃ T,t1*10000+t0=T:=⟨_,rfl⟩;have hT:10000≤T∧T≤99999999:=by omega
 obtain ⟨P,hP⟩:∃ P,10000^p=P:=⟨_,rfl⟩;have hP0:0<P:=by rw [← hP];exact Nat.pow_pos zo
 rw [hP] at hv2 V7
 have hD1:T*P≤D:=by
  rw [hv2,← eT,aJ,aJ t1,Nat.add_comm (10000*t1)];omega
 have hD2:D<(T+1)*P:=by
  rw [hv2,bX,fP,← eT,aJ (t1*10000+t0),aJ t1,Nat.add_comm (10000*t1)];omega
 have hD0:0<D:=aL (gH zo hP0) hD1
 have hDn:D<10000^(n+1):=by
  have:=gQ (B:=10000) zo db
  rwa [hD,hbl] at this
 have GUESS:=zh (fun R f (hR:R<D*10000) (hf:f=R / P)=>Uk hD1 hD2 hT.1 hR hP0 hf);have hla:(dF 10000 a).length=m+n:=hm;have hda:=bN (B:=10000) zo a;have hva:=bH (B:=10000) zo a;obtain ⟨l,El⟩:∃ l,dF 10000 a=l:=⟨_,rfl⟩;obtain ⟨pa,ca,rfl,k1,k2,k3⟩:=hx.read;rw [El] at k3 hla hda hva;rw [hm] at k1 k3;obtain ⟨ba,oa,rfl,lba, -⟩:=k3 0 zo
 have ka:∀ j,j<m+n→w.cell? ⟨ba,oa+j,none⟩=some (.int .i64 (l.getD j 0:Nat)):=fun j hj=>by
  obtain ⟨b',o',e2, -, h6⟩:=k3 j hj;simp only [Option.some.injEq,Addr.mk.injEq,and_true] at e2;obtain ⟨rfl,rfl⟩:=e2;exact h6
 have KA:=zh ka;have Zd:=zh hla;have HDA:=zh hda
 have hgd:Gs w (aj (some ⟨ba,oa+m,none⟩) n (ca - m)) (l.drop m):=by
  have:=Gs.drop hx.gs m (by rw [hm];omega);rw [hm,El] at this
  rwa [show m+n - m=n by omega] at this
 have hr0:val 10000 (l.drop m)<D:=by
  have h1:=gQ (B:=10000) zo (hda.drop m);rw [List.length_drop,hla,show m+n - m=n by omega] at h1
  have h2:10000^n≤D:=by
   have h3:10000*P≤T*P:=aX _ hT.1;have h4:10000^n=10000*P:=by rw [hn,bF,hP,aJ]
   omega
  omega
 have HGD:=zh hgd;have Zb:=zh hr0;have Zi:=zh hbs;have HDB:=zh db;have rF:=zh hbl;have HD:=zh hD;have Wu:=zh hDn
 have HDiv:Hid (∀ s r,a=D*val 10000 s+r→r<D→a / D=val 10000 s∧a%D=r):=zh fun s r e h=>by
  constructor
  ·rw [e,Nat.mul_add_div hD0,dS h,eO]
  ·rw [e,Nat.mul_add_mod,eZ h]
 have HVA:=zh hva
 have HDr:Hid (∀ w' v k,Gs w' v (l.drop k)→Nm w' v (val 10000 (l.drop k))):=zh fun w' v k h=>by
  rw [← El] at h ⊢;exact Nm.Qe h
 rw [hm] at ha2 ⊢;clear Gp hv2 V7 db hbs hbl hD hDn hD1 hD2 htop hgd hr0 k3 ka hla hda hva El hx hm;have hbn:(n:Int)+1 - 1=(n:Int):=by omega
 have ep:(n:Int) - 1=(p:Int):=by omega
 have em:(m:Int)+(n:Int) - (n:Int)=(m:Int):=by omega
 have ZM:m+n - m=n:=by omega
 have eTi:(t1:Int)*10000+(t0:Int)=(T:Int):=by omega
 have hn1:((n:Int)+1 == 1)=false:=by simp;omega
 have hmn:¬ (m:Int)+(n:Int)≤(n:Int):=by omega
 have hwp:I.wrap (p:Int)=(p:Int):=by rw [IntKind.wrap_i64];omega
 have hpn:(p:Int)<(n:Int)+1:=by omega
 obtain ⟨hT1,ZJ⟩:=hT;have HNP:=zh hn;clear eT hn;go_enter Tryz.func239,Tryz.ntmps239
 go_wp2_with fail
 go_quiet (fail)
 go_wp2_with (at_make;refine wpList_make_full _ rfl _ _ 142 rfl w.heap.size 3 i0 (Z I 0) 1 Tryz.underlying142 hi hz0 hz1 _ _ _ _ m rfl rfl zo zo (by rw [hz2];omega) (by unfold maxLen;omega) (aI _) ?_)
 intro w0 hown0 jH;rw [uU] at hown0;obtain ⟨hbx, -⟩:=qE hown0;have hb0:Below w.heap.size w w0:=(below_drewN (Below.refl _ _) _).grown jH (aI _) (fun k h=>by cases h);have e0:Gs (w0.alloc (.cells #[] 3)) (aj (some ⟨ba,oa+m,none⟩) n (ca - m)) (l.drop m):=(HGD.out.later hb0).alloc _;obtain ⟨v1,w1,hap,hg1,hb1, -⟩:=su (w0.alloc (.cells #[] 3)) w0.heap.size [] (l.drop m) _ (aC.new _ _ _) e0 (by rw [List.length_drop,Zd.out];simp;omega);rw [List.nil_append] at hg1;have HN1:=zh (HDr.out _ _ _ hg1);have HB1:Hid (Below w.heap.size w w1):=zh (Bt (cO hb0 _) hb1);have Zg:Hid (aC w1 w.heap.size (ints (bD m 0)).toArray 3):=zh ((hbx.alloc _).later hb1);have Vx:=zh hap;obtain ⟨pr,lr,cr,rfl⟩:=HN1.out.slice;clear hap hg1 hb1 e0 hb0 hbx jH hown0 c1 c0 HGD
 go_wp2_with (at_builtin;refine wpList_append_run rfl (.tmp 59) (.tmp 65) 142 rfl rfl rfl Vx.out ?_)
 clear Vx
 go_loopw [11,12,13,14,15,16,17] (fun rv iv _ _ _ _ _ wr=>∃ (q:Int) (R:Nat) (s:List Nat), -1≤q∧q<m∧iv= Z I q∧Hid (s.length=m - (q+1).toNat)∧Hid (aC wr w.heap.size (ints (bD (q+1).toNat 0++s)).toArray 3)∧Hid (fD 10000 s) ∧
   Hid (val 10000 (l.drop (q+1).toNat)=D*val 10000 s+R)∧Hid (R<D)∧Hid (Nm wr rv R)∧Hid (Below w.heap.size w wr))
  (fun _ iv _ _ _ _ _ _=>(intOf iv+1).toNat)
 case atStart =>
  have e:((m:Int) - 1+1).toNat=m:=by omega
  exact ⟨(m:Int) - 1,val 10000 (l.drop m),[],by omega,by omega,rfl,zh (by rw [e];simp),zh (by rw [e,List.append_nil];exact Zg.out),zh fD.nil,zh (by rw [e];simp [val]),Zb,HN1,HB1⟩
 case round =>
  clear HN1 HB1 Zg;obtain ⟨q,R,s,hq1,hq2,rfl,HS,oL,OV,HV,HR,ZW,HB⟩:=hrel;obtain ⟨p1,l1,c1,rfl⟩:=ZW.out.slice
  by_cases hq:q<0
  ·have hq0:q= -1:=by omega
   subst hq0;have HF:Hid (a=D*val 10000 s+R):=zh (by have:=HV.out;simpa [HVA.out] using this)
   have hgs:Gs wr (aj (some ⟨w.heap.size,0,none⟩) m m) s:=by
    have h1:=oL.out;have h2:=HS.out;refine Gs.qm (post:=[]) (by simpa using h1) (by simpa using h2) (aI _) zo
   have HC:=zh (pF _ s wr hgs OV.out);clear hgs;go_wp2_with fail
   refine HC.out.mono ?_;rintro e w' ⟨v',rfl,rfl,hv'⟩;obtain ⟨p2,l2,c2,rfl⟩:=hv'.slice;have HV':=zh hv';clear hv' HC;go_wp2_with fail
   go_ret2
   obtain ⟨e1,e2⟩:=HDiv.out _ _ HF.out HR.out;exact ⟨_,_,rfl,HB.out,by rw [e1];exact HV'.out,by rw [e2];exact ZW.out⟩
  ·obtain ⟨j,rfl⟩:=Int.eq_ofNat_of_zero_le (by omega:0≤q);have ej:((j:Int)+1).toNat=j+1:=by omega
   have hjm:j<m:=by omega
   rw [ej] at HS HV oL;have hcj:wr.cell? ⟨ba,oa+j,none⟩=some (.int .i64 (l.getD j 0:Nat)):=(HB.out.cell (by exact lba)).trans (KA.out j zo);have hdj:l.getD j 0<10000:=HDA.out.getD zo j;have HST:Hid (∀ lo,(l.getD j 0+10000*R) / D=lo→val 10000 (l.drop j)=D*val 10000 (lo::s)+(l.getD j 0+10000*R)%D):=zh fun lo h=>FR (by rw [Zd.out];omega) HV.out h;clear HV;generalize l.getD j 0=d at *;obtain ⟨R',Z4⟩:∃ y,Hid (d+10000*R=y):=⟨_,zh rfl⟩;rw [Z4.out] at HST;have ac9:sz 10000 R≤n+1:=bY zo _ _ (Nat.lt_trans HR.out Wu.out);have hR':R'<D*10000:=by have:=Z4.out;have:=HR.out;omega
   have R7:sz 10000 R'≤n+2:=by
    refine bY zo _ _ (aL hR' ?_);rw [bF];exact aX _ (jL Wu.out)
   obtain ⟨v2,w2,hap,hg2,hb2,b3,o3,n3,c3,rfl,XV⟩:=su (wr.alloc (.cells #[Z I (d:Int)] 3)) wr.heap.size [d] (dF 10000 R) (aj p1 l1 c1) (aC.new _ _ _) (ZW.out.gs.alloc _) (by have:(dF 10000 R).length=sz 10000 R:=rfl;simp;omega)
   have hev:val 10000 ([d]++dF 10000 R)=R':=by
    show d+10000*val 10000 (dF 10000 R)=R'
    rw [bH zo,Z4.out]
   have hb3:b3≠w.heap.size:=by
    have h1:=oL.out.lt;have h2:b3=wr.heap.size∨b3=wr.heap.size+1:=by simpa using XV
    omega
   have hct:=Od b3 o3 n3 c3 _ w2 hg2 ((bN zo R).cons hdj);rw [hev] at hct;have HC:=zh hct;have Vx:=zh hap;have HB2:Hid (Below wr.heap.size wr w2):=zh (Bt (cO (Below.refl _ _) _) hb2);have Vs:=zh hR';have ZU:=zh R7;clear hev hct hap hb2 hg2 XV hR' ac9 R7 Z4 HR ZW;go_wp2_with (at_builtin;refine wpList_append_run rfl (.tmp 78) (.tmp 79) 142 rfl rfl rfl Vx.out ?_)
   refine HC.out.mono ?_;rintro e w' ⟨z3,rfl,rfl,hv3⟩;obtain ⟨p3,c3',e3,q1,q2,q3⟩:=hv3.read;simp only [Value.slice.injEq] at e3;obtain ⟨rfl,rfl,rfl⟩:=e3;have Jf:=zh hv3
   have HQ3:Hid (∀ i,i<sz 10000 R'→b3<w2.heap.size∧w2.cell? ⟨b3,o3+i,none⟩=some (.int .i64 ((dF 10000 R').getD i 0:Nat))):=zh fun i hi=>by
    obtain ⟨b',o',e2,h5,h6⟩:=q3 i hi;simp only [Option.some.injEq,Addr.mk.injEq,and_true] at e2;obtain ⟨rfl,rfl⟩:=e2;exact ⟨h5,h6⟩
   replace HB:=zh (Bt HB.out HB2.out);replace oL:=zh (oL.out.later HB2.out);clear hv3 q3 HC Vx HB2 hcj;generalize hz3:sz 10000 R'=z3 at *;have HZ3:=zh hz3;clear hz3;go_wp2_with fail
   go_loop [13,14] (fun fv kv=>∃ (k:Int) (f:Nat),(p:Int) - 1≤k∧k≤(p:Int)+2∧kv= Z I k∧fv= Z I f∧Hid (f=val 10000 ((dF 10000 R').drop (k+1).toNat)))
    (fun _ kv=>(intOf kv+1).toNat)
   case atStart =>
    have h1:=HNP.out
    exact ⟨(n:Int)+1,0,by omega,by omega,rfl,rfl,zh (by
     have h2:(dF 10000 R').length=z3:=HZ3.out;have h3:=ZU.out;rw [List.drop_of_length_le zo];rfl)⟩
   case round =>
    obtain ⟨k,f,hk1,hk2,rfl,rfl,HF⟩:=hrel
    by_cases hkp:(p:Int)≤k
    ·obtain ⟨i,rfl⟩:=Int.eq_ofNat_of_zero_le (by omega:0≤k);have ei:((i:Int)+1).toNat=i+1:=by omega
     rw [ei] at HF
     have hf:f<100000000:=by
      have h1:=HF.out;have h2:=gQ (B:=10000) zo ((bN (by omega:1<10000) R').drop (i+1));rw [List.length_drop] at h2;have h3:(dF 10000 R').length=z3:=HZ3.out;have h4:=ZU.out;have h5:=HNP.out;have h6:10000^((dF 10000 R').length - (i+1))≤10000^2:=bE zo zo;rw [h1];exact aL h2 h6
     have G7:Hid (val 10000 ((dF 10000 R').drop i)=f*10000+(dF 10000 R').getD i 0):=zh (by rw [NS,← HF.out])
     by_cases hi3:i<z3
     ·obtain ⟨-, hc3⟩:=HQ3.out i hi3;have hd3:(dF 10000 R').getD i 0<10000:=(bN zo R').getD zo i;clear HF;generalize (dF 10000 R').getD i 0=y at *;go_wp2_with fail
      go_round
      case rel=>exact ⟨(i:Int) - 1,f*10000+y,by omega,by omega,rfl,by go_num,zh (by rw [show ((i:Int) - 1+1).toNat=i by omega];exact G7.out.symm)⟩
      case measure=>simp [intOf]
     ·have hy0:(dF 10000 R').getD i 0=0:=by
       have h3:(dF 10000 R').length=z3:=HZ3.out;rw [bM,List.getElem?_eq_none zo];rfl
      rw [hy0,eO] at G7;clear HF hy0;go_wp2_with fail
      go_round
      case rel=>exact ⟨(i:Int) - 1,f*10000,by omega,by omega,rfl,by go_num,zh (by rw [show ((i:Int) - 1+1).toNat=i by omega];exact G7.out.symm)⟩
      case measure=>simp [intOf]
    ·have hkk:k=(p:Int) - 1:=by omega
     subst hkk
     have hfR:f=R' / P:=by
      have h1:=HF.out;rw [show ((p:Int) - 1+1).toNat=p by omega,NT zo (bN zo R'),bH zo,hP] at h1;exact h1
     have hf8:f<1000000000000:=by
      have h1:=gQ (B:=10000) zo ((bN (by omega:1<10000) R').drop p);rw [List.length_drop] at h1;have h2:=HF.out;rw [show ((p:Int) - 1+1).toNat=p by omega] at h2;have h3:(dF 10000 R').length=z3:=HZ3.out;have h4:=ZU.out;have h5:=HNP.out;have h6:10000^((dF 10000 R').length - p)≤10000^3:=bE zo zo;rw [h2];exact aL h1 h6
     obtain ⟨g1,g2,g3⟩:=GUESS.out R' f Vs.out hfR;have hlo:(((f / (T+1):Nat)):Int)=(f:Int) / ((T:Int)+1):=by rw [Int.natCast_ediv];rfl
     have hhi:(((f / T:Nat)):Int)=(f:Int) / (T:Int):=by rw [Int.natCast_ediv]
     have hl1:f / (T+1)≤f:=Nat.div_le_self _ _;generalize f / (T+1)=lo at *;generalize f / T=hi1 at *;have hz1:(((T:Int)+1) == 0)=false:=by simp;omega
     have hz2':((T:Int) == 0)=false:=by simp;omega
     clear HF hfR;have SH:=zh g1;have HG2:=zh g2;have hlo2:(f:Int) / ((T:Int)+1)=(lo:Int):=hlo.symm;have hhi2:(f:Int) / (T:Int)=(hi1:Int):=hhi.symm;clear g1 g2 hlo hhi;go_wp2_with fail
     go_quiet (fail)
     obtain ⟨w3,Ew3⟩:∃ y,w2.drewN nq=y:=⟨_,rfl⟩;have hw3:Below w2.heap.size w2 w3:=by rw [← Ew3];exact below_drewN (Below.refl _ _) _
     rw [Ew3];replace Jf:=zh (Jf.out.later hw3);replace HB:=zh (Bt HB.out hw3);replace oL:=zh (oL.out.later hw3);clear Ew3 hw3 HQ3 hf8 hl1 hz1 hz2' hlo2 hhi2;obtain ⟨wo,rfl⟩:∃ wo:World,wo=wr:=⟨_,rfl⟩;have h13:hi1+1≤10001:=g3
     have hlh:lo<hi1+1:=by
      have h1:=SH.out;have h2:=HG2.out
      rcases aO lo (hi1+1) with h|h
      ·exact h
      ·exfalso
       have h3:(hi1+1)*D≤lo*D:=aX _ h;omega
     go_wp2_with fail
     go_loopw [15,16,17] (fun lv hv _ wr=>∃ lo hi:Nat,lo<hi∧hi≤10001∧lv= Z I lo∧hv= Z I hi∧Hid (lo*D≤R')∧Hid (R'<hi*D)∧Hid (Nm wr (aj (some ⟨b3,o3,none⟩) z3 c3) R')∧Hid (Below w.heap.size w wr) ∧
       Hid (aC wr w.heap.size (ints (bD (j+1) 0++s)).toArray 3))
      (fun lv hv _ _=>(intOf hv - intOf lv).toNat)
     case atStart=>exact ⟨lo,hi1+1,hlh,h13,rfl,by go_num,SH,HG2,Jf,HB,oL⟩
     case round =>
      clear Jf HB oL SH HG2 hlh h13 g3;obtain ⟨lo,hi,hlh,hhb,rfl,rfl,SH,HG2,Jf,HB,oL⟩:=hrel
      by_cases hfin:lo+1<hi
      ·obtain ⟨f1,f2,f3,f4⟩:=TH SH.out Vs.out hhb hfin;have Nt:((lo:Int)+(hi:Int)) / 2=(((lo+hi) / 2:Nat):Int):=by omega
       obtain ⟨mm,emm⟩:∃ y,(lo+hi) / 2=y:=⟨_,rfl⟩;rw [emm] at f2 f3 f4 Nt;have hgt:(1:Int)<(hi:Int) - (lo:Int):=by omega
       have KO:=zh (xO _ (aj (some ⟨wr.heap.size,0,none⟩) 1 1) bl [mm] (wr.alloc (.cells #[Z I (mm:Int)] 3)) (Zi.out.later (Bt HB.out (cO (Below.refl _ _) _))) Gs.one HDB.out (.inr ⟨rfl,fun x hx=>by rw [List.mem_singleton.1 hx];exact f2⟩) (by rw [rF.out];omega) zi);clear emm;go_wp2_with fail
       refine KO.out.mono ?_;rintro e w4 ⟨v4,rfl,hb4,hv4⟩;have hval:val 10000 bl*val 10000 [mm]=D*mm:=by rw [HD.out];simp [val]
       rw [hval] at hv4;have hct:=pF v4 _ w4 hv4.gs (bN zo _);rw [bH zo] at hct;have HC4:=zh hct;have ZL:Below wr.heap.size wr w4:=Bt (cO (Below.refl _ _) _) hb4;obtain ⟨p4,l4,c4,rfl⟩:=hv4.slice;replace Jf:=zh (Jf.out.later ZL);replace HB:=zh (Bt HB.out ZL);replace oL:=zh (oL.out.later ZL);clear hval hct hb4 ZL hv4 KO;go_wp2_with fail
       refine HC4.out.mono ?_;rintro e w' ⟨v5,rfl,rfl,hv5⟩;obtain ⟨p5,l5,c5,rfl⟩:=hv5.slice;have HO:=zh (xS _ _ (D*mm) R' w4 hv5 Jf.out);clear hv5 HC4;go_wp2_with fail
       refine HO.out.mono ?_;rintro e w5 ⟨r,rfl,hb5,hor⟩;replace Jf:=zh (Jf.out.later hb5);replace HB:=zh (Bt HB.out hb5);replace oL:=zh (oL.out.later hb5);clear HO hb5
       by_cases hle:D*mm≤R'
       ·have hr:r≤0:=hor.1.2 hle;have OU:Hid (mm*D≤R'):=zh (by rw [aJ];exact hle);clear hle hor;go_wp2_with fail
        go_roundw
        case rel=>exact ⟨mm,hi,f4,hhb,rfl,rfl,OU,HG2,Jf,HB,oL⟩
        case measure=>exact zM
       ·have hr:¬ r≤0:=fun h=>hle (hor.1.1 h);have ZX:Hid (R'<mm*D):=zh (by rw [aJ];omega);clear hle hor;go_wp2_with fail
        go_roundw
        case rel=>exact ⟨lo,mm,f3,by omega,rfl,rfl,SH,ZX,Jf,HB,oL⟩
        case measure=>exact zM
      ·have hh:hi=lo+1:=by omega
       subst hh;have hgt:¬ (1:Int)<(lo:Int)+1 - (lo:Int):=by omega
       obtain ⟨hdv,hmd⟩:=Ur SH.out HG2.out
       have XZ:lo<10000:=by
        rw [← hdv,bK zo,aJ];exact Vs.out
       have G7:=zh hdv;have HMD:=zh hmd;have hbs:=oL.out.set j (Z I (lo:Int));rw [List.setIfInBounds_toArray,ints_set,sP] at hbs;have fbx:=oL.out.free j
       have hcx:wr.cell? ⟨w.heap.size,j,none⟩=some (.int .i64 0):=by
        rw [oL.out.cell,List.getElem?_toArray,qx (by rw [List.length_append,List.length_replicate];omega),qO zo];rfl
       have hbw:Below w.heap.size w (wr.setCell ⟨w.heap.size,j,none⟩ (Z I (lo:Int))):=HB.out.setCell (aI _) _;obtain ⟨w6,Ew6⟩:∃ y,wr.setCell ⟨w.heap.size,j,none⟩ (Z I (lo:Int))=y:=⟨_,rfl⟩;rw [Ew6] at hbs hbw;have hn6:Nm w6 (aj (some ⟨b3,o3,none⟩) z3 c3) R':=by rw [← Ew6];exact Nm.setBlock Jf.out hb3 _ _
       have KO:=zh (xO _ (aj (some ⟨w6.heap.size,0,none⟩) 1 1) bl [lo] (w6.alloc (.cells #[Z I (lo:Int)] 3)) (Zi.out.later (Bt hbw (cO (Below.refl _ _) _))) Gs.one HDB.out (.inl (fD.nil.cons XZ)) (by rw [rF.out];omega) zi);have OX:=zh hbw;have HN6:=zh hn6;have OW:=zh hbs;clear hdv hmd hbs hbw hn6 HB Jf oL SH HG2 hlh hhb;go_wp2_with fail
       clear Ew6 fbx hcx;refine KO.out.mono ?_;rintro e w7 ⟨v4,rfl,hb4,hv4⟩;have hval:val 10000 bl*val 10000 [lo]=D*lo:=by rw [HD.out];simp [val]
       rw [hval] at hv4;have ZK:Below w6.heap.size w6 w7:=Bt (cO (Below.refl _ _) _) hb4;obtain ⟨p4,l4,c4,rfl⟩:=hv4.slice;have hdl:D*lo≤R':=by rw [← G7.out];exact Nat.mul_div_le R' D
       have HDF:=zh (zL _ _ R' (D*lo) w7 (HN6.out.later ZK) hv4 (by rw [HZ3.out];have:=ZU.out;omega) hdl);replace OX:=zh (Bt OX.out ZK);replace OW:=zh (OW.out.later ZK);clear hval ZK hb4 hv4 KO HN6 hdl;go_wp2_with fail
       refine HDF.out.mono ?_;rintro e w8 ⟨v8,rfl,BZ,Np⟩;obtain ⟨p8,l8,c8,rfl⟩:=Np.slice;have HN8:=zh Np;replace OX:=zh (Bt OX.out BZ);replace OW:=zh (OW.out.later BZ);clear HDF BZ Np;go_wp2_with fail
       go_roundw
       case rel =>
        have Si:((j:Int) - 1+1).toNat=j:=by omega
        refine ⟨(j:Int) - 1,R'%D,lo::s,by omega,by omega,rfl,zh (by rw [Si,aZ,HS.out];omega),zh (by rw [Si];exact OW.out),zh (OV.out.cons XZ),zh (by rw [Si];exact HST.out lo G7.out),zh (dV _ hD0),zh ?_,OX⟩;rw [HMD.out];exact HN8.out
       case measure=>simp [intOf]
theorem CX (x y:Value) (a b:Nat) (w:World) (hx:Nm w x a) (hy:Nm w y b) (hb:0<b) (ha:sz 10000 a≤274877906944) (hsb:sz 10000 b≤274877906944) :
  Calls Tryz.prog 239 #[x,y] w (qV w a b):=by
 have hlen:(dF 10000 b).length=sz 10000 b:=rfl
 have hs1:1≤sz 10000 b:=by
  rcases aS (sz 10000 b) with h|h
  ·have:=iV (B:=10000) zo b;rw [h] at this;simp at this
   omega
  ·exact h
 have htp:=lg (B:=10000) zo b;obtain ⟨pb,cb,rfl,h1,h2,h3⟩:=hy.read
 by_cases hone:sz 10000 b=1
 ·rw [hone] at h3 ⊢
  have hd:dF 10000 b=[b]:=by
   have e:=bH (B:=10000) zo b
   match hl:dF 10000 b,hlen with
   | [d],_=>rw [hl] at e;simp [val] at e;rw [e]
   | [],h=>rw [hone] at h;cases h
   | _:: _:: _,h=>rw [hone] at h;simp at h
  have hb4:b<10000:=by
   have:=bN (B:=10000) zo b;rw [hd] at this;exact this.head
  obtain ⟨b',o',e, -, hc⟩:=h3 0 zo;rw [hd] at hc;exact JJ x a b pb cb w hx zo hb hb4 ⟨b',o',e,hc⟩
 ·obtain ⟨p,hp⟩:∃ p,sz 10000 b=p+2:=⟨sz 10000 b - 2,by omega⟩
  by_cases hlt:sz 10000 a≤p+1
  ·rw [hp];exact FU x a p b pb cb w hx hlt zo (qw (B:=10000) zo zo)
  ·have hgs:=hy.gs;rw [hp] at hgs ⊢;refine FT x a (p+1) p (sz 10000 a - (p+1)) b (dF 10000 b) pb cb w hx hgs (by rw [hlen,hp]) (bN zo b) ?_ rfl zo zo ha (bH zo b);have:=htp (p+1) (by rw [hlen,hp]);omega
theorem IJ (b:Bool) (v:Value) (n:Nat) (z:Int) (w:World) (h:Nm w v n) (hz:iM n b=z) :
  Calls Tryz.prog 190 #[ay b,v] w fun e w'=>∃ v',e= ah v'∧Below w.heap.size w w'∧Pl w' v' z:=by
 have:=kK b v _ w h.gs (bN zo _)
 rwa [bH zo,hz] at this
def OI (w:World) (z:Int) (e:Ending) (w':World):Prop:=∃ v',e= ah v'∧Below w.heap.size w w'∧Pl w' v' z
theorem Tp {P:Program} {fn:Func} {R:Ending→World→Prop} {w:World} {tmps:Array Value} {p q:Tmp} {ty t pR t2:TypeId} {g g2:Nat} {cs cs2:Array Value} {d d2:TypeDesc} (h:fn.results=#[.cell p ty,.cell q pR])
  (hp:tmps.getD p undef= aA (some ⟨g,0,none⟩)) (hg:aC w g cs t) (hu:P.underlying ty=some d)
  (hd:(match d with| .struct _| .array _ _=>true| _=>false)=true) (hi:(P.info? ty).map (·.size)=some cs.size)
  (hp2:tmps.getD q undef= aA (some ⟨g2,0,none⟩)) (hg2:aC w g2 cs2 t2) (hu2:P.underlying pR=some d2)
  (hd2:(match d2 with| .struct _| .array _ _=>true| _=>false)=true) (hi2:(P.info? pR).map (·.size)=some cs2.size)
  (k:R (ah (aD #[au cs,au cs2])) w):bodyPost P fn R .ret { tmps:=tmps,defers:=[] } w:=by
 refine bodyPost_ret ?_ rfl k
 have e:(results fn tmps).run P w=((asAddr (tmps.getD p undef)).run P w).andThen fun a w₁=>((loadVar ty a).run P w₁).andThen fun v w₂=>((asAddr (tmps.getD q undef)).run P w₂).andThen fun a w₁=>((loadVar pR a).run P w₁).andThen fun v2 w₂=>.ok (aD #[v,v2]) w₂:=by
  simp only [results,h];simp [Sem.run_bind,Result.andThen]
 rw [e,hp,hp2];simp only [asAddr,Sem.run_pure,Result.andThen_ok];rw [run_loadVar_row w g t ty cs (0,0) d hg hu hd hi];simp only [Result.andThen_ok,Sem.run_pure];rw [run_loadVar_row w g2 t2 pR cs2 (0,0) d2 hg2 hu2 hd2 hi2];rfl
theorem Nm.inj {w:World} {v:Value} {m n:Nat} (h:Nm w v m) (k:Nm w v n):m=n:=by
 obtain ⟨p,c,rfl, -, -, h1⟩:=Gs.read h.gs;obtain ⟨p',c',e, -, -, h2⟩:=Gs.read k.gs;simp only [Value.slice.injEq] at e;obtain ⟨rfl,hl,rfl⟩:=e
 have:dF 10000 m=dF 10000 n:=by
  refine List.ext_getElem hl fun i hi hi2=>?_;obtain ⟨b,o,e, -, hc⟩:=h1 i hi;obtain ⟨b',o',e', -, hc'⟩:=h2 i hi2;rw [e] at e';simp only [Option.some.injEq,Addr.mk.injEq,and_true] at e';obtain ⟨rfl,rfl⟩:=e';rw [hc] at hc';simp only [Option.some.injEq,Value.int.injEq,true_and] at hc';rw [bM,bM,List.getElem?_eq_getElem hi,List.getElem?_eq_getElem hi2] at hc'
  simpa using Int.ofNat_inj.mp hc'
 rw [← bH (B:=10000) zo m,this,bH zo]
open Classical in
noncomputable def TG (w:World) (v:Value):Nat:=if h:∃ n,Nm w v n then h.choose else 0
theorem IG {w:World} {v:Value} {n:Nat} (h:Nm w v n):TG w v=n:=by
 unfold TG;rw [dif_pos ⟨n,h⟩];exact Nm.inj (Exists.choose_spec (⟨n,h⟩:∃ n,Nm w v n)) h
theorem yX (x y:Value) (a b:Int) (w:World) (hx:Pl w x a) (hy:Pl w y b) (ha:sz 10000 a.natAbs≤274877906944) (hb:sz 10000 b.natAbs≤274877906944) :
  Calls Tryz.prog 188 #[x,y] w (OI w (Nat.gcd a.natAbs b.natAbs)):=by
 obtain ⟨bA,BU,lA,EA,rfl⟩:=hx.agg;obtain ⟨bB,MC,lB,Ol,rfl⟩:=hy.agg;have NA:=zh hx.nm.1;have NB:=zh hy.nm.1;obtain ⟨G,EG⟩:∃ G,Nat.gcd a.natAbs b.natAbs=G:=⟨_,rfl⟩;rw [EG];have HG:=zh EG;have KA:=zh ha;have KB:=zh hb;have h0:Below w.heap.size w (((w.alloc (.cells #[ay bA,aj BU lA EA] 144)).alloc (.cells #[ay bB,aj MC lB Ol] 144)).alloc (.cells #[ay false,aj none 0 0] 144)):=aN;obtain ⟨W,EW⟩:∃ y,((w.alloc (.cells #[ay bA,aj BU lA EA] 144)).alloc (.cells #[ay bB,aj MC lB Ol] 144)).alloc (.cells #[ay false,aj none 0 0] 144)=y:=⟨_,rfl⟩;have hx1:aC W w.heap.size #[ay bA,aj BU lA EA] 144:=by rw [← EW];exact bf
 have hx2:aC W (w.heap.size+1) #[ay bB,aj MC lB Ol] 144:=by rw [← EW];exact bf
 have hx3:aC W (w.heap.size+1+1) #[ay false,aj none 0 0] 144:=by rw [← EW];exact aC.at2 _ _ _ _ _
 rw [EW] at h0;have c1:=hx1.cell;have c2:=hx2.cell;have l1:=hx1.lt;have l2:=hx2.lt;have Pg:=zh hx3;clear EG hx hy ha hb hx1 hx2 hx3;go_enter Tryz.func188,Tryz.ntmps188
 go_wp2_with fail
 go_quiet (fail)
 clear EW c1 c2 l1 l2;have hq:Below W.heap.size W (W.drewN nq):=below_drewN (Below.refl _ _) _;obtain ⟨W1,E1⟩:∃ y,W.drewN nq=y:=⟨_,rfl⟩;rw [E1] at hq ⊢;clear E1;replace Pg:=zh (Pg.out.later hq);have h1:=Bt h0 hq;have HA1:=zh (NA.out.later h1);have HB1:=zh (NB.out.later h1);clear hq h0 NA NB;go_wp2_with fail
 go_loopw [5,6,7,8] (fun xv yv _ _ wr=>∃ p q:Nat,Hid (Nm wr xv p)∧Hid (Nm wr yv q)∧Hid (Nat.gcd p q=G)∧Hid (sz 10000 p≤274877906944)∧Hid (sz 10000 q≤274877906944)∧Hid (Below W1.heap.size W1 wr)) (fun _ yv _ _ wr=>TG wr yv)
 case atStart=>exact ⟨_,_,HA1,HB1,HG,KA,KB,zh (Below.refl _ _)⟩
 case round =>
  clear HA1 HB1;obtain ⟨p,q,HP,HQ,HPG,KP,KQ,HB⟩:=hrel;obtain ⟨pp,lp,cp,rfl⟩:=HP.out.slice;obtain ⟨pq,lq,cq,rfl⟩:=HQ.out.slice
  rcases aS q with h0|h0
  ·subst h0;have hl:=HQ.out.ac6 rfl;subst hl;have hpg:Hid (p=G):=zh (by have:=HPG.out;rwa [Nat.gcd_zero_right] at this);have hres:=Pg.out.later HB.out;have cr:=hres.cell;have fr:=hres.free;go_wp2_with fail
   refine iT rfl rfl bf Tryz.underlying144 rfl zk ?_;have hlt:=Pg.out.lt;have hB2:Below w.heap.size w wr:=Bt h1 HB.out;refine ⟨_,rfl,aN,Pl.mk (n:=p) ((HP.out.setOther hres zd 0 _).setOther (hres.set 0 _) zd 1 _) (by rw [hpg.out];rfl) ?_⟩;simp
  ·have hl:=HQ.out.ac5 h0;have HPT:=zh (CX _ _ p q wr HP.out HQ.out h0 KP.out KQ.out);have H0:=zh h0;clear h0;go_wp2_with fail
   refine HPT.out.mono ?_;rintro e w2 ⟨qv,rv,rfl,hb2,hq2,hr2⟩;obtain ⟨p3,l3,c3,rfl⟩:=hq2.slice;obtain ⟨p4,l4,c4,rfl⟩:=hr2.slice;have HR2:=zh hr2;have HQ2:=zh (HQ.out.later hb2);have HB2:=zh (Bt HB.out hb2);clear hr2 hq2 hb2 HPT;go_wp2_with fail
   go_roundw
   case rel =>
    refine ⟨q,p%q,HQ2,HR2,zh ?_,KQ,zh ?_,HB2⟩
    ·rw [Nat.gcd_comm,← Nat.gcd_rec,Nat.gcd_comm];exact HPG.out
    ·exact aB (gZ zo (Nat.mod_le _ _)) KP.out
   case measure =>
    rw [IG HR2.out,IG HQ.out];exact dV _ H0.out
end Go.Proofs.aV
namespace Go.Proofs.aV
open Go Go.RowKit Go.SW Go.Num Go.Mem Go.Proofs
theorem PL {a b:Int} (hb:0<b) (h:0≤a∨b ∣ a):iM (a.natAbs / b.natAbs) (decide (a<0))=a / b∧iM (a.natAbs%b.natAbs) (decide (a<0))=a%b∧0≤a%b:=by
 have hm:=Int.emod_nonneg a (show b≠0 by omega)
 rcases h with h|h
 ·have h1:¬ a<0:=by omega
  unfold iM;simp only [h1,decide_false,bW,if_false];obtain ⟨x,rfl⟩:=Int.eq_ofNat_of_zero_le h;obtain ⟨y,rfl⟩:=Int.eq_ofNat_of_zero_le (Int.le_of_lt hb);simp only [Int.natAbs_natCast];exact ⟨by rw [Int.natCast_ediv],by rw [Int.natCast_emod],hm⟩
 ·have e1:a%b=0:=Int.emod_eq_zero_of_dvd h;have e2:a.natAbs%b.natAbs=0:=Nat.mod_eq_zero_of_dvd (Int.natAbs_dvd_natAbs.2 h);refine ⟨?_,by rw [e1,e2];unfold iM;simp,hm⟩;obtain ⟨c,rfl⟩:=h;have h2:=Cy (z:=b*c) (y:=b) ⟨c,rfl⟩;have h3:¬ b<0:=by omega
  simpa [h3] using h2
def yT (w:World) (q r:Int) (e:Ending) (w':World):Prop:=∃ x y,e= ah (aD #[x,y])∧Below w.heap.size w w'∧Pl w' x q∧Pl w' y r
theorem uH (x y:Value) (a b:Int) (w:World) (hx:Pl w x a) (hy:Pl w y b) (ha:sz 10000 a.natAbs≤274877906944) (hb:sz 10000 b.natAbs≤274877906944) (hb0:0<b) (hd:0≤a∨b ∣ a) :
  Calls Tryz.prog 189 #[x,y] w (yT w (a / b) (a%b)):=by
 obtain ⟨bA,BU,lA,EA,rfl⟩:=hx.agg;obtain ⟨bB,MC,lB,Ol,rfl⟩:=hy.agg;obtain ⟨nA,eA⟩:=hx.nm;obtain ⟨nB,eB⟩:=hy.nm;have hbf:bB=false:=by rw [eB];simp;omega
 subst hbf;obtain ⟨s1,s2,s3⟩:=PL hb0 hd;rw [← eA] at s1 s2;have Wj:=zh nA;have NBn:=zh nB;have KA:=zh ha;have KB:=zh hb;have H0:Hid (0<b.natAbs):=zh zo;have HS1:=zh s1;have HS2:=zh s2;have HS3:=zh s3;clear hx hy ha hb hb0 hd nA nB eA eB s1 s2 s3;go_enter Tryz.func189,Tryz.ntmps189
 go_wp2_with fail
 obtain ⟨Te,EW,hz,X1,X2,X3,X4⟩:=YQ w #[ay bA,aj BU lA EA] 144 #[ay false,aj MC lB Ol] 144 #[ay false,aj none 0 0] 144 #[ay false,aj none 0 0] 144;rw [EW];replace Wj:=zh (Wj.out.later hz);have hk2:=Bt (Below.refl _ _) hz;clear EW hz;refine (CX _ _ _ _ _ Wj.out (NBn.out.later hk2) H0.out KA.out KB.out).mono ?_;rintro e Co ⟨q,r,rfl,hb3,hq,hr⟩;obtain ⟨paQ,lQ,caQ,rfl⟩:=hq.slice;obtain ⟨paR,lR,caR,rfl⟩:=hr.slice;replace Wj:=zh (Wj.out.later hb3);replace X1:=X1.bl hb3;replace X2:=X2.bl hb3;replace X3:=X3.bl hb3;replace X4:=X4.bl hb3;have hk5:=Bt hk2 hb3;clear hk2;have NQ:=zh hq;have NR:=zh hr;clear hb3 hq hr;have HL4:=zh X4.out.lt;go_wp2_with fail
 obtain ⟨zq,zm,Fg⟩:=X1.clf;obtain ⟨Ld,Lb,Wh⟩:=X2.clf;refine aT [(.pure,0),(.read,1),(.pure,2),(.read,3),(.pure,4),(.pure,5),(.pure,7),(.read,8),(.pure,9),(.ext,6),(.ext,10),(.alloc #[ay false,aj none 0 0] 144,11),(.alloc #[ay false,aj none 0 0] 144,12),(.fin,13),(.fin,14)] zk zk zR zP ?_;refine zV ?_;refine aW rfl rfl (fun we6 hb6 J hJ=>?_);go_simp;have hh6:Below Co.heap.size Co we6:=aN;clear hb6;refine (IJ _ _ _ _ _ (NQ.out.later hh6) HS1.out).mono ?_;rintro e Zv ⟨v,rfl,og,Np⟩;obtain ⟨bU,RY,lU,Sq,rfl⟩:=Np.agg;refine hJ _ _ og ?_;clear hJ J;have hh7:=Bt hh6 og;have NU:=zh Np;clear hh6 og Np;refine zV ?_;refine aW rfl rfl (fun we9 zn J hJ=>?_);go_simp;have hh9:Below Co.heap.size Co we9:=Bt hh7 aN;replace NU:=zh (NU.out.later (show Below Zv.heap.size Zv we9 from aN));clear zn hh7
 refine (IJ _ _ _ _ _ (NR.out.later hh9) HS2.out).mono ?_;rintro e Pt ⟨v,rfl,Dz,hv⟩;obtain ⟨bV,RV,lV,Sn,rfl⟩:=hv.agg;have hbv:bV=false:=hv.nm.2.trans (decide_eq_false (by have:=HS3.out;omega));subst hbv;refine hJ _ _ Dz ?_;clear hJ J;have Yb:=Bt hh9 Dz;replace NU:=zh (NU.out.later Dz);have NV:=zh hv;clear hh9 Dz hv;refine zV ?_;refine gP rfl (fun EI an1 XM yA Qu Ui uX=>?_);go_simp;replace uX:aC _ _ _ _:=uX;have Ug:w.heap.size≤EI:=(by first|omega|exact aB (Below.size (B:=w.heap.size) aN) yA);refine gP rfl (fun EH an0 R5 yx Qt Nz Bj=>?_);go_simp;replace Bj:aC _ _ _ _:=Bj;have Uf:w.heap.size≤EH:=(by first|omega|exact aB (Below.size (B:=w.heap.size) aN) yx);replace uX:=aC.later uX R5;have hne:EI≠EH:=fun h=>Nz (by simp [h])
 have hne2:EH≠EI:=fun h=>hne h.symm;refine dG [_,_] rfl (fun Pq TW=>?_);replace NU:=zh (NU.out.later (show Below Pt.heap.size Pt Pq from aN));replace NV:=zh (NV.out.later (show Below Pt.heap.size Pt Pq from aN));have Ya:Below Co.heap.size Co Pq:=Bt Yb aN;have hq0:=uX.later TW;have cq0:=hq0.cell;have fq0:=hq0.free;have hq1:=Bj.later TW;have cq1:=hq1.cell;have fq1:=hq1.free;clear uX Bj TW Yb;clear zq zm Fg Ld Lb Wh;go_wp2_with fail
 obtain ⟨Td,EW⟩:∃ y,((((Pq.setCell ⟨EI,0,none⟩ (ay bU)).setCell ⟨EI,1,none⟩ (aj RY lU Sq)).setCell ⟨EH,0,none⟩ (ay false)).setCell ⟨EH,1,none⟩ (aj RV lV Sn))=y:=⟨_,rfl⟩;have hz:Below Co.heap.size Co Td:=by rw [← EW];exact ((((Ya.setCell yA _).setCell yA _).setCell yx _).setCell yx _)
 have X5:Hid (aC Td EI #[ay bU,aj RY lU Sq] 144):=zh (by rw [← EW];exact ((((hq0.set 0 _).set 1 _).setOther _ (by first|exact hne|exact hne2)).setOther _ (by first|exact hne|exact hne2)));have X6:Hid (aC Td EH #[ay false,aj RV lV Sn] 144):=zh (by rw [← EW];exact ((((hq1.setOther _ (by first|exact hne|exact hne2)).setOther _ (by first|exact hne|exact hne2)).set 0 _).set 1 _));have t:=((((NU.out.setOther hq0 zd 0 (ay bU)).setOther (hq0.set 0 _) zd 1 (aj RY lU Sq)).setOther ((hq1.setOther _ (by first|exact hne|exact hne2)).setOther _ (by first|exact hne|exact hne2)) zd 0 (ay false)).setOther (((hq1.setOther _ (by first|exact hne|exact hne2)).setOther _ (by first|exact hne|exact hne2)).set 0 _) zd 1 (aj RV lV Sn));rw [EW] at t;replace NU:=zh t;clear t
 have t:=((((NV.out.setOther hq0 zd 0 (ay bU)).setOther (hq0.set 0 _) zd 1 (aj RY lU Sq)).setOther ((hq1.setOther _ (by first|exact hne|exact hne2)).setOther _ (by first|exact hne|exact hne2)) zd 0 (ay false)).setOther (((hq1.setOther _ (by first|exact hne|exact hne2)).setOther _ (by first|exact hne|exact hne2)).set 0 _) zd 1 (aj RV lV Sn));rw [EW] at t;replace NV:=zh t;clear t;rw [EW];clear EW hq0 cq0 fq0 hq1 cq1 fq1 Ya;clear Wj;replace X1:=X1.bl hz;replace X2:=X2.bl hz;replace X3:=X3.bl hz;replace X4:=X4.bl hz;replace NQ:=zh (NQ.out.later hz);replace NR:=zh (NR.out.later hz);have ar2:=Bt hk5 hz;clear hk5;clear hz;clear XM Ui Nz Ug Uf R5;have TT:=yA;have TS:=yx;clear yA yx Qu Qt;have c5:=X5.out.cell;have c6:=X6.out.cell;have c3:=X3.out.cell;have c4:=X4.out.cell;have f3:=X3.out.free;have f4:=X4.out.free
 have hl4:=HL4.out;have n1:EH≠w.heap.size+1+1:=by omega
 have n2:EH≠w.heap.size+1+1+1:=by omega
 have n3:EI≠w.heap.size+1+1:=by omega
 have n4:EI≠w.heap.size+1+1+1:=by omega
 have h3:=X3.out;have h4:=X4.out;clear X1 X2 X5 X6 NQ NR HS1 HS2 HS3 H0 KA KB NBn hne hne2 hl4 HL4 TT TS;go_region
 go_wp2_with fail
 have h4b:=(h4.setOther (a:=⟨w.heap.size+1+1,0,none⟩) (ay bU) zi).setOther (a:=⟨w.heap.size+1+1,1,none⟩) (aj RY lU Sq) zi;have h3b:=(((h3.set 0 (ay bU)).set 1 (aj RY lU Sq)).setOther (a:=⟨w.heap.size+1+1+1,0,none⟩) (ay false) zi).setOther (a:=⟨w.heap.size+1+1+1,1,none⟩) (aj RV lV Sn) zi;have hU:=(NU.out.set2 h3 zd 0 1 (ay bU) (aj RY lU Sq)).set2 h4b zd 0 1 (ay false) (aj RV lV Sn);have hV:=(NV.out.set2 h3 zd 0 1 (ay bU) (aj RY lU Sq)).set2 h4b zd 0 1 (ay false) (aj RV lV Sn);refine Tp rfl rfl (aC.drew h3b) Tryz.underlying144 rfl zk rfl (aC.drew ((h4b.set 0 (ay false)).set 1 (aj RV lV Sn))) Tryz.underlying144 rfl zk ?_;exact ⟨_,_,rfl,aN,hU.later (Below.drew (Below.refl _ _)),hV.later (Below.drew (Below.refl _ _))⟩
end Go.Proofs.aV
