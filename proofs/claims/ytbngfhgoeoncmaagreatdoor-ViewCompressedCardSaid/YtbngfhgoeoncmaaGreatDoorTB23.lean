/- Lemmas for the proof. No condition. -/
import Derived.Test.YtbngfhgoeoncmaaGreatDoorTB22
import Derived.Lib.ParseIntBTie
set_option linter.unusedVariables false
set_option linter.unusedSimpArgs false
set_option maxRecDepth 100000
set_option maxHeartbeats 16000000
open Go.Ending renaming returned → ah
open Go.IntKind renaming i64 → I
open Go.Value renaming agg → aB, bool → aC, int → Z, pointer → au, slice → aj, string → O, tuple → aF
open List renaming length_cons → aV, set_cons_succ → aJ, set_cons_zero → aI
open Nat renaming add_mul → dH, add_zero → gL, le_trans → ay, lt_of_lt_of_le → aP, mul_assoc → bV, mul_comm → aL, pow_succ → bF, zero_add → dS
namespace Go.Proofs.dw
open Go Go.RowKit Go.SW Go.Num Go.Mem Go.Proofs Go.Dec Go.d9
theorem TH (s t s' t':ByteArray) (w:World) (h:rd ⟨s,t⟩=none∨rd ⟨s',t'⟩=none) :
  Calls Tryz.prog 78 #[aB #[O s,O t],aB #[O s',O t']] w (fun e w'=>e= ah (aF #[aB #[O ⟨#[]⟩,O ⟨#[]⟩],Z I 20])∧Below w.heap.size w w'):=by
 cases h1:rd ⟨s,t⟩ with
 | none =>
  have HR:=zh (gB h1);cases k:rd ⟨s',t'⟩ with
  | none =>
   have HS:=zh (gB k);clear h k h1;go_enter Tryz.func78,Tryz.ntmps78
   go_wp2_with fail
   refine (HR.out _).mono ?_;rintro e v1 ⟨rfl,hc1⟩;have BR:=aA.later (aA.at2 _ _ _ _ _) hc1;have bR:=BR.cell;have bQ:=BR.free;have gT:=BR.lt;have B1:=aA.later (aA.alloc (aA.nX _ _ _ _) _) hc1;have cB1:=B1.cell;have nW:=B1.free;have lB1:=B1.lt;go_wp2_with fail
   refine (HS.out _).mono ?_;rintro e v2 ⟨rfl,hc2⟩;replace BR:aA _ (w.heap.size+1+1) _ _:=aA.later aY hc2;(try simp only [List.setIfInBounds_toArray,aI,aJ] at BR);replace bR:=BR.cell;replace bQ:=BR.free;replace gT:=BR.lt;go_wp2_with fail
   refine bE rfl rfl aY Tryz.underlying38 rfl zk ?_;exact ⟨rfl,aO⟩
  | some q =>
   have HS:=zh (fI k);clear h k h1;go_enter Tryz.func78,Tryz.ntmps78
   go_wp2_with fail
   refine (HR.out _).mono ?_;rintro e v1 ⟨rfl,hc1⟩;have BR:=aA.later (aA.at2 _ _ _ _ _) hc1;have bR:=BR.cell;have bQ:=BR.free;have gT:=BR.lt;have B1:=aA.later (aA.alloc (aA.nX _ _ _ _) _) hc1;have cB1:=B1.cell;have nW:=B1.free;have lB1:=B1.lt;go_wp2_with fail
   refine (HS.out _).mono ?_;rintro e v2 ⟨v,rfl,hc2,hv⟩;obtain ⟨xH,Ny,xR,Bf,Rf,Bo,rfl,Hq,qP⟩:=hv;replace Hq:=zh Hq;replace qP:=zh qP;replace BR:aA _ (w.heap.size+1+1) _ _:=aA.later aY hc2;(try simp only [List.setIfInBounds_toArray,aI,aJ] at BR);replace bR:=BR.cell;replace bQ:=BR.free;replace gT:=BR.lt;go_wp2_with fail
   refine bE rfl rfl aY Tryz.underlying38 rfl zk ?_;exact ⟨rfl,aO⟩
 | some p =>
  have HR:=zh (fI h1);cases k:rd ⟨s',t'⟩ with
  | none =>
   have HS:=zh (gB k);clear h k h1;go_enter Tryz.func78,Tryz.ntmps78
   go_wp2_with fail
   refine (HR.out _).mono ?_;rintro e v1 ⟨v,rfl,hc1,hv⟩;obtain ⟨IE,WC,Jm,LW,Yx,MW,rfl,Hp,tO⟩:=hv;replace Hp:=zh Hp;replace tO:=zh tO;have BR:=aA.later (aA.at2 _ _ _ _ _) hc1;have bR:=BR.cell;have bQ:=BR.free;have gT:=BR.lt;have B1:=aA.later (aA.alloc (aA.nX _ _ _ _) _) hc1;have cB1:=B1.cell;have nW:=B1.free;have lB1:=B1.lt;go_wp2_with fail
   refine (HS.out _).mono ?_;rintro e v2 ⟨rfl,hc2⟩;replace BR:aA _ (w.heap.size+1+1) _ _:=aA.later aY hc2;(try simp only [List.setIfInBounds_toArray,aI,aJ] at BR);replace bR:=BR.cell;replace bQ:=BR.free;replace gT:=BR.lt;go_wp2_with fail
   refine bE rfl rfl aY Tryz.underlying38 rfl zk ?_;exact ⟨rfl,aO⟩
  | some q=>rw [h1,k] at h;simp at h
theorem div_zero (s t s' t':ByteArray) (w:World) (p:Rat) (h:rd ⟨s,t⟩=some p) (k:rd ⟨s',t'⟩=some 0) :
  Calls Tryz.prog 78 #[aB #[O s,O t],aB #[O s',O t']] w (fun e w'=>e= ah (aF #[aB #[O ⟨#[]⟩,O ⟨#[]⟩],Z I 7])∧Below w.heap.size w w'):=by
 have HR:=zh (fI h);have HS:=zh (fI k);clear h k;obtain ⟨n,En⟩:∃ y:Nat,Hid ((0:Rat).num.natAbs=y):=⟨_,zh rfl⟩;have hz:decide (n=0)=true:=by rw [← En.out];rfl
 have HZ:=zh hz;clear hz;go_enter Tryz.func78,Tryz.ntmps78
 go_wp2_with fail
 refine (HR.out _).mono ?_;rintro e v1 ⟨v,rfl,hc1,hv⟩;obtain ⟨IE,WC,Jm,LW,Yx,MW,rfl,Hp,tO⟩:=hv;replace Hp:=zh Hp;replace tO:=zh tO;have BR:=aA.later (aA.at2 _ _ _ _ _) hc1;have bR:=BR.cell;have bQ:=BR.free;have gT:=BR.lt;have B1:=aA.later (aA.alloc (aA.nX _ _ _ _) _) hc1;have cB1:=B1.cell;have nW:=B1.free;have lB1:=B1.lt;go_wp2_with fail
 refine (HS.out _).mono ?_;rintro e v2 ⟨v,rfl,hc2,hv⟩;obtain ⟨xH,Ny,xR,Bf,Rf,Bo,rfl,Hq,qP⟩:=hv;replace Hq:=zh Hq;replace qP:=zh qP;replace BR:aA _ (w.heap.size+1+1) _ _:=aA.later aY hc2;(try simp only [List.setIfInBounds_toArray,aI,aJ] at BR);replace bR:=BR.cell;replace bQ:=BR.free;replace gT:=BR.lt;go_wp2_with fail
 rw [En.out] at Hq;refine (gM _ n _ aK).mono ?_;rintro e v5 ⟨rfl,rfl⟩;rw [HZ.out];go_wp2_with fail
 refine bE rfl rfl aY Tryz.underlying38 rfl zk ?_;exact ⟨rfl,aO⟩
theorem Qo (s t s' t':ByteArray) (w:World) (p q:Rat) (h:rd ⟨s,t⟩=some p) (k:rd ⟨s',t'⟩=some q) (h0:q≠0) (ht:iA.Pow w) :
  Calls Tryz.prog 78 #[aB #[O s,O t],aB #[O s',O t']] w (fun e w'=>e= ah (Fr.res (wr (p / q)))∧Below w.heap.size w w'):=by
 have HR:=zh (fI h);have HS:=zh (fI k);have kp:=jH (mX h).2;have kq:=jH (mX k).2;have ki:=RI kq h0
 have hz:decide (q.num.natAbs=0)=false:=by
  simp [h0]
 have HZ:=zh hz;have HQ0:=zh h0;have HT:=zh ht;rw [Rat.div_def];have km:=JQ kp ki;obtain ⟨i,Ei⟩:∃ y:Rat,Hid (q⁻¹=y):=⟨_,zh rfl⟩;rw [Ei.out] at km ki ⊢;obtain ⟨r,Er⟩:∃ y:Rat,Hid (p*i=y):=⟨_,zh rfl⟩;rw [Er.out] at km ⊢;have KP:=zh (kp.mono (show 67≤1000000 by omega));have KI:=zh (ki.mono (show 67≤1000000 by omega));have KR:=zh (km.mono (show 2*67≤1000000 by omega));obtain ⟨x,Ex⟩:∃ y:FrI,Hid (wr r=y):=⟨_,zh rfl⟩;rw [Ex.out];obtain ⟨⟨s1,t1⟩,e⟩:=x;rw [oD];clear h k kp kq ki hz h0 ht km;go_enter Tryz.func78,Tryz.ntmps78
 go_wp2_with fail
 refine (HR.out _).mono ?_;rintro e v1 ⟨v,rfl,hc1,hv⟩;obtain ⟨IE,WC,Jm,LW,Yx,MW,rfl,Hp,tO⟩:=hv;replace Hp:=zh Hp;replace tO:=zh tO;have BR:=aA.later (aA.at2 _ _ _ _ _) hc1;have bR:=BR.cell;have bQ:=BR.free;have gT:=BR.lt;have B1:=aA.later (aA.alloc (aA.nX _ _ _ _) _) hc1;have cB1:=B1.cell;have nW:=B1.free;have lB1:=B1.lt;go_wp2_with fail
 refine (HS.out _).mono ?_;rintro e v2 ⟨v,rfl,hc2,hv⟩;obtain ⟨xH,Ny,xR,Bf,Rf,Bo,rfl,Hq,qP⟩:=hv;replace Hq:=zh Hq;replace qP:=zh qP;replace Hp:=zh (aT.carry Hp.out aK hc2);replace tO:=zh (aT.carry tO.out aK hc2);replace X1:aA _ (v1.heap.size) _ _:=aA.later aY hc2;(try simp only [List.setIfInBounds_toArray,aI,aJ] at X1);replace Qz:=X1.cell;replace fX1:=X1.free;replace Pp:=X1.lt;replace BR:aA _ (w.heap.size+1+1) _ _:=aA.later aY hc2;(try simp only [List.setIfInBounds_toArray,aI,aJ] at BR);replace bR:=BR.cell;replace bQ:=BR.free;replace gT:=BR.lt;go_wp2_with fail
 refine (gM _ q.num.natAbs _ aK).mono ?_;rintro e v5 ⟨rfl,rfl⟩;rw [HZ.out];go_wp2_with fail
 refine aQ [(.read,0),(.read,1),(.ext,2),(.ext,3),(.ext,4),(.pure,5),(.pure,6),(.fin,7),(.fin,8)] zk zk zR zP ?_;refine zV ?_;refine aN rfl rfl (fun w3 hb3 J hJ=>?_);go_simp;replace Hp:=zh (aT.carry Hp.out aK hb3);replace tO:=zh (aT.carry tO.out aK hb3);replace BR:aA _ (w.heap.size+1+1) _ _:=aA.later aY hb3;(try simp only [List.setIfInBounds_toArray,aI,aJ] at BR);replace bR:=BR.cell;replace bQ:=BR.free;replace gT:=BR.lt;refine ((IZ _ q _ (fA.of aK aK) HQ0.out).mono (by rw [Ei.out];exact fun _ _ h=>h)).mono ?_;rintro e v3 ⟨v,rfl,hc3,hv⟩;obtain ⟨ai5,lHv,an1,as1,mHv,ax4,rfl,Hv,YQ⟩:=hv;replace Hv:=zh Hv;replace YQ:=zh YQ;replace Hp:=zh (aT.later Hp.out hc3);replace tO:=zh (aT.later tO.out hc3);replace BR:=aA.later (BR) hc3;replace bR:=BR.cell;replace bQ:=BR.free;replace gT:=BR.lt
 refine hJ _ _ hc3 ?_;clear hJ J;refine aN rfl rfl (fun w4 hb4 J hJ=>?_);go_simp;replace Hp:=zh (aT.later Hp.out hb4);replace tO:=zh (aT.later tO.out hb4);replace Hv:=zh (aT.later Hv.out hb4);replace YQ:=zh (aT.later YQ.out hb4);replace BR:=aA.later (BR) hb4;replace bR:=BR.cell;replace bQ:=BR.free;replace gT:=BR.lt;refine ((OY _ _ p i _ (fA.of aK aK) (fA.of aK aK) KP.out KI.out).mono (by rw [Er.out];exact fun _ _ h=>h)).mono ?_;rintro e v4 ⟨v,rfl,hc4,hv⟩;obtain ⟨OG,ZV,Qw,Wh,mHr,Xz,rfl,Hr,Jv⟩:=hv;replace Hr:=zh Hr;replace Jv:=zh Jv;replace Hp:=zh (aT.later Hp.out hc4);replace tO:=zh (aT.later tO.out hc4);replace Hv:=zh (aT.later Hv.out hc4);replace YQ:=zh (aT.later YQ.out hc4);replace BR:=aA.later (BR) hc4;replace bR:=BR.cell;replace bQ:=BR.free;replace gT:=BR.lt;refine hJ _ _ hc4 ?_;clear hJ J
 refine aN rfl rfl (fun w5 hb5 J hJ=>?_);go_simp;replace Hr:=zh (aT.later Hr.out hb5);replace Jv:=zh (aT.later Jv.out hb5);replace BR:=aA.later (BR) hb5;replace bR:=BR.cell;replace bQ:=BR.free;replace gT:=BR.lt;refine ((jo _ r _ (fA.of aK aK) KR.out (HT.out.later aO)).mono (by rw [Ex.out,oD];exact fun _ _ h=>h)).mono ?_;rintro e v5 ⟨rfl,kK⟩;replace Hr:=zh (aT.later Hr.out kK);replace Jv:=zh (aT.later Jv.out kK);replace BR:=aA.later (BR) kK;replace bR:=BR.cell;replace bQ:=BR.free;replace gT:=BR.lt;refine hJ _ _ kK ?_;clear hJ J;refine zV ?_;refine bT [_,_] rfl (fun w9 xZ=>?_);replace BR:=aA.later (BR) xZ;replace bR:=BR.cell;replace bQ:=BR.free;replace gT:=BR.lt;go_wp2_with fail
 refine bE rfl rfl aY Tryz.underlying38 rfl zk ?_;exact ⟨rfl,aO⟩
theorem wC (a b:Fr) (w:World) (ht:iA.Pow w) :
  Calls Tryz.prog 78 #[a.v,b.v] w (fun e w'=>e= ah (Fr.res (uX a b))∧Below w.heap.size w w'):=by
 obtain ⟨s,t⟩:=a;obtain ⟨s',t'⟩:=b
 show Calls _ _ #[aB #[O s,O t],aB #[O s',O t']] _ _
 unfold uX
 by_cases hbad:rd ⟨s,t⟩=none∨rd ⟨s',t'⟩=none
 ·have e:∀ f,bin f ⟨s,t⟩ ⟨s',t'⟩=(Fr.no,20):=fun f=>by
   rcases hbad with h|h
   ·exact yw h
   ·exact yu h
  rw [e];exact TH s t s' t' w hbad
 ·obtain ⟨p,hp⟩:∃ p,rd ⟨s,t⟩=some p:=Option.ne_none_iff_exists'.1 (fun e=>hbad (.inl e));obtain ⟨q,hq⟩:∃ q,rd ⟨s',t'⟩=some q:=Option.ne_none_iff_exists'.1 (fun e=>hbad (.inr e));rw [mP hp hq]
  by_cases h0:q=0
  ·rw [if_pos h0];subst h0;exact div_zero s t s' t' w p hp hq
  ·rw [if_neg h0];exact Qo s t s' t' w p q hp hq h0 ht
theorem BX {z:Int} {d:Nat} (hd:0<d) (h:z<0):z / (d:Int)= -((z.natAbs / d+(if z.natAbs%d=0 then 0 else 1):Nat):Int):=by
 have h1:=dR.Kh z.natAbs d hd;have e:z= -(z.natAbs:Int):=by omega
 conv=>lhs;rw [e]
 rw [h1];unfold dR.qL
 by_cases c:z.natAbs%d=0
 ·rw [if_neg zo,if_pos c,gL]
 ·rw [if_pos ⟨by omega,rfl⟩,if_neg c]
theorem Qf (v u:Value) (z:Int) (d:Nat) (w:World) (h:bW w v z) (hu:aT w u d) (hd:0<d) (kz:sz 1000000000 z.natAbs≤549755813888) (kd:sz 1000000000 d≤549755813888) :
  Calls Tryz.prog 290 #[v,u] w (fun e w'=>∃ r,e= ah r∧Below w.heap.size w w'∧bW w' r (z / (d:Int))):=by
 obtain ⟨BM,lH,Ce,rfl,H⟩:=h;replace H:=zh H;obtain ⟨Sj,lG,TN,rfl⟩:=hu.slice;have G:=zh hu;clear hu;have HD:=zh hd;have KZ:=zh kz;have KD:=zh kd;have KQ:Hid (sz 1000000000 (z.natAbs / d)≤549755813888):=zh (ay (jK zo (Nat.div_le_self _ _)) kz);obtain ⟨q,Eq⟩:∃ y:Nat,Hid (z.natAbs / d=y):=⟨_,zh rfl⟩;obtain ⟨r,Er⟩:∃ y:Nat,Hid (z.natAbs%d=y):=⟨_,zh rfl⟩;rw [Eq.out] at KQ;clear hd kz kd
 by_cases hz:z<0
 ·have g1:decide (z<0)=true:=decide_eq_true hz;go_enter Tryz.func290,Tryz.ntmps290
  go_wp2_with fail
  refine ((dG _ _ z.natAbs d _ aK aK HD.out KZ.out).mono (by rw [Eq.out,Er.out];exact fun _ _ h=>h)).mono ?_;rintro e v1 ⟨v,vr,rfl,hc1,hv,ji⟩;obtain ⟨xH,Ny,xR,rfl⟩:=hv.slice;have Hq:=zh hv;clear hv;obtain ⟨ZH,ak0,ad8,rfl⟩:=ji.slice;have Hqr:=zh ji;clear ji;have BR:=aA.later (aA.nX _ _ _ _) hc1;have bR:=BR.cell;have bQ:=BR.free;have gT:=BR.lt;have B0:=aA.later (aA.alloc (aA.new _ _ _) _) hc1;have cB0:=B0.cell;have jc:=B0.free;have lB0:=B0.lt;go_wp2_with fail
  by_cases hr:r=0
  ·have YU:=zh hr;refine (gM _ r _ aK).mono ?_;rintro e v5 ⟨rfl,rfl⟩;rw [show decide (r=0)=true from decide_eq_true hr];clear hr;go_wp2_with fail
   refine (dM _ q true _ aK).mono ?_;rintro e v3 ⟨v,rfl,hc3,hv⟩;obtain ⟨xG,Nw,xQ,rfl,Hs⟩:=hv;replace Hs:=zh Hs;replace BR:=aA.later (BR) hc3;replace bR:=BR.cell;replace bQ:=BR.free;replace gT:=BR.lt;replace B0:=aA.later (B0) hc3;replace cB0:=B0.cell;replace jc:=B0.free;replace lB0:=B0.lt;go_wp2_with fail
   have HE:Hid (iZ q true=z / (d:Int)):=by
    rw [BX HD.out hz,Er.out,Eq.out,if_pos YU.out,gL];rfl
   refine iX rfl rfl aY Tryz.underlying86 rfl zk ?_;exact ⟨_,rfl,aO,(bW.dx aK).cast HE.out⟩
  ·have YU:=zh hr;refine (gM _ r _ aK).mono ?_;rintro e v5 ⟨rfl,rfl⟩;rw [show decide (r=0)=false from decide_eq_false hr];clear hr;go_wp2_with fail
   refine (uN _ _ q 1 _ aK (aT.lit zo zo) (ay KQ.out zo) (by have:=cZ (B:=1000000000) zo 1 1 zo;omega)).mono ?_;rintro e v2 ⟨v,rfl,hc2,hv⟩;obtain ⟨IE,WC,Jm,rfl⟩:=hv.slice;have Hp:=zh hv;clear hv;replace BR:aA _ (w.heap.size+1) _ _:=aA.later aY hc2;(try simp only [List.setIfInBounds_toArray,aI,aJ] at BR);replace bR:=BR.cell;replace bQ:=BR.free;replace gT:=BR.lt;replace B0:aA _ (w.heap.size) _ _:=aA.later aY hc2;(try simp only [List.setIfInBounds_toArray,aI,aJ] at B0);replace cB0:=B0.cell;replace jc:=B0.free;replace lB0:=B0.lt;go_wp2_with fail
   refine (dM _ (q+1) true _ aK).mono ?_;rintro e v3 ⟨v,rfl,hc3,hv⟩;obtain ⟨xG,Nw,xQ,rfl,Hs⟩:=hv;replace Hs:=zh Hs;replace BR:=aA.later (BR) hc3;replace bR:=BR.cell;replace bQ:=BR.free;replace gT:=BR.lt;replace B0:=aA.later (B0) hc3;replace cB0:=B0.cell;replace jc:=B0.free;replace lB0:=B0.lt;go_wp2_with fail
   have HE:Hid (iZ (q+1) true=z / (d:Int)):=by
    rw [BX HD.out hz,Er.out,Eq.out,if_neg YU.out];rfl
   refine iX rfl rfl aY Tryz.underlying86 rfl zk ?_;exact ⟨_,rfl,aO,(bW.dx aK).cast HE.out⟩
 ·have g1:decide (z<0)=false:=decide_eq_false hz;go_enter Tryz.func290,Tryz.ntmps290
  go_wp2_with fail
  refine ((dG _ _ z.natAbs d _ aK aK HD.out KZ.out).mono (by rw [Eq.out,Er.out];exact fun _ _ h=>h)).mono ?_;rintro e v1 ⟨v,vr,rfl,hc1,hv,ji⟩;obtain ⟨xH,Ny,xR,rfl⟩:=hv.slice;have Hq:=zh hv;clear hv;obtain ⟨ZH,ak0,ad8,rfl⟩:=ji.slice;have Hqr:=zh ji;clear ji;have BR:=aA.later (aA.nX _ _ _ _) hc1;have bR:=BR.cell;have bQ:=BR.free;have gT:=BR.lt;have B0:=aA.later (aA.alloc (aA.new _ _ _) _) hc1;have cB0:=B0.cell;have jc:=B0.free;have lB0:=B0.lt;go_wp2_with fail
  refine (dM _ q false _ aK).mono ?_;rintro e v3 ⟨v,rfl,hc3,hv⟩;obtain ⟨xG,Nw,xQ,rfl,Hs⟩:=hv;replace Hs:=zh Hs;replace BR:=aA.later (BR) hc3;replace bR:=BR.cell;replace bQ:=BR.free;replace gT:=BR.lt;replace B0:=aA.later (B0) hc3;replace cB0:=B0.cell;replace jc:=B0.free;replace lB0:=B0.lt;go_wp2_with fail
  have HE:Hid (iZ q false=z / (d:Int)):=by
   have h1:=Eq.out;have h2:(z.natAbs:Int)=z:=by omega
   rw [← h2,← h1]
   show ((z.natAbs / d:Nat):Int)=_
   rw [Int.natCast_ediv]
  refine iX rfl rfl aY Tryz.underlying86 rfl zk ?_;exact ⟨_,rfl,aO,(bW.dx aK).cast HE.out⟩
theorem SE {n m d:Nat} {z:Int} (hn:sz 1000000000 n≤1000000) (hs:sz 1000000000 m≤1000000) (hd:sz 1000000000 d≤1000000) (hz:z.natAbs≤n*(m*2)+d) :
  sz 1000000000 (m*2)≤1000001∧sz 1000000000 (n*(m*2))≤2000001∧sz 1000000000 z.natAbs≤2000002∧sz 1000000000 (d*2)≤1000001:=by
 have h2:=cZ (B:=1000000000) zo 1 2 zo;have h3:=kg (B:=1000000000) zo m 2;have h4:=kg (B:=1000000000) zo n (m*2);have h5:=kg (B:=1000000000) zo d 2;have h6:=yK (B:=1000000000) zo (n*(m*2)) d;have h7:=jK (B:=1000000000) zo hz;refine ⟨by omega,by omega,by omega,by omega⟩
theorem SF (x y:Value) (q:Rat) (m:Nat) (w:World) (hx:fA w x q) (hy:aT w y m) (kn:sz 1000000000 q.num.natAbs≤1000000) (kd:sz 1000000000 q.den≤1000000) (km:sz 1000000000 m≤1000000) :
  Calls Tryz.prog 252 #[x,y] w (fun e w'=>∃ r,e= ah r∧Below w.heap.size w w'∧bW w' r (dR.iU (q.num*(m:Int)) q.den)):=by
 obtain ⟨BM,lH,Ce,Rc,mH,Rj,rfl,H,Hd⟩:=hx;replace H:=zh H;replace Hd:=zh Hd;obtain ⟨Sj,lG,TN,rfl⟩:=hy.slice;have G:=zh hy;clear hy;have hd:0<q.den:=q.den_pos;have HZ:=zh (SE (z:=q.num*((m*2:Nat):Int)+(q.den:Int)) kn km kd (by have h1:=Int.natAbs_add_le (q.num*((m*2:Nat):Int)) (q.den:Int);rw [Int.natAbs_mul,Int.natAbs_natCast,Int.natAbs_natCast] at h1;exact h1))
 have HE:Hid ((q.num*((m*2:Nat):Int)+(q.den:Int)) / ((q.den*2:Nat):Int)=dR.iU (q.num*(m:Int)) q.den):=by
  refine zh ?_;unfold dR.iU;rw [Int.natCast_mul,Int.natCast_mul,Int.mul_comm 2 (q.num*(m:Int)),Int.mul_assoc,Int.mul_comm 2 (q.den:Int)];rfl
 have KN:=zh kn;have KD:=zh kd;have KM:=zh km;have HD:=zh hd;have KM1:Hid (sz 1000000000 (q.num*((m*2:Nat):Int)).natAbs≤2000001):=zh (by rw [Int.natAbs_mul,Int.natAbs_natCast];exact HZ.out.2.1);have KD1:Hid (sz 1000000000 (iZ q.den false).natAbs≤1000000):=zh (by rw [jg];exact kd);have HS:Hid (iZ q.den false=(q.den:Int)):=zh rfl;obtain ⟨r,Er⟩:∃ y:Int,Hid (dR.iU (q.num*(m:Int)) q.den=y):=⟨_,zh rfl⟩;rw [Er.out] at HE ⊢;obtain ⟨n,En⟩:∃ y:Int,Hid (q.num=y):=⟨_,zh rfl⟩;obtain ⟨d,Ed⟩:∃ y:Nat,Hid (q.den=y):=⟨_,zh rfl⟩;rw [En.out] at H HE KN KM1 HZ ⊢;rw [Ed.out] at Hd HE KD KD1 HS HD HZ;obtain ⟨k,Ek⟩:∃ y:Nat,Hid (m*2=y):=⟨_,zh rfl⟩;obtain ⟨e,Ee⟩:∃ y:Nat,Hid (d*2=y):=⟨_,zh rfl⟩;obtain ⟨y,Ey⟩:∃ y:Int,Hid (n*(k:Int)+iZ d false=y):=⟨_,zh rfl⟩;rw [Ek.out] at HE KM1 HZ;rw [Ee.out] at HE HZ;rw [← HS.out,Ey.out] at HE HZ;have HD2:Hid (0<e):=zh (by have:=HD.out;have:=Ee.out;omega)
 clear kn kd km hd;go_enter Tryz.func252,Tryz.ntmps252
 go_wp2_with fail
 have HL:Hid _:=zh (aT.lit (w:=(w.alloc (.cells #[aj BM lH Ce,aC (decide (n<0)),aj Rc mH Rj] 88)).alloc (.cells #[aj none 0 0,aC false] 86)) (d:=2) zo zo);simp at HL
 refine aQ [(.pure,0),(.read,1),(.pure,2),(.pure,3),(.pure,6),(.read,7),(.ext,4),(.ext,5),(.ext,8),(.ext,9),(.alloc #[aj none 0 0,aC false] 86,10),(.fin,11)] zk zk zR zP ?_;refine zV ?_;refine aN rfl rfl (fun w1 hb1 J hJ=>?_);go_simp;replace H:=zh (aT.carry H.out aK hb1);replace Hd:=zh (aT.carry Hd.out aK hb1);replace HL:=zh (aT.carry HL.out aK hb1);have BR:=aA.later (aA.drew (aA.alloc (aA.nX _ _ _ _) _)) hb1;have bR:=BR.cell;have bQ:=BR.free;have gT:=BR.lt;have B0:=aA.later (aA.drew (aA.alloc (aA.alloc (aA.new _ _ _) _) _)) hb1;have cB0:=B0.cell;have jc:=B0.free;have lB0:=B0.lt;refine ((iE _ _ m 2 _ aK aK (ay KM.out zo) (by have:=cZ (B:=1000000000) zo 1 2 zo;omega)).mono (by rw [Ek.out];exact fun _ _ h=>h)).mono ?_;rintro e v1 ⟨v,rfl,hc1,hv⟩;obtain ⟨ZK,lHa,ae1,rfl⟩:=hv.slice;have Ha:=zh hv;clear hv
 replace H:=zh (aT.later H.out hc1);replace Hd:=zh (aT.later Hd.out hc1);replace HL:=zh (aT.later HL.out hc1);replace BR:=aA.later (BR) hc1;replace bR:=BR.cell;replace bQ:=BR.free;replace gT:=BR.lt;replace B0:=aA.later (B0) hc1;replace cB0:=B0.cell;replace jc:=B0.free;replace lB0:=B0.lt;refine hJ _ _ hc1 ?_;clear hJ J;refine aN rfl rfl (fun w2 hb2 J hJ=>?_);go_simp;replace Ha:=zh (aT.later Ha.out hb2);replace H:=zh (aT.later H.out hb2);replace Hd:=zh (aT.later Hd.out hb2);replace HL:=zh (aT.later HL.out hb2);replace BR:=aA.later (BR) hb2;replace bR:=BR.cell;replace bQ:=BR.free;replace gT:=BR.lt;replace B0:=aA.later (B0) hb2;replace cB0:=B0.cell;replace jc:=B0.free;replace lB0:=B0.lt;refine (lU _ _ n k _ (bW.dx aK) aK (ay KN.out zo) (ay HZ.out.1 zo)).mono ?_;rintro e v2 ⟨v,rfl,hc2,hv⟩
 obtain ⟨Si,lHb,TM,rfl,Hb⟩:=hv;replace Hb:=zh Hb;replace Ha:=zh (aT.later Ha.out hc2);replace H:=zh (aT.later H.out hc2);replace Hd:=zh (aT.later Hd.out hc2);replace HL:=zh (aT.later HL.out hc2);replace BR:=aA.later (BR) hc2;replace bR:=BR.cell;replace bQ:=BR.free;replace gT:=BR.lt;replace B0:=aA.later (B0) hc2;replace cB0:=B0.cell;replace jc:=B0.free;replace lB0:=B0.lt;refine hJ _ _ hc2 ?_;clear hJ J;refine aN rfl rfl (fun w3 hb3 J hJ=>?_);go_simp;replace Hb:=zh (aT.later Hb.out hb3);replace Hd:=zh (aT.later Hd.out hb3);replace HL:=zh (aT.later HL.out hb3);replace BR:=aA.later (BR) hb3;replace bR:=BR.cell;replace bQ:=BR.free;replace gT:=BR.lt;replace B0:=aA.later (B0) hb3;replace cB0:=B0.cell;replace jc:=B0.free;replace lB0:=B0.lt;refine (dM _ d false _ aK).mono ?_;rintro e v3 ⟨v,rfl,hc3,hv⟩;obtain ⟨ZJ,lHc,ae0,rfl,Hc⟩:=hv;replace Hc:=zh Hc
 replace Hb:=zh (aT.later Hb.out hc3);replace Hd:=zh (aT.later Hd.out hc3);replace HL:=zh (aT.later HL.out hc3);replace BR:=aA.later (BR) hc3;replace bR:=BR.cell;replace bQ:=BR.free;replace gT:=BR.lt;replace B0:=aA.later (B0) hc3;replace cB0:=B0.cell;replace jc:=B0.free;replace lB0:=B0.lt;refine hJ _ _ hc3 ?_;clear hJ J;refine aN rfl rfl (fun w4 hb4 J hJ=>?_);go_simp;replace Hd:=zh (aT.later Hd.out hb4);replace HL:=zh (aT.later HL.out hb4);replace Hc:=zh (aT.later Hc.out hb4);replace BR:=aA.later (BR) hb4;replace bR:=BR.cell;replace bQ:=BR.free;replace gT:=BR.lt;replace B0:=aA.later (B0) hb4;replace cB0:=B0.cell;replace jc:=B0.free;replace lB0:=B0.lt;refine ((yL _ _ (n*(k:Int)) (iZ d false) _ (bW.dx aK) (bW.dx aK) (ay KM1.out zo) (ay KD1.out zo)).mono (by rw [Ey.out];exact fun _ _ h=>h)).mono ?_;rintro e v4 ⟨v,rfl,hc4,hv⟩
 obtain ⟨xG,Nw,xQ,rfl,Hs⟩:=hv;replace Hs:=zh Hs;replace Hd:=zh (aT.later Hd.out hc4);replace HL:=zh (aT.later HL.out hc4);replace Hc:=zh (aT.later Hc.out hc4);replace BR:=aA.later (BR) hc4;replace bR:=BR.cell;replace bQ:=BR.free;replace gT:=BR.lt;replace B0:=aA.later (B0) hc4;replace cB0:=B0.cell;replace jc:=B0.free;replace lB0:=B0.lt;refine hJ _ _ hc4 ?_;clear hJ J;refine fE rfl (fun b w5 UL hNb aw7 hAb hxb=>?_);go_simp;replace hxb:aA _ _ _ _:=hxb;have hWb:w.heap.size≤b:=(by first|omega|exact ay (Below.size (B:=w.heap.size) aO) hNb);refine bT [_] rfl (fun w6 hb6=>?_);replace hxb:=aA.later (hxb) hb6;replace an0:=hxb.cell;replace am8:=hxb.free;replace aj8:=hxb.lt;have h46:Below v4.heap.size v4 w6:=aO;replace BR:=aA.later (BR) h46;replace bR:=BR.cell;replace bQ:=BR.free;replace gT:=BR.lt;replace Hs:=zh (aT.later Hs.out h46)
 replace B0:=aA.later (B0) h46;replace cB0:=B0.cell;replace jc:=B0.free;replace lB0:=B0.lt;replace Hd:=zh (aT.later Hd.out h46);replace HL:=zh (aT.later HL.out h46);have hNe:w.heap.size+1+1+1≤b:=hNb;have n0:w.heap.size≠b:=by omega
 have n1:w.heap.size+1≠b:=by omega
 have h6:Below w.heap.size w w6:=aO;go_wp2_with fail
 obtain ⟨w7,E7⟩:∃ x,(w6.setCell ⟨b,0,none⟩ (aj xG Nw xQ)).setCell ⟨b,1,none⟩ (aC (decide (y<0)))=x:=⟨_,rfl⟩
 have h7:Below w.heap.size w w7:=by
  rw [← E7];have:w.heap.size≤b:=by omega
  exact (h6.setCell this _).setCell this _
 replace BR:aA w7 (w.heap.size+1) #[aj none 0 0,aC false] 86:=by rw [← E7];exact (BR.setOther _ n1).setOther _ n1
 replace B0:aA w7 w.heap.size #[aj BM lH Ce,aC (decide (n<0)),aj Rc mH Rj] 88:=by rw [← E7];exact (B0.setOther _ n0).setOther _ n0
 have RV:∀ {v:Value} {x:Nat},aT w6 v x→aT w7 v x:=fun h=>by rw [← E7];exact (h.setOther hxb zd _ _).setOther (hxb.set 0 _) zd _ _
 replace Hs:=zh (RV Hs.out);replace Hd:=zh (RV Hd.out);replace HL:=zh (RV HL.out);replace hxb:aA w7 b #[aj xG Nw xQ,aC (decide (y<0))] 86:=by rw [← E7];exact (hxb.set 0 _).set 1 _
 rw [E7];clear E7 RV h6 h46 hb6 hb1 hc1 hc2 hc3 hc4;have bR:=aA.cell BR;have gT:=aA.lt BR;have bQ:=aA.free BR;have cB0:=aA.cell B0;have lB0:=aA.lt B0;have jc:=aA.free B0;have an0:=aA.cell hxb;have aj8:=aA.lt hxb;have am8:=aA.free hxb;refine aQ [(.read,0),(.pure,1),(.read,2),(.pure,3),(.ext,4),(.ext,5),(.fin,6)] zk zk zR zP ?_;refine zV ?_;refine aN rfl rfl (fun w5 hb5 J hJ=>?_);go_simp;replace Hs:=zh (aT.carry Hs.out aK hb5);replace BR:aA _ (w.heap.size+1) _ _:=aA.later aY hb5;(try simp only [List.setIfInBounds_toArray,aI,aJ] at BR);replace bR:=BR.cell;replace bQ:=BR.free;replace gT:=BR.lt;refine ((iE _ _ d 2 _ aK aK (ay KD.out zo) (by have:=cZ (B:=1000000000) zo 1 2 zo;omega)).mono (by rw [Ee.out];exact fun _ _ h=>h)).mono ?_;rintro e v5 ⟨v,rfl,kK,hv⟩
 obtain ⟨ZK,lHa,ae1,rfl⟩:=hv.slice;have Ha:=zh hv;clear hv;replace Hs:=zh (aT.later Hs.out kK);replace BR:=aA.later (BR) kK;replace bR:=BR.cell;replace bQ:=BR.free;replace gT:=BR.lt;refine hJ _ _ kK ?_;clear hJ J;refine aN rfl rfl (fun w6 hb6 J hJ=>?_);go_simp;replace BR:=aA.later (BR) hb6;replace bR:=BR.cell;replace bQ:=BR.free;replace gT:=BR.lt;refine ((Qf _ _ y e _ (bW.dx aK) aK HD2.out (ay HZ.out.2.2.1 zo) (ay HZ.out.2.2.2 zo)).mono (by rw [HE.out];exact fun _ _ h=>h)).mono ?_;rintro e v6 ⟨v,rfl,hc6,hv⟩;obtain ⟨OG,ZV,Qw,rfl,Hr⟩:=hv;replace Hr:=zh Hr;replace BR:=aA.later (BR) hc6;replace bR:=BR.cell;replace bQ:=BR.free;replace gT:=BR.lt;refine hJ _ _ hc6 ?_;clear hJ J;refine bT [_] rfl (fun w9 xZ=>?_);replace BR:=aA.later (BR) xZ;replace bR:=BR.cell;replace bQ:=BR.free;replace gT:=BR.lt;go_wp2_with fail
 refine iX rfl rfl aY Tryz.underlying86 rfl zk ?_;exact ⟨_,rfl,aO,bW.dx aK⟩
end Go.Proofs.dw
namespace Go.Dec
open Go Go.Lib
theorem qg:∀ (l:List UInt8) (acc:Nat),qG l→acc≤18446744073709551615→parseUintM 18446744073709551615 acc l=if acc*10^l.length+num l≤18446744073709551615 then .ok (acc*10^l.length+num l) else .range
 | [],acc,_,ha=>by
  simp only [parseUintM,List.length_nil,Nat.pow_zero,Nat.mul_one,CX,gL];rw [if_pos ha]
 | b::l,acc,hd,ha=>by
  have hb:=hd b zi;have hl:qG l:=fun x hx=>hd x (by simp [hx])
  have hn:num (b::l)=(b.toNat - 48)*10^l.length+num l:=by
   have:=zG [b] l;simp only [List.singleton_append] at this;rw [this];simp [num]
  have hp:0<10^l.length:=Nat.pow_pos zo
  have e:acc*10^(b::l).length+num (b::l)=(acc*10+(b.toNat - 48))*10^l.length+num l:=by
   rw [hn,aV,bF,dH,Nat.add_assoc]
   congr 1
   rw [bV,aL 10]
  rw [e];have hge:∀ x,x≤x*10^l.length+num l:=fun x=>ay (Nat.le_mul_of_pos_right x hp) (Nat.le_add_right _ _);unfold parseUintM;rw [if_pos hb]
  by_cases h1:1844674407370955162≤acc
  ·rw [if_pos h1,if_neg];have:=hge (acc*10+(b.toNat - 48));omega
  ·rw [if_neg h1]
   by_cases h2:18446744073709551615<acc*10+(b.toNat - 48)
   ·rw [if_pos h2,if_neg];have:=hge (acc*10+(b.toNat - 48));omega
   ·rw [if_neg h2];exact qg l _ hl zo
theorem zx (n:Nat):parseIntB 64 (itoa (n:Int))=if n<9223372036854775808 then .ok (n:Int) else .range:=by
 have hi:itoa (n:Int)=decDigits n:=rfl;rw [hi]
 obtain ⟨c,r,hc⟩:∃ c r,decDigits n=c::r:=by
  cases h:decDigits n with
  | nil=>exact absurd h (rM n)
  | cons c r=>exact ⟨c,r,rfl⟩
 have hd:=lg n;have hn:=mo n;rw [hc] at hd hn ⊢;have hcd:=hd c zi;rw [parseIntB_plain 64 c r zo zo]
 have hu:parseUintB 64 (c::r)=parseUintM 18446744073709551615 0 (c::r):=by
  unfold parseUintB;rw [if_neg zi]
 rw [hu,qg _ _ hd zo,hn,Nat.zero_mul,dS];have e:(2:Nat)^(64 - 1)=9223372036854775808:=by decide
 rw [e]
 by_cases h:n≤18446744073709551615
 ·rw [if_pos h];unfold signlessC
  by_cases h2:n<9223372036854775808
  ·simp only;rw [if_neg zo,if_pos h2]
  ·simp only;rw [if_pos zo,if_neg h2]
 ·rw [if_neg h,if_neg zo];rfl
end Go.Dec
namespace Go.Proofs.whole
open Go Go.RowKit Go.SW Go.Num Go.Mem Go.Proofs Go.Dec Go.d9
def Er (w : World) : Prop := ∃ tp p, w.var? Tryz.prog "strconv.ErrRange" = some #[.iface tp p] ∧ (Tryz.prog.globalNamed "strconv.ErrRange").getD 0 < w.heap.size
theorem Er.later {w w':World} (h:Er w) (hb:Below w.heap.size w w'):Er w':=by
 obtain ⟨tp,p,h1,h2⟩:=h
 refine ⟨tp, p, var?_below hb (g := (Tryz.prog.globalNamed "strconv.ErrRange").getD 0) ?_ h2 h1, aP h2 hb.size⟩
 exact Tryz.laysC174.m16
def WI (n:Nat):Value:=if n<9223372036854775808 then aF #[Z I (n:Int),Z I 0] else aF #[Z I 0,Z I 6]
theorem OE (n:Nat) (hs:(Lib.itoa (n:Int)).length≤601) (w:World) (he:Er w) :
  Calls Tryz.prog 250 #[dX (n:Int),Z I 10,Z I 64] w (fun e w'=>(if n<9223372036854775808 then e= ah (aF #[Z I (n:Int),.nilIface]) else ∃ T p,e= ah (aF #[Z I (Lib.intSat 64 (Lib.itoa (n:Int))),.iface T (au (some p))]))∧Below w.heap.size w w'):=by
 have hz:(⟨(Lib.itoa (n:Int)).toArray⟩:ByteArray).size≤601:=hs;have hp:=zx n
 by_cases h:n<9223372036854775808
 ·rw [if_pos h] at hp;refine (Tryz.strconv_ParseInt_10_at64_ok ⟨(Lib.itoa (n:Int)).toArray⟩ zo (n:Int) hp w).mono ?_;rintro e w1 ⟨rfl,hw⟩;refine ⟨by rw [if_pos h],?_⟩
  rcases hw with rfl|⟨t,rfl⟩
  ·exact Below.refl _ _
  ·exact Lib.bytesWorld_below _ _ _
 ·rw [if_neg h] at hp;obtain ⟨tp,p,h1,h2⟩:=he;have hc:=World.var?_cell (P:=Tryz.prog) (w:=w) Tryz.laysC174.m16 h1 0;refine (Tryz.strconv_ParseInt_10_at64_range ⟨(Lib.itoa (n:Int)).toArray⟩ zo hp (.iface tp p) w hc (Or.inr ⟨tp,p,rfl⟩)).mono ?_;rintro e w1 ⟨N,rfl, -, -, hb⟩;refine ⟨?_,hb⟩;rw [if_neg h];exact ⟨_,_,rfl⟩
theorem Yb (n:Nat) (hn:mQ n=true) (w:World) (he:Er w) :
  Calls Tryz.prog 175 #[dX (n:Int)] w (fun e w'=>e= ah (WI n)∧Below w.heap.size w w'):=by
 have hd:(Lib.decDigits n).length≤600:=eZ.1 hn
 have hi:(Lib.itoa (n:Int)).length≤601:=by
  have:Lib.itoa (n:Int)=Lib.decDigits n:=rfl;rw [this];omega
 have hw:(whole (Lib.itoa (n:Int))).isSome=true:=by rw [eT (by rw [Int.natAbs_natCast];exact hd)];rfl
 have HC:=zh (fun W=>gQ ⟨(Lib.itoa (n:Int)).toArray⟩ W)
 have HC:Hid (∀ W:World,Calls Tryz.prog 146 #[dX (n:Int)] W (fun e w'=>e= ah (Z I 0)∧Below W.heap.size W w')):=zh (by
  intro W;have:=HC.out W;rw [show (⟨(Lib.itoa (n:Int)).toArray⟩:ByteArray).data.toList=Lib.itoa (n:Int) from rfl,hw] at this;exact this)
 have HP:=zh (fun W h=>OE n hi W h);have HE:=zh he;unfold WI;clear hd hi hw he hn;unfold dX at *;generalize Lib.itoa (n:Int)=t at *
 by_cases h:n<9223372036854775808
 ·simp only [if_pos h] at HP ⊢;go_enter Tryz.func175,Tryz.ntmps175
  go_wp2_with fail
  refine (HC.out _).mono ?_;rintro e w1 ⟨rfl,hb1⟩;have HB1:=zh hb1;clear hb1;go_wp2_with fail
  refine (HP.out _ (HE.out.later HB1.out)).mono ?_;rintro e w2 ⟨rfl,hb2⟩;have hw:=Bt HB1.out hb2;clear hb2 HB1;go_wp2_with fail
  go_ret2
  exact ⟨rfl,hw⟩
 ·simp only [if_neg h] at HP ⊢;go_enter Tryz.func175,Tryz.ntmps175
  go_wp2_with fail
  refine (HC.out _).mono ?_;rintro e w1 ⟨rfl,hb1⟩;have HB1:=zh hb1;clear hb1;go_wp2_with fail
  refine (HP.out _ (HE.out.later HB1.out)).mono ?_;rintro e w2 ⟨⟨T,p,rfl⟩,hb2⟩;have hw:=Bt HB1.out hb2;clear hb2 HB1;go_wp2_with fail
  go_ret2
  exact ⟨rfl,hw⟩
end Go.Proofs.whole
namespace Go.Dec
open Go Go.Lib
theorem IC (n:Nat):parseUintB 64 (decDigits n)=if n≤18446744073709551615 then .ok n else .range:=by
 obtain ⟨c,r,hc⟩:∃ c r,decDigits n=c::r:=by
  cases h:decDigits n with
  | nil=>exact absurd h (rM n)
  | cons c r=>exact ⟨c,r,rfl⟩
 have hd:=lg n;have hn:=mo n;rw [hc] at hd hn ⊢
 have hu:parseUintB 64 (c::r)=parseUintM 18446744073709551615 0 (c::r):=by
  unfold parseUintB;rw [if_neg zi]
 rw [hu,qg _ _ hd zo,hn,Nat.zero_mul,dS]
theorem Fu (z:Int):parseIntB 64 (itoa z)=if -9223372036854775808≤z∧z<9223372036854775808 then .ok z else .range:=by
 rcases Int.lt_or_le z 0 with h|h
 ·obtain ⟨n,rfl⟩:∃ n:Nat,z= -(n:Int):=⟨z.natAbs,by omega⟩
  have hi:itoa (-(n:Int))=45::decDigits n:=by
   unfold itoa;rw [if_pos h,Int.natAbs_neg,Int.natAbs_natCast]
  rw [hi,parseIntB_minus,IC];have e:(2:Nat)^(64 - 1)=9223372036854775808:=by decide
  rw [e]
  by_cases h1:n≤18446744073709551615
  ·rw [if_pos h1];unfold signedC
   by_cases h2:9223372036854775808<n
   ·simp only;rw [if_pos h2,if_neg zo]
   ·simp only;rw [if_neg h2,if_pos zo]
  ·rw [if_neg h1,if_neg zo];rfl
 ·obtain ⟨n,rfl⟩:∃ n:Nat,z=(n:Int):=⟨z.natAbs,by omega⟩;rw [zx]
  by_cases h2:n<9223372036854775808
  ·rw [if_pos h2,if_pos zo]
  ·rw [if_neg h2,if_neg zo]
end Go.Dec
namespace Go.Proofs.whole
open Go Go.RowKit Go.SW Go.Num Go.Mem Go.Proofs Go.Dec Go.d9
def WH (z:Int):Value:=if -9223372036854775808≤z∧z<9223372036854775808 then aF #[Z I z,Z I 0] else aF #[Z I 0,Z I 6]
theorem LX (z:Int) (hs:(Lib.itoa z).length≤601) (w:World) (he:Er w) :
  Calls Tryz.prog 250 #[dX z,Z I 10,Z I 64] w (fun e w'=>(if -9223372036854775808≤z∧z<9223372036854775808 then e= ah (aF #[Z I z,.nilIface]) else ∃ T p,e= ah (aF #[Z I (Lib.intSat 64 (Lib.itoa z)),.iface T (au (some p))]))∧Below w.heap.size w w'):=by
 have hz:(⟨(Lib.itoa z).toArray⟩:ByteArray).size≤601:=hs;have hp:=Fu z
 by_cases h: -9223372036854775808≤z∧z<9223372036854775808
 ·rw [if_pos h] at hp;refine (Tryz.strconv_ParseInt_10_at64_ok ⟨(Lib.itoa z).toArray⟩ zo z hp w).mono ?_;rintro e w1 ⟨rfl,hw⟩;refine ⟨by rw [if_pos h],?_⟩
  rcases hw with rfl|⟨t,rfl⟩
  ·exact Below.refl _ _
  ·exact Lib.bytesWorld_below _ _ _
 ·rw [if_neg h] at hp;obtain ⟨tp,p,h1,h2⟩:=he;have hc:=World.var?_cell (P:=Tryz.prog) (w:=w) Tryz.laysC174.m16 h1 0;refine (Tryz.strconv_ParseInt_10_at64_range ⟨(Lib.itoa z).toArray⟩ zo hp (.iface tp p) w hc (Or.inr ⟨tp,p,rfl⟩)).mono ?_;rintro e w1 ⟨N,rfl, -, -, hb⟩;refine ⟨?_,hb⟩;rw [if_neg h];exact ⟨_,_,rfl⟩
theorem Ui (z:Int) (hn:mQ z.natAbs=true) (w:World) (he:Er w) :
  Calls Tryz.prog 175 #[dX z] w (fun e w'=>e= ah (WH z)∧Below w.heap.size w w'):=by
 have hd:(Lib.decDigits z.natAbs).length≤600:=eZ.1 hn
 have hi:(Lib.itoa z).length≤601:=by
  unfold Lib.itoa
  by_cases h:z<0
  ·rw [if_pos h,aV];omega
  ·rw [if_neg h,show z.toNat=z.natAbs by omega];omega
 have hw:(whole (Lib.itoa z)).isSome=true:=by rw [eT hd];rfl
 have HC:Hid (∀ W:World,Calls Tryz.prog 146 #[dX z] W (fun e w'=>e= ah (Z I 0)∧Below W.heap.size W w')):=zh (by
  intro W;have:=gQ ⟨(Lib.itoa z).toArray⟩ W;rw [show (⟨(Lib.itoa z).toArray⟩:ByteArray).data.toList=Lib.itoa z from rfl,hw] at this;exact this)
 have HP:=zh (fun W h=>LX z hi W h);have HE:=zh he;unfold WH;clear hd hi hw he hn;unfold dX at *;generalize Lib.itoa z=t at *
 by_cases h: -9223372036854775808≤z∧z<9223372036854775808
 ·simp only [if_pos h] at HP ⊢;go_enter Tryz.func175,Tryz.ntmps175
  go_wp2_with fail
  refine (HC.out _).mono ?_;rintro e w1 ⟨rfl,hb1⟩;have HB1:=zh hb1;clear hb1;go_wp2_with fail
  refine (HP.out _ (HE.out.later HB1.out)).mono ?_;rintro e w2 ⟨rfl,hb2⟩;have hw:=Bt HB1.out hb2;clear hb2 HB1;go_wp2_with fail
  go_ret2
  exact ⟨rfl,hw⟩
 ·simp only [if_neg h] at HP ⊢;go_enter Tryz.func175,Tryz.ntmps175
  go_wp2_with fail
  refine (HC.out _).mono ?_;rintro e w1 ⟨rfl,hb1⟩;have HB1:=zh hb1;clear hb1;go_wp2_with fail
  refine (HP.out _ (HE.out.later HB1.out)).mono ?_;rintro e w2 ⟨⟨T,p,rfl⟩,hb2⟩;have hw:=Bt HB1.out hb2;clear hb2 HB1;go_wp2_with fail
  go_ret2
  exact ⟨rfl,hw⟩
end Go.Proofs.whole
