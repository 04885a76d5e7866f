/- Lemmas for the proof. No condition. -/
import Derived.Test.YtlpjmogillpnbaaGreatDoorTB21
set_option linter.unusedVariables false
set_option linter.unusedSimpArgs false
set_option maxRecDepth 100000
set_option maxHeartbeats 16000000
open Go.Ending renaming returned → ah
open Go.IntKind renaming i64 → I
open Go.Value renaming agg → au, bool → ay, int → Z, pointer → aA, slice → aj, string → O, tuple → aD
open List renaming length_cons → aZ, set_cons_succ → aH, set_cons_zero → aG
open Nat renaming add_zero → eO, le_trans → aB, lt_of_lt_of_le → aL, zero_add → dw
namespace Go.Proofs.dD
open Go Go.RowKit Go.SW Go.Num Go.Mem Go.Proofs Go.Dec Go.gW
theorem QG (s t s' t':ByteArray) (w:World) (h:rd ⟨s,t⟩=none∨rd ⟨s',t'⟩=none) :
  Calls Tryz.prog 22 #[au #[O s,O t],au #[O s',O t']] w (fun e w'=>e= ah (aD #[au #[O ⟨#[]⟩,O ⟨#[]⟩],Z I 20])∧Below w.heap.size w w'):=by
 cases h1:rd ⟨s,t⟩ with
 | none =>
  have HR:=zh (fT h1);cases k:rd ⟨s',t'⟩ with
  | none =>
   have HS:=zh (fT k);clear h k h1;go_enter Tryz.func22,Tryz.ntmps22
   go_wp2_with fail
   refine (HR.out _).mono ?_;rintro e v1 ⟨rfl,hc1⟩;have BR:=aC.later (aC.at2 _ _ _ _ _) hc1;have bT:=BR.cell;have bS:=BR.free;have jd:=BR.lt;have B1:=aC.later (aC.alloc (aC.nS _ _ _ _) _) hc1;have cB1:=B1.cell;have qP:=B1.free;have lB1:=B1.lt;go_wp2_with fail
   refine (HS.out _).mono ?_;rintro e v2 ⟨rfl,hc2⟩;replace BR:aC _ (w.heap.size+1+1) _ _:=aC.later bf hc2;(try simp only [List.setIfInBounds_toArray,aG,aH] at BR);replace bT:=BR.cell;replace bS:=BR.free;replace jd:=BR.lt;go_wp2_with fail
   refine aY rfl rfl bf Tryz.underlying29 rfl zk ?_;exact ⟨rfl,aN⟩
  | some q =>
   have HS:=zh (fI k);clear h k h1;go_enter Tryz.func22,Tryz.ntmps22
   go_wp2_with fail
   refine (HR.out _).mono ?_;rintro e v1 ⟨rfl,hc1⟩;have BR:=aC.later (aC.at2 _ _ _ _ _) hc1;have bT:=BR.cell;have bS:=BR.free;have jd:=BR.lt;have B1:=aC.later (aC.alloc (aC.nS _ _ _ _) _) hc1;have cB1:=B1.cell;have qP:=B1.free;have lB1:=B1.lt;go_wp2_with fail
   refine (HS.out _).mono ?_;rintro e v2 ⟨v,rfl,hc2,hv⟩;obtain ⟨qZ,Fe,ru,sW,IK,uw,rfl,Hq,mI⟩:=hv;replace Hq:=zh Hq;replace mI:=zh mI;replace BR:aC _ (w.heap.size+1+1) _ _:=aC.later bf hc2;(try simp only [List.setIfInBounds_toArray,aG,aH] at BR);replace bT:=BR.cell;replace bS:=BR.free;replace jd:=BR.lt;go_wp2_with fail
   refine aY rfl rfl bf Tryz.underlying29 rfl zk ?_;exact ⟨rfl,aN⟩
 | some p =>
  have HR:=zh (fI h1);cases k:rd ⟨s',t'⟩ with
  | none =>
   have HS:=zh (fT k);clear h k h1;go_enter Tryz.func22,Tryz.ntmps22
   go_wp2_with fail
   refine (HR.out _).mono ?_;rintro e v1 ⟨v,rfl,hc1,hv⟩;obtain ⟨FW,TK,Gw,JI,VW,Ke,rfl,Hp,rE⟩:=hv;replace Hp:=zh Hp;replace rE:=zh rE;have BR:=aC.later (aC.at2 _ _ _ _ _) hc1;have bT:=BR.cell;have bS:=BR.free;have jd:=BR.lt;have B1:=aC.later (aC.alloc (aC.nS _ _ _ _) _) hc1;have cB1:=B1.cell;have qP:=B1.free;have lB1:=B1.lt;go_wp2_with fail
   refine (HS.out _).mono ?_;rintro e v2 ⟨rfl,hc2⟩;replace BR:aC _ (w.heap.size+1+1) _ _:=aC.later bf hc2;(try simp only [List.setIfInBounds_toArray,aG,aH] at BR);replace bT:=BR.cell;replace bS:=BR.free;replace jd:=BR.lt;go_wp2_with fail
   refine aY rfl rfl bf Tryz.underlying29 rfl zk ?_;exact ⟨rfl,aN⟩
  | some q=>rw [h1,k] at h;simp at h
theorem div_zero (s t s' t':ByteArray) (w:World) (p:Rat) (h:rd ⟨s,t⟩=some p) (k:rd ⟨s',t'⟩=some 0) :
  Calls Tryz.prog 22 #[au #[O s,O t],au #[O s',O t']] w (fun e w'=>e= ah (aD #[au #[O ⟨#[]⟩,O ⟨#[]⟩],Z I 7])∧Below w.heap.size w w'):=by
 have HR:=zh (fI h);have HS:=zh (fI k);clear h k;obtain ⟨n,En⟩:∃ y:Nat,Hid ((0:Rat).num.natAbs=y):=⟨_,zh rfl⟩;have hz:decide (n=0)=true:=by rw [← En.out];rfl
 have HZ:=zh hz;clear hz;go_enter Tryz.func22,Tryz.ntmps22
 go_wp2_with fail
 refine (HR.out _).mono ?_;rintro e v1 ⟨v,rfl,hc1,hv⟩;obtain ⟨FW,TK,Gw,JI,VW,Ke,rfl,Hp,rE⟩:=hv;replace Hp:=zh Hp;replace rE:=zh rE;have BR:=aC.later (aC.at2 _ _ _ _ _) hc1;have bT:=BR.cell;have bS:=BR.free;have jd:=BR.lt;have B1:=aC.later (aC.alloc (aC.nS _ _ _ _) _) hc1;have cB1:=B1.cell;have qP:=B1.free;have lB1:=B1.lt;go_wp2_with fail
 refine (HS.out _).mono ?_;rintro e v2 ⟨v,rfl,hc2,hv⟩;obtain ⟨qZ,Fe,ru,sW,IK,uw,rfl,Hq,mI⟩:=hv;replace Hq:=zh Hq;replace mI:=zh mI;replace BR:aC _ (w.heap.size+1+1) _ _:=aC.later bf hc2;(try simp only [List.setIfInBounds_toArray,aG,aH] at BR);replace bT:=BR.cell;replace bS:=BR.free;replace jd:=BR.lt;go_wp2_with fail
 rw [En.out] at Hq;refine (gL _ n _ aR).mono ?_;rintro e v5 ⟨rfl,rfl⟩;rw [HZ.out];go_wp2_with fail
 refine aY rfl rfl bf Tryz.underlying29 rfl zk ?_;exact ⟨rfl,aN⟩
theorem N8 (s t s' t':ByteArray) (w:World) (p q:Rat) (h:rd ⟨s,t⟩=some p) (k:rd ⟨s',t'⟩=some q) (h0:q≠0) (ht:gJ.Pow w) :
  Calls Tryz.prog 22 #[au #[O s,O t],au #[O s',O t']] w (fun e w'=>e= ah (Fr.res (wr (p / q)))∧Below w.heap.size w w'):=by
 have HR:=zh (fI h);have HS:=zh (fI k);have kp:=kG (nI h).2;have kq:=kG (nI k).2;have ki:=PD kq h0
 have hz:decide (q.num.natAbs=0)=false:=by
  simp [h0]
 have HZ:=zh hz;have HQ0:=zh h0;have HT:=zh ht;rw [Rat.div_def];have km:=Ib kp ki;obtain ⟨i,Ei⟩:∃ y:Rat,Hid (q⁻¹=y):=⟨_,zh rfl⟩;rw [Ei.out] at km ki ⊢;obtain ⟨r,Er⟩:∃ y:Rat,Hid (p*i=y):=⟨_,zh rfl⟩;rw [Er.out] at km ⊢;have KP:=zh (kp.mono (show 67≤1000000 by omega));have KI:=zh (ki.mono (show 67≤1000000 by omega));have KR:=zh (km.mono (show 2*67≤1000000 by omega));obtain ⟨x,Ex⟩:∃ y:Wx,Hid (wr r=y):=⟨_,zh rfl⟩;rw [Ex.out];obtain ⟨⟨s1,t1⟩,e⟩:=x;rw [jV];clear h k kp kq ki hz h0 ht km;go_enter Tryz.func22,Tryz.ntmps22
 go_wp2_with fail
 refine (HR.out _).mono ?_;rintro e v1 ⟨v,rfl,hc1,hv⟩;obtain ⟨FW,TK,Gw,JI,VW,Ke,rfl,Hp,rE⟩:=hv;replace Hp:=zh Hp;replace rE:=zh rE;have BR:=aC.later (aC.at2 _ _ _ _ _) hc1;have bT:=BR.cell;have bS:=BR.free;have jd:=BR.lt;have B1:=aC.later (aC.alloc (aC.nS _ _ _ _) _) hc1;have cB1:=B1.cell;have qP:=B1.free;have lB1:=B1.lt;go_wp2_with fail
 refine (HS.out _).mono ?_;rintro e v2 ⟨v,rfl,hc2,hv⟩;obtain ⟨qZ,Fe,ru,sW,IK,uw,rfl,Hq,mI⟩:=hv;replace Hq:=zh Hq;replace mI:=zh mI;replace Hp:=zh (bC.carry Hp.out aR hc2);replace rE:=zh (bC.carry rE.out aR hc2);replace X1:aC _ (v1.heap.size) _ _:=aC.later bf hc2;(try simp only [List.setIfInBounds_toArray,aG,aH] at X1);replace zq:=X1.cell;replace Fg:=X1.free;replace zm:=X1.lt;replace BR:aC _ (w.heap.size+1+1) _ _:=aC.later bf hc2;(try simp only [List.setIfInBounds_toArray,aG,aH] at BR);replace bT:=BR.cell;replace bS:=BR.free;replace jd:=BR.lt;go_wp2_with fail
 refine (gL _ q.num.natAbs _ aR).mono ?_;rintro e v5 ⟨rfl,rfl⟩;rw [HZ.out];go_wp2_with fail
 refine aT [(.read,0),(.read,1),(.ext,2),(.ext,3),(.ext,4),(.pure,5),(.pure,6),(.fin,7),(.fin,8)] zk zk zR zP ?_;refine zV ?_;refine aW rfl rfl (fun w3 hb3 J hJ=>?_);go_simp;replace Hp:=zh (bC.carry Hp.out aR hb3);replace rE:=zh (bC.carry rE.out aR hb3);replace BR:aC _ (w.heap.size+1+1) _ _:=aC.later bf hb3;(try simp only [List.setIfInBounds_toArray,aG,aH] at BR);replace bT:=BR.cell;replace bS:=BR.free;replace jd:=BR.lt;refine ((Gl _ q _ (eG.of aR aR) HQ0.out).mono (by rw [Ei.out];exact fun _ _ h=>h)).mono ?_;rintro e v3 ⟨v,rfl,hc3,hv⟩;obtain ⟨aa7,lHv,af3,an2,mHv,ar5,rfl,Hv,Wn⟩:=hv;replace Hv:=zh Hv;replace Wn:=zh Wn;replace Hp:=zh (bC.later Hp.out hc3);replace rE:=zh (bC.later rE.out hc3);replace BR:=aC.later (BR) hc3;replace bT:=BR.cell;replace bS:=BR.free;replace jd:=BR.lt
 refine hJ _ _ hc3 ?_;clear hJ J;refine aW rfl rfl (fun w4 hb4 J hJ=>?_);go_simp;replace Hp:=zh (bC.later Hp.out hb4);replace rE:=zh (bC.later rE.out hb4);replace Hv:=zh (bC.later Hv.out hb4);replace Wn:=zh (bC.later Wn.out hb4);replace BR:=aC.later (BR) hb4;replace bT:=BR.cell;replace bS:=BR.free;replace jd:=BR.lt;refine ((MQ _ _ p i _ (eG.of aR aR) (eG.of aR aR) KP.out KI.out).mono (by rw [Er.out];exact fun _ _ h=>h)).mono ?_;rintro e v4 ⟨v,rfl,hc4,hv⟩;obtain ⟨Mx,XK,Oi,Tw,mHr,Uz,rfl,Hr,GR⟩:=hv;replace Hr:=zh Hr;replace GR:=zh GR;replace Hp:=zh (bC.later Hp.out hc4);replace rE:=zh (bC.later rE.out hc4);replace Hv:=zh (bC.later Hv.out hc4);replace Wn:=zh (bC.later Wn.out hc4);replace BR:=aC.later (BR) hc4;replace bT:=BR.cell;replace bS:=BR.free;replace jd:=BR.lt;refine hJ _ _ hc4 ?_;clear hJ J
 refine aW rfl rfl (fun w5 hb5 J hJ=>?_);go_simp;replace Hr:=zh (bC.later Hr.out hb5);replace GR:=zh (bC.later GR.out hb5);replace BR:=aC.later (BR) hb5;replace bT:=BR.cell;replace bS:=BR.free;replace jd:=BR.lt;refine ((iG _ r _ (eG.of aR aR) KR.out (HT.out.later aN)).mono (by rw [Ex.out,jV];exact fun _ _ h=>h)).mono ?_;rintro e v5 ⟨rfl,mg⟩;replace Hr:=zh (bC.later Hr.out mg);replace GR:=zh (bC.later GR.out mg);replace BR:=aC.later (BR) mg;replace bT:=BR.cell;replace bS:=BR.free;replace jd:=BR.lt;refine hJ _ _ mg ?_;clear hJ J;refine zV ?_;refine dG [_,_] rfl (fun w9 zn=>?_);replace BR:=aC.later (BR) zn;replace bT:=BR.cell;replace bS:=BR.free;replace jd:=BR.lt;go_wp2_with fail
 refine aY rfl rfl bf Tryz.underlying29 rfl zk ?_;exact ⟨rfl,aN⟩
theorem yY (a b:Fr) (w:World) (ht:gJ.Pow w) :
  Calls Tryz.prog 22 #[a.v,b.v] w (fun e w'=>e= ah (Fr.res (QH a b))∧Below w.heap.size w w'):=by
 obtain ⟨s,t⟩:=a;obtain ⟨s',t'⟩:=b
 show Calls _ _ #[au #[O s,O t],au #[O s',O t']] _ _
 unfold QH
 by_cases hbad:rd ⟨s,t⟩=none∨rd ⟨s',t'⟩=none
 ·have e:∀ f,bin f ⟨s,t⟩ ⟨s',t'⟩=(Fr.no,20):=fun f=>by
   rcases hbad with h|h
   ·exact wQ h
   ·exact wP h
  rw [e];exact QG s t s' t' w hbad
 ·obtain ⟨p,hp⟩:∃ p,rd ⟨s,t⟩=some p:=Option.ne_none_iff_exists'.1 (fun e=>hbad (.inl e));obtain ⟨q,hq⟩:∃ q,rd ⟨s',t'⟩=some q:=Option.ne_none_iff_exists'.1 (fun e=>hbad (.inr e));rw [uD hp hq]
  by_cases h0:q=0
  ·rw [if_pos h0];subst h0;exact div_zero s t s' t' w p hp hq
  ·rw [if_neg h0];exact N8 s t s' t' w p q hp hq h0 ht
theorem Am {z:Int} {d:Nat} (hd:0<d) (h:z<0):z / (d:Int)= -((z.natAbs / d+(if z.natAbs%d=0 then 0 else 1):Nat):Int):=by
 have h1:=aQ.II z.natAbs d hd;have e:z= -(z.natAbs:Int):=by omega
 conv=>lhs;rw [e]
 rw [h1];unfold aQ.pV
 by_cases c:z.natAbs%d=0
 ·rw [if_neg zo,if_pos c,eO]
 ·rw [if_pos ⟨by omega,rfl⟩,if_neg c]
theorem NJ (v u:Value) (z:Int) (d:Nat) (w:World) (h:dN w v z) (hu:bC w u d) (hd:0<d) (kz:sz 1000000000 z.natAbs≤549755813888) (kd:sz 1000000000 d≤549755813888) :
  Calls Tryz.prog 144 #[v,u] w (fun e w'=>∃ r,e= ah r∧Below w.heap.size w w'∧dN w' r (z / (d:Int))):=by
 obtain ⟨CZ,lH,Ep,rfl,H⟩:=h;replace H:=zh H;obtain ⟨VU,lG,Wi,rfl⟩:=hu.slice;have G:=zh hu;clear hu;have HD:=zh hd;have KZ:=zh kz;have KD:=zh kd;have KQ:Hid (sz 1000000000 (z.natAbs / d)≤549755813888):=zh (aB (gZ zo (Nat.div_le_self _ _)) kz);obtain ⟨q,Eq⟩:∃ y:Nat,Hid (z.natAbs / d=y):=⟨_,zh rfl⟩;obtain ⟨r,Er⟩:∃ y:Nat,Hid (z.natAbs%d=y):=⟨_,zh rfl⟩;rw [Eq.out] at KQ;clear hd kz kd
 by_cases hz:z<0
 ·have g1:decide (z<0)=true:=decide_eq_true hz;go_enter Tryz.func144,Tryz.ntmps144
  go_wp2_with fail
  refine ((fO _ _ z.natAbs d _ aR aR HD.out KZ.out).mono (by rw [Eq.out,Er.out];exact fun _ _ h=>h)).mono ?_;rintro e v1 ⟨v,vr,rfl,hc1,hv,mY⟩;obtain ⟨qZ,Fe,ru,rfl⟩:=hv.slice;have Hq:=zh hv;clear hv;obtain ⟨XF,ac7,Yz,rfl⟩:=mY.slice;have Hqr:=zh mY;clear mY;have BR:=aC.later (aC.nS _ _ _ _) hc1;have bT:=BR.cell;have bS:=BR.free;have jd:=BR.lt;have B0:=aC.later (aC.alloc (aC.new _ _ _) _) hc1;have cB0:=B0.cell;have jI:=B0.free;have lB0:=B0.lt;go_wp2_with fail
  by_cases hr:r=0
  ·have Zb:=zh hr;refine (gL _ r _ aR).mono ?_;rintro e v5 ⟨rfl,rfl⟩;rw [show decide (r=0)=true from decide_eq_true hr];clear hr;go_wp2_with fail
   refine (dU _ q true _ aR).mono ?_;rintro e v3 ⟨v,rfl,hc3,hv⟩;obtain ⟨tC,IL,uz,rfl,Hs⟩:=hv;replace Hs:=zh Hs;replace BR:=aC.later (BR) hc3;replace bT:=BR.cell;replace bS:=BR.free;replace jd:=BR.lt;replace B0:=aC.later (B0) hc3;replace cB0:=B0.cell;replace jI:=B0.free;replace lB0:=B0.lt;go_wp2_with fail
   have HE:Hid (iM q true=z / (d:Int)):=by
    rw [Am HD.out hz,Er.out,Eq.out,if_pos Zb.out,eO];rfl
   refine iT rfl rfl bf Tryz.underlying71 rfl zk ?_;exact ⟨_,rfl,aN,(dN.dW aR).cast HE.out⟩
  ·have Zb:=zh hr;refine (gL _ r _ aR).mono ?_;rintro e v5 ⟨rfl,rfl⟩;rw [show decide (r=0)=false from decide_eq_false hr];clear hr;go_wp2_with fail
   refine (wH _ _ q 1 _ aR (bC.lit zo zo) (aB KQ.out zo) (by have:=bY (B:=1000000000) zo 1 1 zo;omega)).mono ?_;rintro e v2 ⟨v,rfl,hc2,hv⟩;obtain ⟨FW,TK,Gw,rfl⟩:=hv.slice;have Hp:=zh hv;clear hv;replace BR:aC _ (w.heap.size+1) _ _:=aC.later bf hc2;(try simp only [List.setIfInBounds_toArray,aG,aH] at BR);replace bT:=BR.cell;replace bS:=BR.free;replace jd:=BR.lt;replace B0:aC _ (w.heap.size) _ _:=aC.later bf hc2;(try simp only [List.setIfInBounds_toArray,aG,aH] at B0);replace cB0:=B0.cell;replace jI:=B0.free;replace lB0:=B0.lt;go_wp2_with fail
   refine (dU _ (q+1) true _ aR).mono ?_;rintro e v3 ⟨v,rfl,hc3,hv⟩;obtain ⟨tC,IL,uz,rfl,Hs⟩:=hv;replace Hs:=zh Hs;replace BR:=aC.later (BR) hc3;replace bT:=BR.cell;replace bS:=BR.free;replace jd:=BR.lt;replace B0:=aC.later (B0) hc3;replace cB0:=B0.cell;replace jI:=B0.free;replace lB0:=B0.lt;go_wp2_with fail
   have HE:Hid (iM (q+1) true=z / (d:Int)):=by
    rw [Am HD.out hz,Er.out,Eq.out,if_neg Zb.out];rfl
   refine iT rfl rfl bf Tryz.underlying71 rfl zk ?_;exact ⟨_,rfl,aN,(dN.dW aR).cast HE.out⟩
 ·have g1:decide (z<0)=false:=decide_eq_false hz;go_enter Tryz.func144,Tryz.ntmps144
  go_wp2_with fail
  refine ((fO _ _ z.natAbs d _ aR aR HD.out KZ.out).mono (by rw [Eq.out,Er.out];exact fun _ _ h=>h)).mono ?_;rintro e v1 ⟨v,vr,rfl,hc1,hv,mY⟩;obtain ⟨qZ,Fe,ru,rfl⟩:=hv.slice;have Hq:=zh hv;clear hv;obtain ⟨XF,ac7,Yz,rfl⟩:=mY.slice;have Hqr:=zh mY;clear mY;have BR:=aC.later (aC.nS _ _ _ _) hc1;have bT:=BR.cell;have bS:=BR.free;have jd:=BR.lt;have B0:=aC.later (aC.alloc (aC.new _ _ _) _) hc1;have cB0:=B0.cell;have jI:=B0.free;have lB0:=B0.lt;go_wp2_with fail
  refine (dU _ q false _ aR).mono ?_;rintro e v3 ⟨v,rfl,hc3,hv⟩;obtain ⟨tC,IL,uz,rfl,Hs⟩:=hv;replace Hs:=zh Hs;replace BR:=aC.later (BR) hc3;replace bT:=BR.cell;replace bS:=BR.free;replace jd:=BR.lt;replace B0:=aC.later (B0) hc3;replace cB0:=B0.cell;replace jI:=B0.free;replace lB0:=B0.lt;go_wp2_with fail
  have HE:Hid (iM q false=z / (d:Int)):=by
   have h1:=Eq.out;have h2:(z.natAbs:Int)=z:=by omega
   rw [← h2,← h1]
   show ((z.natAbs / d:Nat):Int)=_
   rw [Int.natCast_ediv]
  refine iT rfl rfl bf Tryz.underlying71 rfl zk ?_;exact ⟨_,rfl,aN,(dN.dW aR).cast HE.out⟩
theorem Qm {n m d:Nat} {z:Int} (hn:sz 1000000000 n≤1000000) (hs:sz 1000000000 m≤1000000) (hd:sz 1000000000 d≤1000000) (hz:z.natAbs≤n*(m*2)+d) :
  sz 1000000000 (m*2)≤1000001∧sz 1000000000 (n*(m*2))≤2000001∧sz 1000000000 z.natAbs≤2000002∧sz 1000000000 (d*2)≤1000001:=by
 have h2:=bY (B:=1000000000) zo 1 2 zo;have h3:=kC (B:=1000000000) zo m 2;have h4:=kC (B:=1000000000) zo n (m*2);have h5:=kC (B:=1000000000) zo d 2;have h6:=uK (B:=1000000000) zo (n*(m*2)) d;have h7:=gZ (B:=1000000000) zo hz;refine ⟨by omega,by omega,by omega,by omega⟩
theorem Qn (x y:Value) (q:Rat) (m:Nat) (w:World) (hx:eG w x q) (hy:bC w y m) (kn:sz 1000000000 q.num.natAbs≤1000000) (kd:sz 1000000000 q.den≤1000000) (km:sz 1000000000 m≤1000000) :
  Calls Tryz.prog 96 #[x,y] w (fun e w'=>∃ r,e= ah r∧Below w.heap.size w w'∧dN w' r (aQ.iN (q.num*(m:Int)) q.den)):=by
 obtain ⟨CZ,lH,Ep,O6,mH,O9,rfl,H,Hd⟩:=hx;replace H:=zh H;replace Hd:=zh Hd;obtain ⟨VU,lG,Wi,rfl⟩:=hy.slice;have G:=zh hy;clear hy;have hd:0<q.den:=q.den_pos;have HZ:=zh (Qm (z:=q.num*((m*2:Nat):Int)+(q.den:Int)) kn km kd (by have h1:=Int.natAbs_add_le (q.num*((m*2:Nat):Int)) (q.den:Int);rw [Int.natAbs_mul,Int.natAbs_natCast,Int.natAbs_natCast] at h1;exact h1))
 have HE:Hid ((q.num*((m*2:Nat):Int)+(q.den:Int)) / ((q.den*2:Nat):Int)=aQ.iN (q.num*(m:Int)) q.den):=by
  refine zh ?_;unfold aQ.iN;rw [Int.natCast_mul,Int.natCast_mul,Int.mul_comm 2 (q.num*(m:Int)),Int.mul_assoc,Int.mul_comm 2 (q.den:Int)];rfl
 have KN:=zh kn;have KD:=zh kd;have KM:=zh km;have HD:=zh hd;have KM1:Hid (sz 1000000000 (q.num*((m*2:Nat):Int)).natAbs≤2000001):=zh (by rw [Int.natAbs_mul,Int.natAbs_natCast];exact HZ.out.2.1);have KD1:Hid (sz 1000000000 (iM q.den false).natAbs≤1000000):=zh (by rw [iJ];exact kd);have HS:Hid (iM q.den false=(q.den:Int)):=zh rfl;obtain ⟨r,Er⟩:∃ y:Int,Hid (aQ.iN (q.num*(m:Int)) q.den=y):=⟨_,zh rfl⟩;rw [Er.out] at HE ⊢;obtain ⟨n,En⟩:∃ y:Int,Hid (q.num=y):=⟨_,zh rfl⟩;obtain ⟨d,Ed⟩:∃ y:Nat,Hid (q.den=y):=⟨_,zh rfl⟩;rw [En.out] at H HE KN KM1 HZ ⊢;rw [Ed.out] at Hd HE KD KD1 HS HD HZ;obtain ⟨k,Ek⟩:∃ y:Nat,Hid (m*2=y):=⟨_,zh rfl⟩;obtain ⟨e,Ee⟩:∃ y:Nat,Hid (d*2=y):=⟨_,zh rfl⟩;obtain ⟨y,Ey⟩:∃ y:Int,Hid (n*(k:Int)+iM d false=y):=⟨_,zh rfl⟩;rw [Ek.out] at HE KM1 HZ;rw [Ee.out] at HE HZ;rw [← HS.out,Ey.out] at HE HZ;have HD2:Hid (0<e):=zh (by have:=HD.out;have:=Ee.out;omega)
 clear kn kd km hd;go_enter Tryz.func96,Tryz.ntmps96
 go_wp2_with fail
 have HL:Hid _:=zh (bC.lit (w:=(w.alloc (.cells #[aj CZ lH Ep,ay (decide (n<0)),aj O6 mH O9] 73)).alloc (.cells #[aj none 0 0,ay false] 71)) (d:=2) zo zo);simp at HL
 refine aT [(.pure,0),(.read,1),(.pure,2),(.pure,3),(.pure,6),(.read,7),(.ext,4),(.ext,5),(.ext,8),(.ext,9),(.alloc #[aj none 0 0,ay false] 71,10),(.fin,11)] zk zk zR zP ?_;refine zV ?_;refine aW rfl rfl (fun w1 hb1 J hJ=>?_);go_simp;replace H:=zh (bC.carry H.out aR hb1);replace Hd:=zh (bC.carry Hd.out aR hb1);replace HL:=zh (bC.carry HL.out aR hb1);have BR:=aC.later (aC.drew (aC.alloc (aC.nS _ _ _ _) _)) hb1;have bT:=BR.cell;have bS:=BR.free;have jd:=BR.lt;have B0:=aC.later (aC.drew (aC.alloc (aC.alloc (aC.new _ _ _) _) _)) hb1;have cB0:=B0.cell;have jI:=B0.free;have lB0:=B0.lt;refine ((jm _ _ m 2 _ aR aR (aB KM.out zo) (by have:=bY (B:=1000000000) zo 1 2 zo;omega)).mono (by rw [Ek.out];exact fun _ _ h=>h)).mono ?_;rintro e v1 ⟨v,rfl,hc1,hv⟩;obtain ⟨XG,lHa,YA,rfl⟩:=hv.slice;have Ha:=zh hv;clear hv
 replace H:=zh (bC.later H.out hc1);replace Hd:=zh (bC.later Hd.out hc1);replace HL:=zh (bC.later HL.out hc1);replace BR:=aC.later (BR) hc1;replace bT:=BR.cell;replace bS:=BR.free;replace jd:=BR.lt;replace B0:=aC.later (B0) hc1;replace cB0:=B0.cell;replace jI:=B0.free;replace lB0:=B0.lt;refine hJ _ _ hc1 ?_;clear hJ J;refine aW rfl rfl (fun w2 hb2 J hJ=>?_);go_simp;replace Ha:=zh (bC.later Ha.out hb2);replace H:=zh (bC.later H.out hb2);replace Hd:=zh (bC.later Hd.out hb2);replace HL:=zh (bC.later HL.out hb2);replace BR:=aC.later (BR) hb2;replace bT:=BR.cell;replace bS:=BR.free;replace jd:=BR.lt;replace B0:=aC.later (B0) hb2;replace cB0:=B0.cell;replace jI:=B0.free;replace lB0:=B0.lt;refine (nU _ _ n k _ (dN.dW aR) aR (aB KN.out zo) (aB HZ.out.1 zo)).mono ?_;rintro e v2 ⟨v,rfl,hc2,hv⟩
 obtain ⟨aa9,lHb,af5,rfl,Hb⟩:=hv;replace Hb:=zh Hb;replace Ha:=zh (bC.later Ha.out hc2);replace H:=zh (bC.later H.out hc2);replace Hd:=zh (bC.later Hd.out hc2);replace HL:=zh (bC.later HL.out hc2);replace BR:=aC.later (BR) hc2;replace bT:=BR.cell;replace bS:=BR.free;replace jd:=BR.lt;replace B0:=aC.later (B0) hc2;replace cB0:=B0.cell;replace jI:=B0.free;replace lB0:=B0.lt;refine hJ _ _ hc2 ?_;clear hJ J;refine aW rfl rfl (fun w3 hb3 J hJ=>?_);go_simp;replace Hb:=zh (bC.later Hb.out hb3);replace Hd:=zh (bC.later Hd.out hb3);replace HL:=zh (bC.later HL.out hb3);replace BR:=aC.later (BR) hb3;replace bT:=BR.cell;replace bS:=BR.free;replace jd:=BR.lt;replace B0:=aC.later (B0) hb3;replace cB0:=B0.cell;replace jI:=B0.free;replace lB0:=B0.lt;refine (dU _ d false _ aR).mono ?_;rintro e v3 ⟨v,rfl,hc3,hv⟩;obtain ⟨aa8,lHc,af4,rfl,Hc⟩:=hv;replace Hc:=zh Hc
 replace Hb:=zh (bC.later Hb.out hc3);replace Hd:=zh (bC.later Hd.out hc3);replace HL:=zh (bC.later HL.out hc3);replace BR:=aC.later (BR) hc3;replace bT:=BR.cell;replace bS:=BR.free;replace jd:=BR.lt;replace B0:=aC.later (B0) hc3;replace cB0:=B0.cell;replace jI:=B0.free;replace lB0:=B0.lt;refine hJ _ _ hc3 ?_;clear hJ J;refine aW rfl rfl (fun w4 hb4 J hJ=>?_);go_simp;replace Hd:=zh (bC.later Hd.out hb4);replace HL:=zh (bC.later HL.out hb4);replace Hc:=zh (bC.later Hc.out hb4);replace BR:=aC.later (BR) hb4;replace bT:=BR.cell;replace bS:=BR.free;replace jd:=BR.lt;replace B0:=aC.later (B0) hb4;replace cB0:=B0.cell;replace jI:=B0.free;replace lB0:=B0.lt;refine ((xA _ _ (n*(k:Int)) (iM d false) _ (dN.dW aR) (dN.dW aR) (aB KM1.out zo) (aB KD1.out zo)).mono (by rw [Ey.out];exact fun _ _ h=>h)).mono ?_;rintro e v4 ⟨v,rfl,hc4,hv⟩
 obtain ⟨tC,IL,uz,rfl,Hs⟩:=hv;replace Hs:=zh Hs;replace Hd:=zh (bC.later Hd.out hc4);replace HL:=zh (bC.later HL.out hc4);replace Hc:=zh (bC.later Hc.out hc4);replace BR:=aC.later (BR) hc4;replace bT:=BR.cell;replace bS:=BR.free;replace jd:=BR.lt;replace B0:=aC.later (B0) hc4;replace cB0:=B0.cell;replace jI:=B0.free;replace lB0:=B0.lt;refine hJ _ _ hc4 ?_;clear hJ J;refine gP rfl (fun b w5 V6 hNb ar0 hAb hxb=>?_);go_simp;replace hxb:aC _ _ _ _:=hxb;have hWb:w.heap.size≤b:=(by first|omega|exact aB (Below.size (B:=w.heap.size) aN) hNb);refine dG [_] rfl (fun w6 hb6=>?_);replace hxb:=aC.later (hxb) hb6;replace af0:=hxb.cell;replace ae4:=hxb.free;replace ac4:=hxb.lt;have h46:Below v4.heap.size v4 w6:=aN;replace BR:=aC.later (BR) h46;replace bT:=BR.cell;replace bS:=BR.free;replace jd:=BR.lt;replace Hs:=zh (bC.later Hs.out h46)
 replace B0:=aC.later (B0) h46;replace cB0:=B0.cell;replace jI:=B0.free;replace lB0:=B0.lt;replace Hd:=zh (bC.later Hd.out h46);replace HL:=zh (bC.later HL.out h46);have hNe:w.heap.size+1+1+1≤b:=hNb;have n0:w.heap.size≠b:=by omega
 have n1:w.heap.size+1≠b:=by omega
 have h6:Below w.heap.size w w6:=aN;go_wp2_with fail
 obtain ⟨w7,E7⟩:∃ x,(w6.setCell ⟨b,0,none⟩ (aj tC IL uz)).setCell ⟨b,1,none⟩ (ay (decide (y<0)))=x:=⟨_,rfl⟩
 have h7:Below w.heap.size w w7:=by
  rw [← E7];have:w.heap.size≤b:=by omega
  exact (h6.setCell this _).setCell this _
 replace BR:aC w7 (w.heap.size+1) #[aj none 0 0,ay false] 71:=by rw [← E7];exact (BR.setOther _ n1).setOther _ n1
 replace B0:aC w7 w.heap.size #[aj CZ lH Ep,ay (decide (n<0)),aj O6 mH O9] 73:=by rw [← E7];exact (B0.setOther _ n0).setOther _ n0
 have PS:∀ {v:Value} {x:Nat},bC w6 v x→bC w7 v x:=fun h=>by rw [← E7];exact (h.setOther hxb zd _ _).setOther (hxb.set 0 _) zd _ _
 replace Hs:=zh (PS Hs.out);replace Hd:=zh (PS Hd.out);replace HL:=zh (PS HL.out);replace hxb:aC w7 b #[aj tC IL uz,ay (decide (y<0))] 71:=by rw [← E7];exact (hxb.set 0 _).set 1 _
 rw [E7];clear E7 PS h6 h46 hb6 hb1 hc1 hc2 hc3 hc4;have bT:=aC.cell BR;have jd:=aC.lt BR;have bS:=aC.free BR;have cB0:=aC.cell B0;have lB0:=aC.lt B0;have jI:=aC.free B0;have af0:=aC.cell hxb;have ac4:=aC.lt hxb;have ae4:=aC.free hxb;refine aT [(.read,0),(.pure,1),(.read,2),(.pure,3),(.ext,4),(.ext,5),(.fin,6)] zk zk zR zP ?_;refine zV ?_;refine aW rfl rfl (fun w5 hb5 J hJ=>?_);go_simp;replace Hs:=zh (bC.carry Hs.out aR hb5);replace BR:aC _ (w.heap.size+1) _ _:=aC.later bf hb5;(try simp only [List.setIfInBounds_toArray,aG,aH] at BR);replace bT:=BR.cell;replace bS:=BR.free;replace jd:=BR.lt;refine ((jm _ _ d 2 _ aR aR (aB KD.out zo) (by have:=bY (B:=1000000000) zo 1 2 zo;omega)).mono (by rw [Ee.out];exact fun _ _ h=>h)).mono ?_;rintro e v5 ⟨v,rfl,mg,hv⟩
 obtain ⟨XG,lHa,YA,rfl⟩:=hv.slice;have Ha:=zh hv;clear hv;replace Hs:=zh (bC.later Hs.out mg);replace BR:=aC.later (BR) mg;replace bT:=BR.cell;replace bS:=BR.free;replace jd:=BR.lt;refine hJ _ _ mg ?_;clear hJ J;refine aW rfl rfl (fun w6 hb6 J hJ=>?_);go_simp;replace BR:=aC.later (BR) hb6;replace bT:=BR.cell;replace bS:=BR.free;replace jd:=BR.lt;refine ((NJ _ _ y e _ (dN.dW aR) aR HD2.out (aB HZ.out.2.2.1 zo) (aB HZ.out.2.2.2 zo)).mono (by rw [HE.out];exact fun _ _ h=>h)).mono ?_;rintro e v6 ⟨v,rfl,hc6,hv⟩;obtain ⟨Mx,XK,Oi,rfl,Hr⟩:=hv;replace Hr:=zh Hr;replace BR:=aC.later (BR) hc6;replace bT:=BR.cell;replace bS:=BR.free;replace jd:=BR.lt;refine hJ _ _ hc6 ?_;clear hJ J;refine dG [_] rfl (fun w9 zn=>?_);replace BR:=aC.later (BR) zn;replace bT:=BR.cell;replace bS:=BR.free;replace jd:=BR.lt;go_wp2_with fail
 refine iT rfl rfl bf Tryz.underlying71 rfl zk ?_;exact ⟨_,rfl,aN,dN.dW aR⟩
end Go.Proofs.dD
namespace Go.Dec
open Go Go.Lib
theorem FV (n:Nat):parseUintB 64 (decDigits n)=if n≤18446744073709551615 then .ok n else .range:=by
 obtain ⟨c,r,hc⟩:∃ c r,decDigits n=c::r:=by
  cases h:decDigits n with
  | nil=>exact absurd h (qA n)
  | cons c r=>exact ⟨c,r,rfl⟩
 have hd:=jT n;have hn:=kI n;rw [hc] at hd hn ⊢
 have hu:parseUintB 64 (c::r)=parseUintM 18446744073709551615 0 (c::r):=by
  unfold parseUintB;rw [if_neg zi]
 rw [hu,o8 _ _ hd zo,hn,Nat.zero_mul,dw]
theorem CY (z:Int):parseIntB 64 (itoa z)=if -9223372036854775808≤z∧z<9223372036854775808 then .ok z else .range:=by
 rcases Int.lt_or_le z 0 with h|h
 ·obtain ⟨n,rfl⟩:∃ n:Nat,z= -(n:Int):=⟨z.natAbs,by omega⟩
  have hi:itoa (-(n:Int))=45::decDigits n:=by
   unfold itoa;rw [if_pos h,Int.natAbs_neg,Int.natAbs_natCast]
  rw [hi,parseIntB_minus,FV];have e:(2:Nat)^(64 - 1)=9223372036854775808:=by decide
  rw [e]
  by_cases h1:n≤18446744073709551615
  ·rw [if_pos h1];unfold signedC
   by_cases h2:9223372036854775808<n
   ·simp only;rw [if_pos h2,if_neg zo]
   ·simp only;rw [if_neg h2,if_pos zo]
  ·rw [if_neg h1,if_neg zo];rfl
 ·obtain ⟨n,rfl⟩:∃ n:Nat,z=(n:Int):=⟨z.natAbs,by omega⟩;rw [xP]
  by_cases h2:n<9223372036854775808
  ·rw [if_pos h2,if_pos zo]
  ·rw [if_neg h2,if_neg zo]
end Go.Dec
namespace Go.Proofs.whole
open Go Go.RowKit Go.SW Go.Num Go.Mem Go.Proofs Go.Dec Go.gW
def TL (z:Int):Value:=if -9223372036854775808≤z∧z<9223372036854775808 then aD #[Z I z,Z I 0] else aD #[Z I 0,Z I 6]
theorem JK (z:Int) (hs:(Lib.itoa z).length≤601) (w:World) (he:Er w) :
  Calls Tryz.prog 143 #[dA z,Z I 10,Z I 64] w (fun e w'=>(if -9223372036854775808≤z∧z<9223372036854775808 then e= ah (aD #[Z I z,.nilIface]) else ∃ T p,e= ah (aD #[Z I (Lib.intSat 64 (Lib.itoa z)),.iface T (aA (some p))]))∧Below w.heap.size w w'):=by
 have hz:(⟨(Lib.itoa z).toArray⟩:ByteArray).size≤601:=hs;have hp:=CY z
 by_cases h: -9223372036854775808≤z∧z<9223372036854775808
 ·rw [if_pos h] at hp;refine (Tryz.strconv_ParseInt_10_at64_ok ⟨(Lib.itoa z).toArray⟩ zo z hp w).mono ?_;rintro e w1 ⟨rfl,hw⟩;refine ⟨by rw [if_pos h],?_⟩
  rcases hw with rfl|⟨t,rfl⟩
  ·exact Below.refl _ _
  ·exact Lib.bytesWorld_below _ _ _
 ·rw [if_neg h] at hp;obtain ⟨tp,p,h1,h2⟩:=he;have hc:=World.var?_cell (P:=Tryz.prog) (w:=w) Tryz.laysC174.m16 h1 0;refine (Tryz.strconv_ParseInt_10_at64_range ⟨(Lib.itoa z).toArray⟩ zo hp (.iface tp p) w hc (Or.inr ⟨tp,p,rfl⟩)).mono ?_;rintro e w1 ⟨N,rfl, -, -, hb⟩;refine ⟨?_,hb⟩;rw [if_neg h];exact ⟨_,_,rfl⟩
theorem Rs (z:Int) (hn:kg z.natAbs=true) (w:World) (he:Er w) :
  Calls Tryz.prog 95 #[dA z] w (fun e w'=>e= ah (TL z)∧Below w.heap.size w w'):=by
 have hd:(Lib.decDigits z.natAbs).length≤600:=dZ.1 hn
 have hi:(Lib.itoa z).length≤601:=by
  unfold Lib.itoa
  by_cases h:z<0
  ·rw [if_pos h,aZ];omega
  ·rw [if_neg h,show z.toNat=z.natAbs by omega];omega
 have hw:(whole (Lib.itoa z)).isSome=true:=by rw [eF hd];rfl
 have HC:Hid (∀ W:World,Calls Tryz.prog 89 #[dA z] W (fun e w'=>e= ah (Z I 0)∧Below W.heap.size W w')):=zh (by
  intro W;have:=gI ⟨(Lib.itoa z).toArray⟩ W;rw [show (⟨(Lib.itoa z).toArray⟩:ByteArray).data.toList=Lib.itoa z from rfl,hw] at this;exact this)
 have HP:=zh (fun W h=>JK z hi W h);have HE:=zh he;unfold TL;clear hd hi hw he hn;unfold dA at *;generalize Lib.itoa z=t at *
 by_cases h: -9223372036854775808≤z∧z<9223372036854775808
 ·simp only [if_pos h] at HP ⊢;go_enter Tryz.func95,Tryz.ntmps95
  go_wp2_with fail
  refine (HC.out _).mono ?_;rintro e w1 ⟨rfl,hb1⟩;have HB1:=zh hb1;clear hb1;go_wp2_with fail
  refine (HP.out _ (HE.out.later HB1.out)).mono ?_;rintro e w2 ⟨rfl,hb2⟩;have hw:=Bt HB1.out hb2;clear hb2 HB1;go_wp2_with fail
  go_ret2
  exact ⟨rfl,hw⟩
 ·simp only [if_neg h] at HP ⊢;go_enter Tryz.func95,Tryz.ntmps95
  go_wp2_with fail
  refine (HC.out _).mono ?_;rintro e w1 ⟨rfl,hb1⟩;have HB1:=zh hb1;clear hb1;go_wp2_with fail
  refine (HP.out _ (HE.out.later HB1.out)).mono ?_;rintro e w2 ⟨⟨T,p,rfl⟩,hb2⟩;have hw:=Bt HB1.out hb2;clear hb2 HB1;go_wp2_with fail
  go_ret2
  exact ⟨rfl,hw⟩
end Go.Proofs.whole
namespace Go.Proofs.dD
open Go Go.RowKit Go.SW Go.Num Go.Mem Go.Proofs Go.Dec Go.gW
def Bh (z:Int):Bool:=decide (-9223372036854775808≤z∧z<9223372036854775808)
theorem Rq (z:Int) (w:World) (he:whole.Er w) :
  Calls Tryz.prog 95 #[dA z] w (fun e w'=>(∃ x k,(k=0↔Bh z=true)∧(Bh z=true→x=z)∧e= ah (aD #[Z I x,Z I k]))∧Below w.heap.size w w'):=by
 cases h:kg z.natAbs with
 | true =>
  refine (whole.Rs z h w he).mono ?_;rintro e w1 ⟨rfl,hb⟩;refine ⟨?_,hb⟩;unfold whole.TL Bh
  by_cases c: -9223372036854775808≤z∧z<9223372036854775808
  ·rw [if_pos c,decide_eq_true c];exact ⟨z,0,by simp,fun _=>rfl,rfl⟩
  ·rw [if_neg c,decide_eq_false c];exact ⟨0,6,by simp,(fun h=>by cases h),rfl⟩
 | false =>
  have hn:whole (Lib.itoa z)=none:=by
   cases e:whole (Lib.itoa z) with
   | none=>rfl
   | some n =>
    obtain ⟨h1,h2⟩:=mK e;rw [← Dp h1,← dZ,h] at h2;cases h2
  have hr:Bh z=false:=by
   unfold Bh;refine decide_eq_false fun c=>?_
   have h3:kg z.natAbs=true:=by
    unfold kg;refine decide_eq_true (aL (show z.natAbs<9223372036854775809 by omega) ?_)
    decide+kernel
   rw [h] at h3;cases h3
  have HC:=zh (fun W=>yN (s:=⟨(Lib.itoa z).toArray⟩) hn W);rw [hr];clear hn hr h;unfold dA;generalize Lib.itoa z=t at *;go_enter Tryz.func95,Tryz.ntmps95
  go_wp2_with fail
  refine (HC.out _).mono ?_;rintro e w1 ⟨rfl,hb1⟩;go_wp2_with fail
  go_ret2
  exact ⟨⟨0,10,by simp,(fun h=>by cases h),rfl⟩,hb1⟩
theorem Qp (N:Int) (d:Nat):(aQ.iN N d).natAbs≤2*N.natAbs+d:=by
 unfold aQ.iN;have h1:=Int.natAbs_ediv_le_natAbs (2*N+(d:Int)) (2*(d:Int));have h2:=Int.natAbs_add_le (2*N) (d:Int);rw [Int.natAbs_mul,Int.natAbs_natCast] at h2;omega
theorem KC (s t:ByteArray) (k:Int) (h:rd ⟨s,t⟩=none) (w:World) :
  Calls Tryz.prog 57 #[au #[O s,O t],Z I k] w (fun e w'=>e= ah (aD #[Z I 0,Z I 20])∧Below w.heap.size w w'):=by
 have HR:=zh (fT h);clear h;go_enter Tryz.func57,Tryz.ntmps57
 go_wp2_with fail
 refine (HR.out _).mono ?_;rintro e v1 ⟨rfl,hc1⟩;have BR:=aC.later (aC.new _ _ _) hc1;have bT:=BR.cell;have bS:=BR.free;have jd:=BR.lt;go_wp2_with fail
 go_ret2
 exact ⟨rfl,aN⟩
theorem Kz (s t:ByteArray) (k:Nat) (q:Rat) (h:rd ⟨s,t⟩=some q) (k1:1≤k) (k2:(k:Int)≤1000000000000) (w:World) (ht:gJ.Pow w) (he:whole.Er w) :
  Calls Tryz.prog 57 #[au #[O s,O t],Z I (k:Int)] w (fun e w'=>e= ah (if Bh (aQ.iN (q.num*(k:Int)) q.den) then aD #[Z I (aQ.iN (q.num*(k:Int)) q.den),Z I 0] else aD #[Z I 0,Z I 6])∧Below w.heap.size w w'):=by
 have HR:=zh (fI h);have KP:=kG (nI h).2;have ZY:Hid (sz 1000000000 k≤1000000):=zh (by have:=bY (B:=1000000000) zo 2 k zo;omega);have HKN:Hid (sz 1000000000 q.num.natAbs≤1000000):=zh (aB KP.1 zo);have HKD:Hid (sz 1000000000 q.den≤1000000):=zh (aB KP.2 zo)
 have HZ:Hid (sz 1000000000 (aQ.iN (q.num*(k:Int)) q.den).natAbs≤1099511627776):=by
  refine zh ?_;have h1:=gZ (B:=1000000000) zo (Qp (q.num*(k:Int)) q.den);have h2:=uK (B:=1000000000) zo (2*(q.num*(k:Int)).natAbs) q.den;have h3:=kC (B:=1000000000) zo 2 (q.num*(k:Int)).natAbs;have h4:=kC (B:=1000000000) zo q.num.natAbs k;have h5:=bY (B:=1000000000) zo 1 2 zo;rw [← Int.natAbs_natCast k,← Int.natAbs_mul,Int.natAbs_natCast k] at h4;have:=ZY.out;have:=HKN.out;have:=HKD.out;omega
 have HT:=zh ht;have HE:=zh he;have g1:decide ((k:Int)<1)=false:=decide_eq_false zo;have g2:decide ((1000000000000:Int)<(k:Int))=false:=decide_eq_false zo
 have g3:IntKind.u64.wrap (k:Int)=(k:Int):=by
  simp [IntKind.wrap,IntKind.bits,IntKind.signed]
  omega
 obtain ⟨z,Ez⟩:∃ y:Int,Hid (aQ.iN (q.num*(k:Int)) q.den=y):=⟨_,zh rfl⟩;rw [Ez.out] at HZ ⊢;obtain ⟨R,ER⟩:∃ y:Value,Hid ((if Bh z then aD #[Z I z,Z I 0] else aD #[Z I 0,Z I 6]:Value)=y):=⟨_,zh rfl⟩;rw [ER.out];have HK2:Hid (k≤18446744073709551615):=zh zo;clear ht he h KP k1 k2;go_enter Tryz.func57,Tryz.ntmps57
 go_wp2_with fail
 refine (HR.out _).mono ?_;rintro e v1 ⟨v,rfl,hc1,hv⟩;obtain ⟨qZ,Fe,ru,sW,IK,uw,rfl,Hq,mI⟩:=hv;replace Hq:=zh Hq;replace mI:=zh mI;have BR:=aC.later (aC.new _ _ _) hc1;have bT:=BR.cell;have bS:=BR.free;have jd:=BR.lt;go_wp2_with fail
 refine aT [(.read,0),(.pure,1),(.pure,2),(.ext,3),(.ext,4),(.ext,5),(.ext,6),(.pure,7),(.pure,8),(.pure,9),(.fin,10),(.fin,11)] zk zk zR zP ?_;refine zV ?_;refine aW rfl rfl (fun w3 hb3 J hJ=>?_);go_simp;replace Hq:=zh (bC.carry Hq.out aR hb3);replace mI:=zh (bC.carry mI.out aR hb3);refine (kM k _ HK2.out).mono ?_;rintro e v3 ⟨v,rfl,hc3,hv⟩;obtain ⟨tC,IL,uz,rfl⟩:=hv.slice;have Hs:=zh hv;clear hv;replace Hq:=zh (bC.later Hq.out hc3);replace mI:=zh (bC.later mI.out hc3);refine hJ _ _ hc3 ?_;clear hJ J;refine aW rfl rfl (fun w4 hb4 J hJ=>?_);go_simp;refine ((Qn _ _ q k _ (eG.of aR aR) aR HKN.out HKD.out ZY.out).mono (by rw [Ez.out];exact fun _ _ h=>h)).mono ?_;rintro e v4 ⟨v,rfl,hc4,hv⟩;obtain ⟨P8,Zx,QT,rfl,Hn⟩:=hv;replace Hn:=zh Hn;refine hJ _ _ hc4 ?_;clear hJ J;refine aW rfl rfl (fun w5 hb5 J hJ=>?_);go_simp
 refine (Hz _ z _ (dN.dW aR) HZ.out (HT.out.later aN)).mono ?_;rintro e v5 ⟨rfl,mg⟩;refine hJ _ _ mg ?_;clear hJ J;refine aW rfl rfl (fun w6 hb6 J hJ=>?_);go_simp;refine (Rq z _ (HE.out.later aN)).mono ?_;rintro e v6 ⟨⟨x,c,h1,h2,rfl⟩,hc6⟩;refine hJ _ _ hc6 ?_;clear hJ J;refine zV ?_;refine dG [_,_] rfl (fun w7 og=>?_);cases hz:Bh z with
 | true =>
  obtain rfl:=h1.2 hz;obtain rfl:=h2 hz;clear h1 h2;have hR: aD #[Z I x,Z I 0]=R:=by rw [← ER.out,hz];rfl
  go_wp2_with fail
  go_ret2
  exact ⟨congrArg Ending.returned hR,aN⟩
 | false =>
  have hc:decide (c=0)=false:=decide_eq_false fun e=>by rw [h1.1 e] at hz;cases hz
  have hn:¬ c=0:=of_decide_eq_false hc;clear h1 h2;have hR: aD #[Z I 0,Z I 6]=R:=by rw [← ER.out,hz];rfl
  go_wp2_with fail
  all_goals go_ret2
  all_goals exact ⟨congrArg Ending.returned hR,aN⟩
end Go.Proofs.dD
