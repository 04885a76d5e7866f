/- Lemmas for the proof. No condition. -/
import Derived.Test.YtneajphgfdlmhaaGreatDoorUB13
import Derived.Test.YtneajphgfdlmhaaGreatDoorUB20
set_option linter.unusedVariables false
set_option linter.unusedSimpArgs false
set_option maxRecDepth 100000
set_option maxHeartbeats 16000000
open Go.Ending renaming returned → ah
open Go.IntKind renaming i64 → I
open Go.Value renaming agg → au, bool → ak, int → Z, pointer → aA, slice → aj, string → O, tuple → aD
open List renaming length_cons → bg, set_cons_succ → aN, set_cons_zero → aM
open Nat renaming add_zero → fU, le_trans → ay, lt_of_lt_of_le → aI, zero_add → dJ
namespace Go.Proofs.fC
open Go Go.RowKit Go.SW Go.Num Go.Mem Go.Proofs Go.Dec Go.gB
theorem iB {s t:ByteArray} {q:Rat} (h:rd ⟨s,t⟩=some q) (w:World):Calls Tryz.prog 141 #[au #[O s,O t]] w (Li w q):=by
 obtain ⟨e,hq⟩:=oK h;have:=QM q hq w;rw [← e] at this;exact this
theorem iL {s t:ByteArray} (h:rd ⟨s,t⟩=none) (w:World):Calls Tryz.prog 141 #[au #[O s,O t]] w (sI w):=QN ⟨s,t⟩ h w
theorem mO (a:Fr) (w:World) :
  Calls Tryz.prog 166 #[a.v] w (fun e w'=>e= ah (Z I (A8 a))∧Below w.heap.size w w'):=by
 obtain ⟨s,t⟩:=a
 show Calls _ _ #[au #[O s,O t]] _ _
 unfold A8;cases h:rd ⟨s,t⟩ with
 | none =>
  have HR:=zh (iL h);clear h;go_enter Tryz.func166,Tryz.ntmps166
  go_wp2_with fail
  refine (HR.out _).mono ?_;rintro e v1 ⟨rfl,hc1⟩;go_wp2_with fail
  go_ret
  exact ⟨rfl,aJ⟩
 | some q =>
  have HR:=zh (iB h);clear h;go_enter Tryz.func166,Tryz.ntmps166
  go_wp2_with fail
  refine (HR.out _).mono ?_;rintro e v1 ⟨v,rfl,hc1,hv⟩;obtain ⟨Bh,Uu,Bq,Fw,XV,FN,rfl,Hq,uG⟩:=hv;replace Hq:=zh Hq;replace uG:=zh uG;go_wp2_with fail
  go_ret
  exact ⟨rfl,aJ⟩
def pair (x:Int × Int):Value:=aD #[Z I x.1,Z I x.2]
theorem nV (a:Fr) (w:World) :
  Calls Tryz.prog 104 #[a.v] w (fun e w'=>e= ah (pair (iK a))∧Below w.heap.size w w'):=by
 obtain ⟨s,t⟩:=a
 show Calls _ _ #[au #[O s,O t]] _ _
 unfold iK;cases h:rd ⟨s,t⟩ with
 | none =>
  have HR:=zh (iL h);clear h;go_enter Tryz.func104,Tryz.ntmps104
  go_wp2_with fail
  refine (HR.out _).mono ?_;rintro e v1 ⟨rfl,hc1⟩;go_wp2_with fail
  go_ret2
  exact ⟨rfl,aJ⟩
 | some q =>
  have HR:=zh (iB h);have e:=QK q;simp only;rw [← e];clear h e;go_enter Tryz.func104,Tryz.ntmps104
  go_wp2_with fail
  refine (HR.out _).mono ?_;rintro e v1 ⟨v,rfl,hc1,hv⟩;obtain ⟨Bh,Uu,Bq,Fw,XV,FN,rfl,Hq,uG⟩:=hv;replace Hq:=zh Hq;replace uG:=zh uG;go_wp2_with fail
  refine (yg _ q.num _ (fK.gV aY)).mono ?_;rintro e v2 ⟨rfl,hc2⟩;go_wp2_with fail
  go_ret2
  exact ⟨rfl,aJ⟩
theorem Ld (s t s' t':ByteArray) (w:World) :
  Calls Tryz.prog 65 #[au #[O s,O t],au #[O s',O t'],.func (.func 66) #[] #[]] w (fun e w'=>e= ah (pair (rE ⟨s,t⟩ ⟨s',t'⟩))∧Below w.heap.size w w'):=by
 unfold rE;cases h:rd ⟨s,t⟩ with
 | none =>
  have HR:=zh (iL h);cases k:rd ⟨s',t'⟩ with
  | none =>
   have HS:=zh (iL k);clear h k;go_enter Tryz.func65,Tryz.ntmps65
   go_wp2_with fail
   refine (HR.out _).mono ?_;rintro e v1 ⟨rfl,hc1⟩;have B1:=aB.later (aB.qM _ _ _ _) hc1;have cB1:=B1.cell;have wu:=B1.free;have lB1:=B1.lt;go_wp2_with fail
   refine (HS.out _).mono ?_;rintro e v2 ⟨rfl,hc2⟩;go_wp2_with fail
   go_ret2
   exact ⟨rfl,aJ⟩
  | some q =>
   have HS:=zh (iB k);clear h k;go_enter Tryz.func65,Tryz.ntmps65
   go_wp2_with fail
   refine (HR.out _).mono ?_;rintro e v1 ⟨rfl,hc1⟩;have B1:=aB.later (aB.qM _ _ _ _) hc1;have cB1:=B1.cell;have wu:=B1.free;have lB1:=B1.lt;go_wp2_with fail
   refine (HS.out _).mono ?_;rintro e v2 ⟨v,rfl,hc2,hv⟩;obtain ⟨Bh,Uu,Bq,Fw,XV,FN,rfl,Hq,uG⟩:=hv;replace Hq:=zh Hq;replace uG:=zh uG;go_wp2_with fail
   go_ret2
   exact ⟨rfl,aJ⟩
 | some p =>
  have HR:=zh (iB h);cases k:rd ⟨s',t'⟩ with
  | none =>
   have HS:=zh (iL k);clear h k;go_enter Tryz.func65,Tryz.ntmps65
   go_wp2_with fail
   refine (HR.out _).mono ?_;rintro e v1 ⟨v,rfl,hc1,hv⟩;obtain ⟨MN,lHp,NI,RF,mHp,SF,rfl,Hp,wU⟩:=hv;replace Hp:=zh Hp;replace wU:=zh wU;have B1:=aB.later (aB.qM _ _ _ _) hc1;have cB1:=B1.cell;have wu:=B1.free;have lB1:=B1.lt;go_wp2_with fail
   refine (HS.out _).mono ?_;rintro e v2 ⟨rfl,hc2⟩;go_wp2_with fail
   go_ret2
   exact ⟨rfl,aJ⟩
  | some q =>
   have HS:=zh (iB k);have KP:=zh ((mU (oK h).2).mono (show 67≤1000000 by omega));have KQ:=zh ((mU (oK k).2).mono (show 67≤1000000 by omega));clear h k;go_enter Tryz.func65,Tryz.ntmps65
   go_wp2_with fail
   refine (HR.out _).mono ?_;rintro e v1 ⟨v,rfl,hc1,hv⟩;obtain ⟨MN,lHp,NI,RF,mHp,SF,rfl,Hp,wU⟩:=hv;replace Hp:=zh Hp;replace wU:=zh wU;have B1:=aB.later (aB.qM _ _ _ _) hc1;have cB1:=B1.cell;have wu:=B1.free;have lB1:=B1.lt;go_wp2_with fail
   refine (HS.out _).mono ?_;rintro e v2 ⟨v,rfl,hc2,hv⟩;obtain ⟨Bh,Uu,Bq,Fw,XV,FN,rfl,Hq,uG⟩:=hv;replace Hq:=zh Hq;replace uG:=zh uG;replace X1:aB _ (v1.heap.size) _ _:=aB.later bI hc2;(try simp only [List.setIfInBounds_toArray,aM,aN] at X1);replace nK:=X1.cell;replace oq:=X1.free;replace nI:=X1.lt;go_wp2_with fail
   refine (uP _ _ p q _ (gX.of aY aY) (gX.of aY aY) KP.out KQ.out).mono ?_;rintro e v3 ⟨rfl,hc3⟩;go_wp2_with fail
   go_ret2
   exact ⟨rfl,aJ⟩
theorem E9 (a b:Fr) (w:World) :
  Calls Tryz.prog 19 #[a.v,b.v] w (fun e w'=>e= ah (pair (rE a b))∧Below w.heap.size w w'):=by
 obtain ⟨s,t⟩:=a;obtain ⟨s',t'⟩:=b
 show Calls _ _ #[au #[O s,O t],au #[O s',O t']] _ _
 have H:=zh (Ld s t s' t');unfold pair at *;generalize rE ⟨s,t⟩ ⟨s',t'⟩=c at *;obtain ⟨x,y⟩:=c;go_enter Tryz.func19,Tryz.ntmps19
 go_wp2_with fail
 refine (H.out _).mono ?_;rintro e v1 ⟨rfl,hc1⟩;go_wp2_with fail
 go_ret2
 exact ⟨rfl,aJ⟩
theorem Gu {z:Int} {d:Nat} (hd:0<d) (h:z<0):z / (d:Int)= -((z.natAbs / d+(if z.natAbs%d=0 then 0 else 1):Nat):Int):=by
 have h1:=aW.Px z.natAbs d hd;have e:z= -(z.natAbs:Int):=by omega
 conv=>lhs;rw [e]
 rw [h1];unfold aW.uo
 by_cases c:z.natAbs%d=0
 ·rw [if_neg zo,if_pos c,fU]
 ·rw [if_pos ⟨by omega,rfl⟩,if_neg c]
theorem WH (v u:Value) (z:Int) (d:Nat) (w:World) (h:fK w v z) (hu:bZ w u d) (hd:0<d) (kz:sz 1000000000 z.natAbs≤549755813888) (kd:sz 1000000000 d≤549755813888) :
  Calls Tryz.prog 247 #[v,u] w (fun e w'=>∃ r,e= ah r∧Below w.heap.size w w'∧fK w' r (z / (d:Int))):=by
 obtain ⟨JO,lH,K7,rfl,H⟩:=h;replace H:=zh H;obtain ⟨paG,lG,caG,rfl⟩:=hu.slice;have G:=zh hu;clear hu;have HD:=zh hd;have KZ:=zh kz;have KD:=zh kd;have KQ:Hid (sz 1000000000 (z.natAbs / d)≤549755813888):=zh (ay (fB zo (Nat.div_le_self _ _)) kz);obtain ⟨q,Eq⟩:∃ y:Nat,Hid (z.natAbs / d=y):=⟨_,zh rfl⟩;obtain ⟨r,Er⟩:∃ y:Nat,Hid (z.natAbs%d=y):=⟨_,zh rfl⟩;rw [Eq.out] at KQ;clear hd kz kd
 by_cases hz:z<0
 ·have g1:decide (z<0)=true:=decide_eq_true hz;go_enter Tryz.func247,Tryz.ntmps247
  go_wp2_with fail
  refine ((iI _ _ z.natAbs d _ aY aY HD.out KZ.out).mono (by rw [Eq.out,Er.out];exact fun _ _ h=>h)).mono ?_;rintro e v1 ⟨v,vr,rfl,hc1,hv,qC⟩;obtain ⟨Bh,Uu,Bq,rfl⟩:=hv.slice;have Hq:=zh hv;clear hv;obtain ⟨av9,aH9,aA5,rfl⟩:=qC.slice;have Hqr:=zh qC;clear qC;have BR:=aB.later (aB.qM _ _ _ _) hc1;have dV:=BR.cell;have dU:=BR.free;have kg:=BR.lt;have B0:=aB.later (aB.alloc (aB.new _ _ _) _) hc1;have cB0:=B0.cell;have lK:=B0.free;have lB0:=B0.lt;go_wp2_with fail
  by_cases hr:r=0
  ·have uy:=zh hr;refine (iU _ r _ aY).mono ?_;rintro e v5 ⟨rfl,rfl⟩;rw [show decide (r=0)=true from decide_eq_true hr];clear hr;go_wp2_with fail
   refine (gD _ q true _ aY).mono ?_;rintro e v3 ⟨v,rfl,hc3,hv⟩;obtain ⟨Fy,XW,FP,rfl,Hs⟩:=hv;replace Hs:=zh Hs;replace BR:=aB.later (BR) hc3;replace dV:=BR.cell;replace dU:=BR.free;replace kg:=BR.lt;replace B0:=aB.later (B0) hc3;replace cB0:=B0.cell;replace lK:=B0.free;replace lB0:=B0.lt;go_wp2_with fail
   have HE:Hid (jh q true=z / (d:Int)):=by
    rw [Gu HD.out hz,Er.out,Eq.out,if_pos uy.out,fU];rfl
   refine ig rfl rfl bI Tryz.underlying106 rfl zk ?_;exact ⟨_,rfl,aJ,(fK.gV aY).cast HE.out⟩
  ·have uy:=zh hr;refine (iU _ r _ aY).mono ?_;rintro e v5 ⟨rfl,rfl⟩;rw [show decide (r=0)=false from decide_eq_false hr];clear hr;go_wp2_with fail
   refine (BF _ _ q 1 _ aY (bZ.lit zo zo) (ay KQ.out zo) (by have:=dH (B:=1000000000) zo 1 1 zo;omega)).mono ?_;rintro e v2 ⟨v,rfl,hc2,hv⟩;obtain ⟨MN,lHp,NI,rfl⟩:=hv.slice;have Hp:=zh hv;clear hv;replace BR:aB _ (w.heap.size+1) _ _:=aB.later bI hc2;(try simp only [List.setIfInBounds_toArray,aM,aN] at BR);replace dV:=BR.cell;replace dU:=BR.free;replace kg:=BR.lt;replace B0:aB _ (w.heap.size) _ _:=aB.later bI hc2;(try simp only [List.setIfInBounds_toArray,aM,aN] at B0);replace cB0:=B0.cell;replace lK:=B0.free;replace lB0:=B0.lt;go_wp2_with fail
   refine (gD _ (q+1) true _ aY).mono ?_;rintro e v3 ⟨v,rfl,hc3,hv⟩;obtain ⟨Fy,XW,FP,rfl,Hs⟩:=hv;replace Hs:=zh Hs;replace BR:=aB.later (BR) hc3;replace dV:=BR.cell;replace dU:=BR.free;replace kg:=BR.lt;replace B0:=aB.later (B0) hc3;replace cB0:=B0.cell;replace lK:=B0.free;replace lB0:=B0.lt;go_wp2_with fail
   have HE:Hid (jh (q+1) true=z / (d:Int)):=by
    rw [Gu HD.out hz,Er.out,Eq.out,if_neg uy.out];rfl
   refine ig rfl rfl bI Tryz.underlying106 rfl zk ?_;exact ⟨_,rfl,aJ,(fK.gV aY).cast HE.out⟩
 ·have g1:decide (z<0)=false:=decide_eq_false hz;go_enter Tryz.func247,Tryz.ntmps247
  go_wp2_with fail
  refine ((iI _ _ z.natAbs d _ aY aY HD.out KZ.out).mono (by rw [Eq.out,Er.out];exact fun _ _ h=>h)).mono ?_;rintro e v1 ⟨v,vr,rfl,hc1,hv,qC⟩;obtain ⟨Bh,Uu,Bq,rfl⟩:=hv.slice;have Hq:=zh hv;clear hv;obtain ⟨av9,aH9,aA5,rfl⟩:=qC.slice;have Hqr:=zh qC;clear qC;have BR:=aB.later (aB.qM _ _ _ _) hc1;have dV:=BR.cell;have dU:=BR.free;have kg:=BR.lt;have B0:=aB.later (aB.alloc (aB.new _ _ _) _) hc1;have cB0:=B0.cell;have lK:=B0.free;have lB0:=B0.lt;go_wp2_with fail
  refine (gD _ q false _ aY).mono ?_;rintro e v3 ⟨v,rfl,hc3,hv⟩;obtain ⟨Fy,XW,FP,rfl,Hs⟩:=hv;replace Hs:=zh Hs;replace BR:=aB.later (BR) hc3;replace dV:=BR.cell;replace dU:=BR.free;replace kg:=BR.lt;replace B0:=aB.later (B0) hc3;replace cB0:=B0.cell;replace lK:=B0.free;replace lB0:=B0.lt;go_wp2_with fail
  have HE:Hid (jh q false=z / (d:Int)):=by
   have h1:=Eq.out;have h2:(z.natAbs:Int)=z:=by omega
   rw [← h2,← h1]
   show ((z.natAbs / d:Nat):Int)=_
   rw [Int.natCast_ediv]
  refine ig rfl rfl bI Tryz.underlying106 rfl zk ?_;exact ⟨_,rfl,aJ,(fK.gV aY).cast HE.out⟩
theorem YS {n m d:Nat} {z:Int} (hn:sz 1000000000 n≤1000000) (hs:sz 1000000000 m≤1000000) (hd:sz 1000000000 d≤1000000) (hz:z.natAbs≤n*(m*2)+d) :
  sz 1000000000 (m*2)≤1000001∧sz 1000000000 (n*(m*2))≤2000001∧sz 1000000000 z.natAbs≤2000002∧sz 1000000000 (d*2)≤1000001:=by
 have h2:=dH (B:=1000000000) zo 1 2 zo;have h3:=mR (B:=1000000000) zo m 2;have h4:=mR (B:=1000000000) zo n (m*2);have h5:=mR (B:=1000000000) zo d 2;have h6:=wY (B:=1000000000) zo (n*(m*2)) d;have h7:=fB (B:=1000000000) zo hz;refine ⟨by omega,by omega,by omega,by omega⟩
theorem YT (x y:Value) (q:Rat) (m:Nat) (w:World) (hx:gX w x q) (hy:bZ w y m) (kn:sz 1000000000 q.num.natAbs≤1000000) (kd:sz 1000000000 q.den≤1000000) (km:sz 1000000000 m≤1000000) :
  Calls Tryz.prog 189 #[x,y] w (fun e w'=>∃ r,e= ah r∧Below w.heap.size w w'∧fK w' r (aW.jO (q.num*(m:Int)) q.den)):=by
 obtain ⟨JO,lH,K7,XU,mH,X0,rfl,H,Hd⟩:=hx;replace H:=zh H;replace Hd:=zh Hd;obtain ⟨paG,lG,caG,rfl⟩:=hy.slice;have G:=zh hy;clear hy;have hd:0<q.den:=q.den_pos;have HZ:=zh (YS (z:=q.num*((m*2:Nat):Int)+(q.den:Int)) kn km kd (by have h1:=Int.natAbs_add_le (q.num*((m*2:Nat):Int)) (q.den:Int);rw [Int.natAbs_mul,Int.natAbs_natCast,Int.natAbs_natCast] at h1;exact h1))
 have HE:Hid ((q.num*((m*2:Nat):Int)+(q.den:Int)) / ((q.den*2:Nat):Int)=aW.jO (q.num*(m:Int)) q.den):=by
  refine zh ?_;unfold aW.jO;rw [Int.natCast_mul,Int.natCast_mul,Int.mul_comm 2 (q.num*(m:Int)),Int.mul_assoc,Int.mul_comm 2 (q.den:Int)];rfl
 have KN:=zh kn;have KD:=zh kd;have KM:=zh km;have HD:=zh hd;have KM1:Hid (sz 1000000000 (q.num*((m*2:Nat):Int)).natAbs≤2000001):=zh (by rw [Int.natAbs_mul,Int.natAbs_natCast];exact HZ.out.2.1);have KD1:Hid (sz 1000000000 (jh q.den false).natAbs≤1000000):=zh (by rw [kX];exact kd);have HS:Hid (jh q.den false=(q.den:Int)):=zh rfl;obtain ⟨r,Er⟩:∃ y:Int,Hid (aW.jO (q.num*(m:Int)) q.den=y):=⟨_,zh rfl⟩;rw [Er.out] at HE ⊢;obtain ⟨n,En⟩:∃ y:Int,Hid (q.num=y):=⟨_,zh rfl⟩;obtain ⟨d,Ed⟩:∃ y:Nat,Hid (q.den=y):=⟨_,zh rfl⟩;rw [En.out] at H HE KN KM1 HZ ⊢;rw [Ed.out] at Hd HE KD KD1 HS HD HZ;obtain ⟨k,Ek⟩:∃ y:Nat,Hid (m*2=y):=⟨_,zh rfl⟩;obtain ⟨e,Ee⟩:∃ y:Nat,Hid (d*2=y):=⟨_,zh rfl⟩;obtain ⟨y,Ey⟩:∃ y:Int,Hid (n*(k:Int)+jh d false=y):=⟨_,zh rfl⟩;rw [Ek.out] at HE KM1 HZ;rw [Ee.out] at HE HZ;rw [← HS.out,Ey.out] at HE HZ;have HD2:Hid (0<e):=zh (by have:=HD.out;have:=Ee.out;omega)
 clear kn kd km hd;go_enter Tryz.func189,Tryz.ntmps189
 go_wp2_with fail
 have HL:Hid _:=zh (bZ.lit (w:=(w.alloc (.cells #[aj JO lH K7,ak (decide (n<0)),aj XU mH X0] 108)).alloc (.cells #[aj none 0 0,ak false] 106)) (d:=2) zo zo);simp at HL
 refine aO [(.pure,0),(.read,1),(.pure,2),(.pure,3),(.pure,6),(.read,7),(.ext,4),(.ext,5),(.ext,8),(.ext,9),(.alloc #[aj none 0 0,ak false] 106,10),(.fin,11)] zk zk zR zP ?_;refine zV ?_;refine aU rfl rfl (fun w1 hb1 J hJ=>?_);go_simp;replace H:=zh (bZ.carry H.out aY hb1);replace Hd:=zh (bZ.carry Hd.out aY hb1);replace HL:=zh (bZ.carry HL.out aY hb1);have BR:=aB.later (aB.drew (aB.alloc (aB.qM _ _ _ _) _)) hb1;have dV:=BR.cell;have dU:=BR.free;have kg:=BR.lt;have B0:=aB.later (aB.drew (aB.alloc (aB.alloc (aB.new _ _ _) _) _)) hb1;have cB0:=B0.cell;have lK:=B0.free;have lB0:=B0.lt;refine ((kE _ _ m 2 _ aY aY (ay KM.out zo) (by have:=dH (B:=1000000000) zo 1 2 zo;omega)).mono (by rw [Ek.out];exact fun _ _ h=>h)).mono ?_;rintro e v1 ⟨v,rfl,hc1,hv⟩;obtain ⟨aw0,lHa,aA6,rfl⟩:=hv.slice;have Ha:=zh hv;clear hv
 replace H:=zh (bZ.later H.out hc1);replace Hd:=zh (bZ.later Hd.out hc1);replace HL:=zh (bZ.later HL.out hc1);replace BR:=aB.later (BR) hc1;replace dV:=BR.cell;replace dU:=BR.free;replace kg:=BR.lt;replace B0:=aB.later (B0) hc1;replace cB0:=B0.cell;replace lK:=B0.free;replace lB0:=B0.lt;refine hJ _ _ hc1 ?_;clear hJ J;refine aU rfl rfl (fun w2 hb2 J hJ=>?_);go_simp;replace Ha:=zh (bZ.later Ha.out hb2);replace H:=zh (bZ.later H.out hb2);replace Hd:=zh (bZ.later Hd.out hb2);replace HL:=zh (bZ.later HL.out hb2);replace BR:=aB.later (BR) hb2;replace dV:=BR.cell;replace dU:=BR.free;replace kg:=BR.lt;replace B0:=aB.later (B0) hb2;replace cB0:=B0.cell;replace lK:=B0.free;replace lB0:=B0.lt;refine (rU _ _ n k _ (fK.gV aY) aY (ay KN.out zo) (ay HZ.out.1 zo)).mono ?_;rintro e v2 ⟨v,rfl,hc2,hv⟩
 obtain ⟨aF0,lHb,aK6,rfl,Hb⟩:=hv;replace Hb:=zh Hb;replace Ha:=zh (bZ.later Ha.out hc2);replace H:=zh (bZ.later H.out hc2);replace Hd:=zh (bZ.later Hd.out hc2);replace HL:=zh (bZ.later HL.out hc2);replace BR:=aB.later (BR) hc2;replace dV:=BR.cell;replace dU:=BR.free;replace kg:=BR.lt;replace B0:=aB.later (B0) hc2;replace cB0:=B0.cell;replace lK:=B0.free;replace lB0:=B0.lt;refine hJ _ _ hc2 ?_;clear hJ J;refine aU rfl rfl (fun w3 hb3 J hJ=>?_);go_simp;replace Hb:=zh (bZ.later Hb.out hb3);replace Hd:=zh (bZ.later Hd.out hb3);replace HL:=zh (bZ.later HL.out hb3);replace BR:=aB.later (BR) hb3;replace dV:=BR.cell;replace dU:=BR.free;replace kg:=BR.lt;replace B0:=aB.later (B0) hb3;replace cB0:=B0.cell;replace lK:=B0.free;replace lB0:=B0.lt;refine (gD _ d false _ aY).mono ?_;rintro e v3 ⟨v,rfl,hc3,hv⟩;obtain ⟨aE9,lHc,aK5,rfl,Hc⟩:=hv;replace Hc:=zh Hc
 replace Hb:=zh (bZ.later Hb.out hc3);replace Hd:=zh (bZ.later Hd.out hc3);replace HL:=zh (bZ.later HL.out hc3);replace BR:=aB.later (BR) hc3;replace dV:=BR.cell;replace dU:=BR.free;replace kg:=BR.lt;replace B0:=aB.later (B0) hc3;replace cB0:=B0.cell;replace lK:=B0.free;replace lB0:=B0.lt;refine hJ _ _ hc3 ?_;clear hJ J;refine aU rfl rfl (fun w4 hb4 J hJ=>?_);go_simp;replace Hd:=zh (bZ.later Hd.out hb4);replace HL:=zh (bZ.later HL.out hb4);replace Hc:=zh (bZ.later Hc.out hb4);replace BR:=aB.later (BR) hb4;replace dV:=BR.cell;replace dU:=BR.free;replace kg:=BR.lt;replace B0:=aB.later (B0) hb4;replace cB0:=B0.cell;replace lK:=B0.free;replace lB0:=B0.lt;refine ((wZ _ _ (n*(k:Int)) (jh d false) _ (fK.gV aY) (fK.gV aY) (ay KM1.out zo) (ay KD1.out zo)).mono (by rw [Ey.out];exact fun _ _ h=>h)).mono ?_;rintro e v4 ⟨v,rfl,hc4,hv⟩
 obtain ⟨Fy,XW,FP,rfl,Hs⟩:=hv;replace Hs:=zh Hs;replace Hd:=zh (bZ.later Hd.out hc4);replace HL:=zh (bZ.later HL.out hc4);replace Hc:=zh (bZ.later Hc.out hc4);replace BR:=aB.later (BR) hc4;replace dV:=BR.cell;replace dU:=BR.free;replace kg:=BR.lt;replace B0:=aB.later (B0) hc4;replace cB0:=B0.cell;replace lK:=B0.free;replace lB0:=B0.lt;refine hJ _ _ hc4 ?_;clear hJ J;refine eX rfl (fun b w5 hw5 hNb aX4 hAb hxb=>?_);go_simp;replace hxb:aB _ _ _ _:=hxb;have hWb:w.heap.size≤b:=(by first|omega|exact ay (Below.size (B:=w.heap.size) aJ) hNb);refine dD [_] rfl (fun w6 hb6=>?_);replace hxb:=aB.later (hxb) hb6;replace aK2:=hxb.cell;replace aK1:=hxb.free;replace aH8:=hxb.lt;have h46:Below v4.heap.size v4 w6:=aJ;replace BR:=aB.later (BR) h46;replace dV:=BR.cell;replace dU:=BR.free;replace kg:=BR.lt;replace Hs:=zh (bZ.later Hs.out h46)
 replace B0:=aB.later (B0) h46;replace cB0:=B0.cell;replace lK:=B0.free;replace lB0:=B0.lt;replace Hd:=zh (bZ.later Hd.out h46);replace HL:=zh (bZ.later HL.out h46);have hNe:w.heap.size+1+1+1≤b:=hNb;have n0:w.heap.size≠b:=by omega
 have n1:w.heap.size+1≠b:=by omega
 have h6:Below w.heap.size w w6:=aJ;go_wp2_with fail
 obtain ⟨w7,E7⟩:∃ x,(w6.setCell ⟨b,0,none⟩ (aj Fy XW FP)).setCell ⟨b,1,none⟩ (ak (decide (y<0)))=x:=⟨_,rfl⟩
 have h7:Below w.heap.size w w7:=by
  rw [← E7];have:w.heap.size≤b:=by omega
  exact (h6.setCell this _).setCell this _
 replace BR:aB w7 (w.heap.size+1) #[aj none 0 0,ak false] 106:=by rw [← E7];exact (BR.setOther _ n1).setOther _ n1
 replace B0:aB w7 w.heap.size #[aj JO lH K7,ak (decide (n<0)),aj XU mH X0] 108:=by rw [← E7];exact (B0.setOther _ n0).setOther _ n0
 have Yq:∀ {v:Value} {x:Nat},bZ w6 v x→bZ w7 v x:=fun h=>by rw [← E7];exact (h.setOther hxb zd _ _).setOther (hxb.set 0 _) zd _ _
 replace Hs:=zh (Yq Hs.out);replace Hd:=zh (Yq Hd.out);replace HL:=zh (Yq HL.out);replace hxb:aB w7 b #[aj Fy XW FP,ak (decide (y<0))] 106:=by rw [← E7];exact (hxb.set 0 _).set 1 _
 rw [E7];clear E7 Yq h6 h46 hb6 hb1 hc1 hc2 hc3 hc4;have dV:=aB.cell BR;have kg:=aB.lt BR;have dU:=aB.free BR;have cB0:=aB.cell B0;have lB0:=aB.lt B0;have lK:=aB.free B0;have aK2:=aB.cell hxb;have aH8:=aB.lt hxb;have aK1:=aB.free hxb;refine aO [(.read,0),(.pure,1),(.read,2),(.pure,3),(.ext,4),(.ext,5),(.fin,6)] zk zk zR zP ?_;refine zV ?_;refine aU rfl rfl (fun w5 hb5 J hJ=>?_);go_simp;replace Hs:=zh (bZ.carry Hs.out aY hb5);replace BR:aB _ (w.heap.size+1) _ _:=aB.later bI hb5;(try simp only [List.setIfInBounds_toArray,aM,aN] at BR);replace dV:=BR.cell;replace dU:=BR.free;replace kg:=BR.lt;refine ((kE _ _ d 2 _ aY aY (ay KD.out zo) (by have:=dH (B:=1000000000) zo 1 2 zo;omega)).mono (by rw [Ee.out];exact fun _ _ h=>h)).mono ?_;rintro e v5 ⟨v,rfl,pQ,hv⟩
 obtain ⟨aw0,lHa,aA6,rfl⟩:=hv.slice;have Ha:=zh hv;clear hv;replace Hs:=zh (bZ.later Hs.out pQ);replace BR:=aB.later (BR) pQ;replace dV:=BR.cell;replace dU:=BR.free;replace kg:=BR.lt;refine hJ _ _ pQ ?_;clear hJ J;refine aU rfl rfl (fun w6 hb6 J hJ=>?_);go_simp;replace BR:=aB.later (BR) hb6;replace dV:=BR.cell;replace dU:=BR.free;replace kg:=BR.lt;refine ((WH _ _ y e _ (fK.gV aY) aY HD2.out (ay HZ.out.2.2.1 zo) (ay HZ.out.2.2.2 zo)).mono (by rw [HE.out];exact fun _ _ h=>h)).mono ?_;rintro e v6 ⟨v,rfl,hc6,hv⟩;obtain ⟨Vr,lHr,Xd,rfl,Hr⟩:=hv;replace Hr:=zh Hr;replace BR:=aB.later (BR) hc6;replace dV:=BR.cell;replace dU:=BR.free;replace kg:=BR.lt;refine hJ _ _ hc6 ?_;clear hJ J;refine dD [_] rfl (fun w9 uD=>?_);replace BR:=aB.later (BR) uD;replace dV:=BR.cell;replace dU:=BR.free;replace kg:=BR.lt;go_wp2_with fail
 refine ig rfl rfl bI Tryz.underlying106 rfl zk ?_;exact ⟨_,rfl,aJ,fK.gV aY⟩
end Go.Proofs.fC
namespace Go.Dec
open Go Go.Lib
theorem ML (n:Nat):parseUintB 64 (decDigits n)=if n≤18446744073709551615 then .ok n else .range:=by
 obtain ⟨c,r,hc⟩:∃ c r,decDigits n=c::r:=by
  cases h:decDigits n with
  | nil=>exact absurd h (vC n)
  | cons c r=>exact ⟨c,r,rfl⟩
 have hd:=nU n;have hn:=oD n;rw [hc] at hd hn ⊢
 have hu:parseUintB 64 (c::r)=parseUintM 18446744073709551615 0 (c::r):=by
  unfold parseUintB;rw [if_neg zi]
 rw [hu,tH _ _ hd zo,hn,Nat.zero_mul,dJ]
theorem JN (z:Int):parseIntB 64 (itoa z)=if -9223372036854775808≤z∧z<9223372036854775808 then .ok z else .range:=by
 rcases Int.lt_or_le z 0 with h|h
 ·obtain ⟨n,rfl⟩:∃ n:Nat,z= -(n:Int):=⟨z.natAbs,by omega⟩
  have hi:itoa (-(n:Int))=45::decDigits n:=by
   unfold itoa;rw [if_pos h,Int.natAbs_neg,Int.natAbs_natCast]
  rw [hi,parseIntB_minus,ML];have e:(2:Nat)^(64 - 1)=9223372036854775808:=by decide
  rw [e]
  by_cases h1:n≤18446744073709551615
  ·rw [if_pos h1];unfold signedC
   by_cases h2:9223372036854775808<n
   ·simp only;rw [if_pos h2,if_neg zo]
   ·simp only;rw [if_neg h2,if_pos zo]
  ·rw [if_neg h1,if_neg zo];rfl
 ·obtain ⟨n,rfl⟩:∃ n:Nat,z=(n:Int):=⟨z.natAbs,by omega⟩;rw [CP]
  by_cases h2:n<9223372036854775808
  ·rw [if_pos h2,if_pos zo]
  ·rw [if_neg h2,if_neg zo]
end Go.Dec
namespace Go.Proofs.whole
open Go Go.RowKit Go.SW Go.Num Go.Mem Go.Proofs Go.Dec Go.gB
def ai3 (z:Int):Value:=if -9223372036854775808≤z∧z<9223372036854775808 then aD #[Z I z,Z I 0] else aD #[Z I 0,Z I 6]
theorem RI (z:Int) (hs:(Lib.itoa z).length≤601) (w:World) (he:Er w) :
  Calls Tryz.prog 246 #[dW z,Z I 10,Z I 64] w (fun e w'=>(if -9223372036854775808≤z∧z<9223372036854775808 then e= ah (aD #[Z I z,.nilIface]) else ∃ T p,e= ah (aD #[Z I (Lib.intSat 64 (Lib.itoa z)),.iface T (aA (some p))]))∧Below w.heap.size w w'):=by
 have hz:(⟨(Lib.itoa z).toArray⟩:ByteArray).size≤601:=hs;have hp:=JN z
 by_cases h: -9223372036854775808≤z∧z<9223372036854775808
 ·rw [if_pos h] at hp;refine (Tryz.strconv_ParseInt_10_at64_ok ⟨(Lib.itoa z).toArray⟩ zo z hp w).mono ?_;rintro e w1 ⟨rfl,hw⟩;refine ⟨by rw [if_pos h],?_⟩
  rcases hw with rfl|⟨t,rfl⟩
  ·exact Below.refl _ _
  ·exact Lib.bytesWorld_below _ _ _
 ·rw [if_neg h] at hp;obtain ⟨tp,p,h1,h2⟩:=he;have hc:=World.var?_cell (P:=Tryz.prog) (w:=w) Tryz.laysC174.m16 h1 0;refine (Tryz.strconv_ParseInt_10_at64_range ⟨(Lib.itoa z).toArray⟩ zo hp (.iface tp p) w hc (Or.inr ⟨tp,p,rfl⟩)).mono ?_;rintro e w1 ⟨N,rfl, -, -, hb⟩;refine ⟨?_,hb⟩;rw [if_neg h];exact ⟨_,_,rfl⟩
theorem aa6 (z:Int) (hn:kS z.natAbs=true) (w:World) (he:Er w) :
  Calls Tryz.prog 188 #[dW z] w (fun e w'=>e= ah (ai3 z)∧Below w.heap.size w w'):=by
 have hd:(Lib.decDigits z.natAbs).length≤600:=fZ.1 hn
 have hi:(Lib.itoa z).length≤601:=by
  unfold Lib.itoa
  by_cases h:z<0
  ·rw [if_pos h,bg];omega
  ·rw [if_neg h,show z.toNat=z.natAbs by omega];omega
 have hw:(whole (Lib.itoa z)).isSome=true:=by rw [gL hd];rfl
 have HC:Hid (∀ W:World,Calls Tryz.prog 221 #[dW z] W (fun e w'=>e= ah (Z I 0)∧Below W.heap.size W w')):=zh (by
  intro W;have:=mO ⟨(Lib.itoa z).toArray⟩ W;rw [show (⟨(Lib.itoa z).toArray⟩:ByteArray).data.toList=Lib.itoa z from rfl,hw] at this;exact this)
 have HP:=zh (fun W h=>RI z hi W h);have HE:=zh he;unfold ai3;clear hd hi hw he hn;unfold dW at *;generalize Lib.itoa z=t at *
 by_cases h: -9223372036854775808≤z∧z<9223372036854775808
 ·simp only [if_pos h] at HP ⊢;go_enter Tryz.func188,Tryz.ntmps188
  go_wp2_with fail
  refine (HC.out _).mono ?_;rintro e w1 ⟨rfl,hb1⟩;have HB1:=zh hb1;clear hb1;go_wp2_with fail
  refine (HP.out _ (HE.out.later HB1.out)).mono ?_;rintro e w2 ⟨rfl,hb2⟩;have hw:=Bt HB1.out hb2;clear hb2 HB1;go_wp2_with fail
  go_ret2
  exact ⟨rfl,hw⟩
 ·simp only [if_neg h] at HP ⊢;go_enter Tryz.func188,Tryz.ntmps188
  go_wp2_with fail
  refine (HC.out _).mono ?_;rintro e w1 ⟨rfl,hb1⟩;have HB1:=zh hb1;clear hb1;go_wp2_with fail
  refine (HP.out _ (HE.out.later HB1.out)).mono ?_;rintro e w2 ⟨⟨T,p,rfl⟩,hb2⟩;have hw:=Bt HB1.out hb2;clear hb2 HB1;go_wp2_with fail
  go_ret2
  exact ⟨rfl,hw⟩
end Go.Proofs.whole
namespace Go.Proofs.fC
open Go Go.RowKit Go.SW Go.Num Go.Mem Go.Proofs Go.Dec Go.gB
def Iu (z:Int):Bool:=decide (-9223372036854775808≤z∧z<9223372036854775808)
theorem aa5 (z:Int) (w:World) (he:whole.Er w) :
  Calls Tryz.prog 188 #[dW z] w (fun e w'=>(∃ x k,(k=0↔Iu z=true)∧(Iu z=true→x=z)∧e= ah (aD #[Z I x,Z I k]))∧Below w.heap.size w w'):=by
 cases h:kS z.natAbs with
 | true =>
  refine (whole.aa6 z h w he).mono ?_;rintro e w1 ⟨rfl,hb⟩;refine ⟨?_,hb⟩;unfold whole.ai3 Iu
  by_cases c: -9223372036854775808≤z∧z<9223372036854775808
  ·rw [if_pos c,decide_eq_true c];exact ⟨z,0,by simp,fun _=>rfl,rfl⟩
  ·rw [if_neg c,decide_eq_false c];exact ⟨0,6,by simp,(fun h=>by cases h),rfl⟩
 | false =>
  have hn:whole (Lib.itoa z)=none:=by
   cases e:whole (Lib.itoa z) with
   | none=>rfl
   | some n =>
    obtain ⟨h1,h2⟩:=nZ e;rw [← yF h1,← fZ,h] at h2;cases h2
  have hr:Iu z=false:=by
   unfold Iu;refine decide_eq_false fun c=>?_
   have h3:kS z.natAbs=true:=by
    unfold kS;refine decide_eq_true (aI (show z.natAbs<9223372036854775809 by omega) ?_)
    decide+kernel
   rw [h] at h3;cases h3
  have HC:=zh (fun W=>Eo (s:=⟨(Lib.itoa z).toArray⟩) hn W);rw [hr];clear hn hr h;unfold dW;generalize Lib.itoa z=t at *;go_enter Tryz.func188,Tryz.ntmps188
  go_wp2_with fail
  refine (HC.out _).mono ?_;rintro e w1 ⟨rfl,hb1⟩;go_wp2_with fail
  go_ret2
  exact ⟨⟨0,10,by simp,(fun h=>by cases h),rfl⟩,hb1⟩
theorem YV (N:Int) (d:Nat):(aW.jO N d).natAbs≤2*N.natAbs+d:=by
 unfold aW.jO;have h1:=Int.natAbs_ediv_le_natAbs (2*N+(d:Int)) (2*(d:Int));have h2:=Int.natAbs_add_le (2*N) (d:Int);rw [Int.natAbs_mul,Int.natAbs_natCast] at h2;omega
theorem Ub (s t:ByteArray) (k:Int) (h:rd ⟨s,t⟩=none) (w:World) :
  Calls Tryz.prog 114 #[au #[O s,O t],Z I k] w (fun e w'=>e= ah (aD #[Z I 0,Z I 20])∧Below w.heap.size w w'):=by
 have HR:=zh (iL h);clear h;go_enter Tryz.func114,Tryz.ntmps114
 go_wp2_with fail
 refine (HR.out _).mono ?_;rintro e v1 ⟨rfl,hc1⟩;have BR:=aB.later (aB.new _ _ _) hc1;have dV:=BR.cell;have dU:=BR.free;have kg:=BR.lt;go_wp2_with fail
 go_ret2
 exact ⟨rfl,aJ⟩
theorem Ua (s t:ByteArray) (k:Nat) (q:Rat) (h:rd ⟨s,t⟩=some q) (k1:1≤k) (k2:(k:Int)≤1000000000000) (w:World) (ht:jN.Pow w) (he:whole.Er w) :
  Calls Tryz.prog 114 #[au #[O s,O t],Z I (k:Int)] w (fun e w'=>e= ah (if Iu (aW.jO (q.num*(k:Int)) q.den) then aD #[Z I (aW.jO (q.num*(k:Int)) q.den),Z I 0] else aD #[Z I 0,Z I 6])∧Below w.heap.size w w'):=by
 have HR:=zh (iB h);have KP:=mU (oK h).2;have HK1:Hid (sz 1000000000 k≤1000000):=zh (by have:=dH (B:=1000000000) zo 2 k zo;omega);have HKN:Hid (sz 1000000000 q.num.natAbs≤1000000):=zh (ay KP.1 zo);have HKD:Hid (sz 1000000000 q.den≤1000000):=zh (ay KP.2 zo)
 have HZ:Hid (sz 1000000000 (aW.jO (q.num*(k:Int)) q.den).natAbs≤1099511627776):=by
  refine zh ?_;have h1:=fB (B:=1000000000) zo (YV (q.num*(k:Int)) q.den);have h2:=wY (B:=1000000000) zo (2*(q.num*(k:Int)).natAbs) q.den;have h3:=mR (B:=1000000000) zo 2 (q.num*(k:Int)).natAbs;have h4:=mR (B:=1000000000) zo q.num.natAbs k;have h5:=dH (B:=1000000000) zo 1 2 zo;rw [← Int.natAbs_natCast k,← Int.natAbs_mul,Int.natAbs_natCast k] at h4;have:=HK1.out;have:=HKN.out;have:=HKD.out;omega
 have HT:=zh ht;have HE:=zh he;have g1:decide ((k:Int)<1)=false:=decide_eq_false zo;have g2:decide ((1000000000000:Int)<(k:Int))=false:=decide_eq_false zo
 have g3:IntKind.u64.wrap (k:Int)=(k:Int):=by
  simp [IntKind.wrap,IntKind.bits,IntKind.signed]
  omega
 obtain ⟨z,Ez⟩:∃ y:Int,Hid (aW.jO (q.num*(k:Int)) q.den=y):=⟨_,zh rfl⟩;rw [Ez.out] at HZ ⊢;obtain ⟨R,ER⟩:∃ y:Value,Hid ((if Iu z then aD #[Z I z,Z I 0] else aD #[Z I 0,Z I 6]:Value)=y):=⟨_,zh rfl⟩;rw [ER.out];have HK2:Hid (k≤18446744073709551615):=zh zo;clear ht he h KP k1 k2;go_enter Tryz.func114,Tryz.ntmps114
 go_wp2_with fail
 refine (HR.out _).mono ?_;rintro e v1 ⟨v,rfl,hc1,hv⟩;obtain ⟨Bh,Uu,Bq,Fw,XV,FN,rfl,Hq,uG⟩:=hv;replace Hq:=zh Hq;replace uG:=zh uG;have BR:=aB.later (aB.new _ _ _) hc1;have dV:=BR.cell;have dU:=BR.free;have kg:=BR.lt;go_wp2_with fail
 refine aO [(.read,0),(.pure,1),(.pure,2),(.ext,3),(.ext,4),(.ext,5),(.ext,6),(.pure,7),(.pure,8),(.pure,9),(.fin,10),(.fin,11)] zk zk zR zP ?_;refine zV ?_;refine aU rfl rfl (fun w3 hb3 J hJ=>?_);go_simp;replace Hq:=zh (bZ.carry Hq.out aY hb3);replace uG:=zh (bZ.carry uG.out aY hb3);refine (nT k _ HK2.out).mono ?_;rintro e v3 ⟨v,rfl,hc3,hv⟩;obtain ⟨Fy,XW,FP,rfl⟩:=hv.slice;have Hs:=zh hv;clear hv;replace Hq:=zh (bZ.later Hq.out hc3);replace uG:=zh (bZ.later uG.out hc3);refine hJ _ _ hc3 ?_;clear hJ J;refine aU rfl rfl (fun w4 hb4 J hJ=>?_);go_simp;refine ((YT _ _ q k _ (gX.of aY aY) aY HKN.out HKD.out HK1.out).mono (by rw [Ez.out];exact fun _ _ h=>h)).mono ?_;rintro e v4 ⟨v,rfl,hc4,hv⟩;obtain ⟨aU6,lHn,aZ4,rfl,Hn⟩:=hv;replace Hn:=zh Hn;refine hJ _ _ hc4 ?_;clear hJ J;refine aU rfl rfl (fun w5 hb5 J hJ=>?_);go_simp
 refine (OM _ z _ (fK.gV aY) HZ.out (HT.out.later aJ)).mono ?_;rintro e v5 ⟨rfl,pQ⟩;refine hJ _ _ pQ ?_;clear hJ J;refine aU rfl rfl (fun w6 hb6 J hJ=>?_);go_simp;refine (aa5 z _ (HE.out.later aJ)).mono ?_;rintro e v6 ⟨⟨x,c,h1,h2,rfl⟩,hc6⟩;refine hJ _ _ hc6 ?_;clear hJ J;refine zV ?_;refine dD [_,_] rfl (fun w7 kR=>?_);cases hz:Iu z with
 | true =>
  obtain rfl:=h1.2 hz;obtain rfl:=h2 hz;clear h1 h2;have hR: aD #[Z I x,Z I 0]=R:=by rw [← ER.out,hz];rfl
  go_wp2_with fail
  go_ret2
  exact ⟨congrArg Ending.returned hR,aJ⟩
 | false =>
  have hc:decide (c=0)=false:=decide_eq_false fun e=>by rw [h1.1 e] at hz;cases hz
  have hn:¬ c=0:=of_decide_eq_false hc;clear h1 h2;have hR: aD #[Z I 0,Z I 6]=R:=by rw [← ER.out,hz];rfl
  go_wp2_with fail
  all_goals go_ret2
  all_goals exact ⟨congrArg Ending.returned hR,aJ⟩
end Go.Proofs.fC
