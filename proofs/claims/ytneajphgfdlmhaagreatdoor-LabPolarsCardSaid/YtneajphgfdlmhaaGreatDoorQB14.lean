/- Lemmas for the proof. No condition. -/
import Derived.Test.YtneajphgfdlmhaaGreatDoorQB09
import Derived.Test.YtneajphgfdlmhaaGreatDoorQB13
set_option linter.unusedVariables false
set_option linter.unusedSimpArgs false
set_option maxRecDepth 100000
set_option maxHeartbeats 16000000
open Bool renaming and_eq_true → aK
open Go.Ending renaming returned → aj
open Go.IntKind renaming i64 → I
open Go.Value renaming agg → au, bool → ak, int → Z, pointer → aB, slice → ah, string → O, tuple → aG
open List renaming length_cons → bg, set_cons_succ → aN, set_cons_zero → aM
open Nat renaming add_zero → fJ, le_refl → aD, le_trans → ay, lt_of_lt_of_le → aI, zero_add → dK
namespace Go.Proofs.fu
open Go Go.RowKit Go.SW Go.Num Go.Mem Go.Proofs Go.Dec Go.gD
theorem gV {s t:ByteArray} {q:Rat} (h:rd ⟨s,t⟩=some q) (w:World):Calls Tryz.prog 141 #[au #[O s,O t]] w (Kz w q):=by
 obtain ⟨e,hq⟩:=nT h;have:=Qd q hq w;rw [← e] at this;exact this
theorem iA {s t:ByteArray} (h:rd ⟨s,t⟩=none) (w:World):Calls Tryz.prog 141 #[au #[O s,O t]] w (ru w):=Qe ⟨s,t⟩ h w
theorem kX (a:Fr) (w:World) :
  Calls Tryz.prog 166 #[a.v] w (fun e w'=>e= aj (Z I (Ak a))∧Below w.heap.size w w'):=by
 obtain ⟨s,t⟩:=a
 show Calls _ _ #[au #[O s,O t]] _ _
 unfold Ak;cases h:rd ⟨s,t⟩ with
 | none =>
  have HR:=zh (iA h);clear h;go_enter Tryz.func166,Tryz.ntmps166
  go_wp2_with fail
  refine (HR.out _).mono ?_;rintro e v1 ⟨rfl,hc1⟩;go_wp2_with fail
  go_ret
  exact ⟨rfl,aF⟩
 | some q =>
  have HR:=zh (gV h);clear h;go_enter Tryz.func166,Tryz.ntmps166
  go_wp2_with fail
  refine (HR.out _).mono ?_;rintro e v1 ⟨v,rfl,hc1,hv⟩;obtain ⟨Au,RS,AL,DU,VO,ED,rfl,Hq,tC⟩:=hv;replace Hq:=zh Hq;replace tC:=zh tC;go_wp2_with fail
  go_ret
  exact ⟨rfl,aF⟩
def pair (x:Int × Int):Value:=aG #[Z I x.1,Z I x.2]
theorem sG (a:Fr) (w:World) :
  Calls Tryz.prog 104 #[a.v] w (fun e w'=>e= aj (pair (kF a))∧Below w.heap.size w w'):=by
 obtain ⟨s,t⟩:=a
 show Calls _ _ #[au #[O s,O t]] _ _
 unfold kF;cases h:rd ⟨s,t⟩ with
 | none =>
  have HR:=zh (iA h);clear h;go_enter Tryz.func104,Tryz.ntmps104
  go_wp2_with fail
  refine (HR.out _).mono ?_;rintro e v1 ⟨rfl,hc1⟩;go_wp2_with fail
  go_ret2
  exact ⟨rfl,aF⟩
 | some q =>
  have HR:=zh (gV h);have e:=Qb q;simp only;rw [← e];clear h e;go_enter Tryz.func104,Tryz.ntmps104
  go_wp2_with fail
  refine (HR.out _).mono ?_;rintro e v1 ⟨v,rfl,hc1,hv⟩;obtain ⟨Au,RS,AL,DU,VO,ED,rfl,Hq,tC⟩:=hv;replace Hq:=zh Hq;replace tC:=zh tC;go_wp2_with fail
  refine (xC _ q.num _ (fD.gG aW)).mono ?_;rintro e v2 ⟨rfl,hc2⟩;go_wp2_with fail
  go_ret2
  exact ⟨rfl,aF⟩
theorem Kn (s t s' t':ByteArray) (w:World) :
  Calls Tryz.prog 65 #[au #[O s,O t],au #[O s',O t'],.func (.func 66) #[] #[]] w (fun e w'=>e= aj (pair (Hw ⟨s,t⟩ ⟨s',t'⟩))∧Below w.heap.size w w'):=by
 unfold Hw;cases h:rd ⟨s,t⟩ with
 | none =>
  have HR:=zh (iA h);cases k:rd ⟨s',t'⟩ with
  | none =>
   have HS:=zh (iA k);clear h k;go_enter Tryz.func65,Tryz.ntmps65
   go_wp2_with fail
   refine (HR.out _).mono ?_;rintro e v1 ⟨rfl,hc1⟩;have B1:=aA.later (aA.pV _ _ _ _) hc1;have cB1:=B1.cell;have uZ:=B1.free;have lB1:=B1.lt;go_wp2_with fail
   refine (HS.out _).mono ?_;rintro e v2 ⟨rfl,hc2⟩;go_wp2_with fail
   go_ret2
   exact ⟨rfl,aF⟩
  | some q =>
   have HS:=zh (gV k);clear h k;go_enter Tryz.func65,Tryz.ntmps65
   go_wp2_with fail
   refine (HR.out _).mono ?_;rintro e v1 ⟨rfl,hc1⟩;have B1:=aA.later (aA.pV _ _ _ _) hc1;have cB1:=B1.cell;have uZ:=B1.free;have lB1:=B1.lt;go_wp2_with fail
   refine (HS.out _).mono ?_;rintro e v2 ⟨v,rfl,hc2,hv⟩;obtain ⟨Au,RS,AL,DU,VO,ED,rfl,Hq,tC⟩:=hv;replace Hq:=zh Hq;replace tC:=zh tC;go_wp2_with fail
   go_ret2
   exact ⟨rfl,aF⟩
 | some p =>
  have HR:=zh (gV h);cases k:rd ⟨s',t'⟩ with
  | none =>
   have HS:=zh (iA k);clear h k;go_enter Tryz.func65,Tryz.ntmps65
   go_wp2_with fail
   refine (HR.out _).mono ?_;rintro e v1 ⟨v,rfl,hc1,hv⟩;obtain ⟨LJ,Z8,MQ,Qm,mHp,QX,rfl,Hp,vQ⟩:=hv;replace Hp:=zh Hp;replace vQ:=zh vQ;have B1:=aA.later (aA.pV _ _ _ _) hc1;have cB1:=B1.cell;have uZ:=B1.free;have lB1:=B1.lt;go_wp2_with fail
   refine (HS.out _).mono ?_;rintro e v2 ⟨rfl,hc2⟩;go_wp2_with fail
   go_ret2
   exact ⟨rfl,aF⟩
  | some q =>
   have HS:=zh (gV k);have KP:=zh ((jJ (nT h).2).mono (show 67≤1000000 by omega));have KQ:=zh ((jJ (nT k).2).mono (show 67≤1000000 by omega));clear h k;go_enter Tryz.func65,Tryz.ntmps65
   go_wp2_with fail
   refine (HR.out _).mono ?_;rintro e v1 ⟨v,rfl,hc1,hv⟩;obtain ⟨LJ,Z8,MQ,Qm,mHp,QX,rfl,Hp,vQ⟩:=hv;replace Hp:=zh Hp;replace vQ:=zh vQ;have B1:=aA.later (aA.pV _ _ _ _) hc1;have cB1:=B1.cell;have uZ:=B1.free;have lB1:=B1.lt;go_wp2_with fail
   refine (HS.out _).mono ?_;rintro e v2 ⟨v,rfl,hc2,hv⟩;obtain ⟨Au,RS,AL,DU,VO,ED,rfl,Hq,tC⟩:=hv;replace Hq:=zh Hq;replace tC:=zh tC;replace X1:aA _ (v1.heap.size) _ _:=aA.later bf hc2;(try simp only [List.setIfInBounds_toArray,aM,aN] at X1);replace kZ:=X1.cell;replace ni:=X1.free;replace kY:=X1.lt;go_wp2_with fail
   refine (tX _ _ p q _ (gJ.of aW aW) (gJ.of aW aW) KP.out KQ.out).mono ?_;rintro e v3 ⟨rfl,hc3⟩;go_wp2_with fail
   go_ret2
   exact ⟨rfl,aF⟩
theorem VG (a b:Fr) (w:World) :
  Calls Tryz.prog 19 #[a.v,b.v] w (fun e w'=>e= aj (pair (Hw a b))∧Below w.heap.size w w'):=by
 obtain ⟨s,t⟩:=a;obtain ⟨s',t'⟩:=b
 show Calls _ _ #[au #[O s,O t],au #[O s',O t']] _ _
 have H:=zh (Kn s t s' t');unfold pair at *;generalize Hw ⟨s,t⟩ ⟨s',t'⟩=c at *;obtain ⟨x,y⟩:=c;go_enter Tryz.func19,Tryz.ntmps19
 go_wp2_with fail
 refine (H.out _).mono ?_;rintro e v1 ⟨rfl,hc1⟩;go_wp2_with fail
 go_ret2
 exact ⟨rfl,aF⟩
theorem Fz {z:Int} {d:Nat} (hd:0<d) (h:z<0):z / (d:Int)= -((z.natAbs / d+(if z.natAbs%d=0 then 0 else 1):Nat):Int):=by
 have h1:=dH.OE z.natAbs d hd;have e:z= -(z.natAbs:Int):=by omega
 conv=>lhs;rw [e]
 rw [h1];unfold dH.sM
 by_cases c:z.natAbs%d=0
 ·rw [if_neg zo,if_pos c,fJ]
 ·rw [if_pos ⟨by omega,rfl⟩,if_neg c]
theorem UE (v u:Value) (z:Int) (d:Nat) (w:World) (h:fD w v z) (hu:bW w u d) (hd:0<d) (kz:sz 1000000000 z.natAbs≤549755813888) (kd:sz 1000000000 d≤549755813888) :
  Calls Tryz.prog 247 #[v,u] w (fun e w'=>∃ r,e= aj r∧Below w.heap.size w w'∧fD w' r (z / (d:Int))):=by
 obtain ⟨Jk,lH,J9,rfl,H⟩:=h;replace H:=zh H;obtain ⟨ZM,lG,caG,rfl⟩:=hu.slice;have G:=zh hu;clear hu;have HD:=zh hd;have KZ:=zh kz;have KD:=zh kd;have KQ:Hid (sz 1000000000 (z.natAbs / d)≤549755813888):=zh (ay (gu zo (Nat.div_le_self _ _)) kz);obtain ⟨q,Eq⟩:∃ y:Nat,Hid (z.natAbs / d=y):=⟨_,zh rfl⟩;obtain ⟨r,Er⟩:∃ y:Nat,Hid (z.natAbs%d=y):=⟨_,zh rfl⟩;rw [Eq.out] at KQ;clear hd kz kd
 by_cases hz:z<0
 ·have g1:decide (z<0)=true:=decide_eq_true hz;go_enter Tryz.func247,Tryz.ntmps247
  go_wp2_with fail
  refine ((iw _ _ z.natAbs d _ aW aW HD.out KZ.out).mono (by rw [Eq.out,Er.out];exact fun _ _ h=>h)).mono ?_;rintro e v1 ⟨v,vr,rfl,hc1,hv,pF⟩;obtain ⟨Au,RS,AL,rfl⟩:=hv.slice;have Hq:=zh hv;clear hv;obtain ⟨am8,az2,ar0,rfl⟩:=pF.slice;have Hqr:=zh pF;clear pF;have BR:=aA.later (aA.pV _ _ _ _) hc1;have dV:=BR.cell;have dU:=BR.free;have jI:=BR.lt;have B0:=aA.later (aA.alloc (aA.new _ _ _) _) hc1;have cB0:=B0.cell;have kM:=B0.free;have lB0:=B0.lt;go_wp2_with fail
  by_cases hr:r=0
  ·have sV:=zh hr;refine (iK _ r _ aW).mono ?_;rintro e v5 ⟨rfl,rfl⟩;rw [show decide (r=0)=true from decide_eq_true hr];clear hr;go_wp2_with fail
   refine (fO _ q true _ aW).mono ?_;rintro e v3 ⟨v,rfl,hc3,hv⟩;obtain ⟨DW,VP,EF,rfl,Hs⟩:=hv;replace Hs:=zh Hs;replace BR:=aA.later (BR) hc3;replace dV:=BR.cell;replace dU:=BR.free;replace jI:=BR.lt;replace B0:=aA.later (B0) hc3;replace cB0:=B0.cell;replace kM:=B0.free;replace lB0:=B0.lt;go_wp2_with fail
   have HE:Hid (iV q true=z / (d:Int)):=by
    rw [Fz HD.out hz,Er.out,Eq.out,if_pos sV.out,fJ];rfl
   refine gF rfl rfl bf Tryz.underlying106 rfl zk ?_;exact ⟨_,rfl,aF,(fD.gG aW).cast HE.out⟩
  ·have sV:=zh hr;refine (iK _ r _ aW).mono ?_;rintro e v5 ⟨rfl,rfl⟩;rw [show decide (r=0)=false from decide_eq_false hr];clear hr;go_wp2_with fail
   refine (AZ _ _ q 1 _ aW (bW.lit zo zo) (ay KQ.out zo) (by have:=cO (B:=1000000000) zo 1 1 zo;omega)).mono ?_;rintro e v2 ⟨v,rfl,hc2,hv⟩;obtain ⟨LJ,Z8,MQ,rfl⟩:=hv.slice;have Hp:=zh hv;clear hv;replace BR:aA _ (w.heap.size+1) _ _:=aA.later bf hc2;(try simp only [List.setIfInBounds_toArray,aM,aN] at BR);replace dV:=BR.cell;replace dU:=BR.free;replace jI:=BR.lt;replace B0:aA _ (w.heap.size) _ _:=aA.later bf hc2;(try simp only [List.setIfInBounds_toArray,aM,aN] at B0);replace cB0:=B0.cell;replace kM:=B0.free;replace lB0:=B0.lt;go_wp2_with fail
   refine (fO _ (q+1) true _ aW).mono ?_;rintro e v3 ⟨v,rfl,hc3,hv⟩;obtain ⟨DW,VP,EF,rfl,Hs⟩:=hv;replace Hs:=zh Hs;replace BR:=aA.later (BR) hc3;replace dV:=BR.cell;replace dU:=BR.free;replace jI:=BR.lt;replace B0:=aA.later (B0) hc3;replace cB0:=B0.cell;replace kM:=B0.free;replace lB0:=B0.lt;go_wp2_with fail
   have HE:Hid (iV (q+1) true=z / (d:Int)):=by
    rw [Fz HD.out hz,Er.out,Eq.out,if_neg sV.out];rfl
   refine gF rfl rfl bf Tryz.underlying106 rfl zk ?_;exact ⟨_,rfl,aF,(fD.gG aW).cast HE.out⟩
 ·have g1:decide (z<0)=false:=decide_eq_false hz;go_enter Tryz.func247,Tryz.ntmps247
  go_wp2_with fail
  refine ((iw _ _ z.natAbs d _ aW aW HD.out KZ.out).mono (by rw [Eq.out,Er.out];exact fun _ _ h=>h)).mono ?_;rintro e v1 ⟨v,vr,rfl,hc1,hv,pF⟩;obtain ⟨Au,RS,AL,rfl⟩:=hv.slice;have Hq:=zh hv;clear hv;obtain ⟨am8,az2,ar0,rfl⟩:=pF.slice;have Hqr:=zh pF;clear pF;have BR:=aA.later (aA.pV _ _ _ _) hc1;have dV:=BR.cell;have dU:=BR.free;have jI:=BR.lt;have B0:=aA.later (aA.alloc (aA.new _ _ _) _) hc1;have cB0:=B0.cell;have kM:=B0.free;have lB0:=B0.lt;go_wp2_with fail
  refine (fO _ q false _ aW).mono ?_;rintro e v3 ⟨v,rfl,hc3,hv⟩;obtain ⟨DW,VP,EF,rfl,Hs⟩:=hv;replace Hs:=zh Hs;replace BR:=aA.later (BR) hc3;replace dV:=BR.cell;replace dU:=BR.free;replace jI:=BR.lt;replace B0:=aA.later (B0) hc3;replace cB0:=B0.cell;replace kM:=B0.free;replace lB0:=B0.lt;go_wp2_with fail
  have HE:Hid (iV q false=z / (d:Int)):=by
   have h1:=Eq.out;have h2:(z.natAbs:Int)=z:=by omega
   rw [← h2,← h1]
   show ((z.natAbs / d:Nat):Int)=_
   rw [Int.natCast_ediv]
  refine gF rfl rfl bf Tryz.underlying106 rfl zk ?_;exact ⟨_,rfl,aF,(fD.gG aW).cast HE.out⟩
theorem Xb {n m d:Nat} {z:Int} (hn:sz 1000000000 n≤1000000) (hs:sz 1000000000 m≤1000000) (hd:sz 1000000000 d≤1000000) (hz:z.natAbs≤n*(m*2)+d) :
  sz 1000000000 (m*2)≤1000001∧sz 1000000000 (n*(m*2))≤2000001∧sz 1000000000 z.natAbs≤2000002∧sz 1000000000 (d*2)≤1000001:=by
 have h2:=cO (B:=1000000000) zo 1 2 zo;have h3:=kR (B:=1000000000) zo m 2;have h4:=kR (B:=1000000000) zo n (m*2);have h5:=kR (B:=1000000000) zo d 2;have h6:=vU (B:=1000000000) zo (n*(m*2)) d;have h7:=gu (B:=1000000000) zo hz;refine ⟨by omega,by omega,by omega,by omega⟩
theorem Xc (x y:Value) (q:Rat) (m:Nat) (w:World) (hx:gJ w x q) (hy:bW w y m) (kn:sz 1000000000 q.num.natAbs≤1000000) (kd:sz 1000000000 q.den≤1000000) (km:sz 1000000000 m≤1000000) :
  Calls Tryz.prog 189 #[x,y] w (fun e w'=>∃ r,e= aj r∧Below w.heap.size w w'∧fD w' r (dH.jy (q.num*(m:Int)) q.den)):=by
 obtain ⟨Jk,lH,J9,VN,mH,VR,rfl,H,Hd⟩:=hx;replace H:=zh H;replace Hd:=zh Hd;obtain ⟨ZM,lG,caG,rfl⟩:=hy.slice;have G:=zh hy;clear hy;have hd:0<q.den:=q.den_pos;have HZ:=zh (Xb (z:=q.num*((m*2:Nat):Int)+(q.den:Int)) kn km kd (by have h1:=Int.natAbs_add_le (q.num*((m*2:Nat):Int)) (q.den:Int);rw [Int.natAbs_mul,Int.natAbs_natCast,Int.natAbs_natCast] at h1;exact h1))
 have HE:Hid ((q.num*((m*2:Nat):Int)+(q.den:Int)) / ((q.den*2:Nat):Int)=dH.jy (q.num*(m:Int)) q.den):=by
  refine zh ?_;unfold dH.jy;rw [Int.natCast_mul,Int.natCast_mul,Int.mul_comm 2 (q.num*(m:Int)),Int.mul_assoc,Int.mul_comm 2 (q.den:Int)];rfl
 have KN:=zh kn;have KD:=zh kd;have KM:=zh km;have HD:=zh hd;have KM1:Hid (sz 1000000000 (q.num*((m*2:Nat):Int)).natAbs≤2000001):=zh (by rw [Int.natAbs_mul,Int.natAbs_natCast];exact HZ.out.2.1);have KD1:Hid (sz 1000000000 (iV q.den false).natAbs≤1000000):=zh (by rw [kG];exact kd);have HS:Hid (iV q.den false=(q.den:Int)):=zh rfl;obtain ⟨r,Er⟩:∃ y:Int,Hid (dH.jy (q.num*(m:Int)) q.den=y):=⟨_,zh rfl⟩;rw [Er.out] at HE ⊢;obtain ⟨n,En⟩:∃ y:Int,Hid (q.num=y):=⟨_,zh rfl⟩;obtain ⟨d,Ed⟩:∃ y:Nat,Hid (q.den=y):=⟨_,zh rfl⟩;rw [En.out] at H HE KN KM1 HZ ⊢;rw [Ed.out] at Hd HE KD KD1 HS HD HZ;obtain ⟨k,Ek⟩:∃ y:Nat,Hid (m*2=y):=⟨_,zh rfl⟩;obtain ⟨e,Ee⟩:∃ y:Nat,Hid (d*2=y):=⟨_,zh rfl⟩;obtain ⟨y,Ey⟩:∃ y:Int,Hid (n*(k:Int)+iV d false=y):=⟨_,zh rfl⟩;rw [Ek.out] at HE KM1 HZ;rw [Ee.out] at HE HZ;rw [← HS.out,Ey.out] at HE HZ;have HD2:Hid (0<e):=zh (by have:=HD.out;have:=Ee.out;omega)
 clear kn kd km hd;go_enter Tryz.func189,Tryz.ntmps189
 go_wp2_with fail
 have HL:Hid _:=zh (bW.lit (w:=(w.alloc (.cells #[ah Jk lH J9,ak (decide (n<0)),ah VN mH VR] 108)).alloc (.cells #[ah none 0 0,ak false] 106)) (d:=2) zo zo);simp at HL
 refine aJ [(.pure,0),(.read,1),(.pure,2),(.pure,3),(.pure,6),(.read,7),(.ext,4),(.ext,5),(.ext,8),(.ext,9),(.alloc #[ah none 0 0,ak false] 106,10),(.fin,11)] zk zk zR zP ?_;refine zV ?_;refine aS rfl rfl (fun w1 hb1 J hJ=>?_);go_simp;replace H:=zh (bW.carry H.out aW hb1);replace Hd:=zh (bW.carry Hd.out aW hb1);replace HL:=zh (bW.carry HL.out aW hb1);have BR:=aA.later (aA.drew (aA.alloc (aA.pV _ _ _ _) _)) hb1;have dV:=BR.cell;have dU:=BR.free;have jI:=BR.lt;have B0:=aA.later (aA.drew (aA.alloc (aA.alloc (aA.new _ _ _) _) _)) hb1;have cB0:=B0.cell;have kM:=B0.free;have lB0:=B0.lt;refine ((jQ _ _ m 2 _ aW aW (ay KM.out zo) (by have:=cO (B:=1000000000) zo 1 2 zo;omega)).mono (by rw [Ek.out];exact fun _ _ h=>h)).mono ?_;rintro e v1 ⟨v,rfl,hc1,hv⟩;obtain ⟨am9,lHa,ar1,rfl⟩:=hv.slice;have Ha:=zh hv;clear hv
 replace H:=zh (bW.later H.out hc1);replace Hd:=zh (bW.later Hd.out hc1);replace HL:=zh (bW.later HL.out hc1);replace BR:=aA.later (BR) hc1;replace dV:=BR.cell;replace dU:=BR.free;replace jI:=BR.lt;replace B0:=aA.later (B0) hc1;replace cB0:=B0.cell;replace kM:=B0.free;replace lB0:=B0.lt;refine hJ _ _ hc1 ?_;clear hJ J;refine aS rfl rfl (fun w2 hb2 J hJ=>?_);go_simp;replace Ha:=zh (bW.later Ha.out hb2);replace H:=zh (bW.later H.out hb2);replace Hd:=zh (bW.later Hd.out hb2);replace HL:=zh (bW.later HL.out hb2);replace BR:=aA.later (BR) hb2;replace dV:=BR.cell;replace dU:=BR.free;replace jI:=BR.lt;replace B0:=aA.later (B0) hb2;replace cB0:=B0.cell;replace kM:=B0.free;replace lB0:=B0.lt;refine (qO _ _ n k _ (fD.gG aW) aW (ay KN.out zo) (ay HZ.out.1 zo)).mono ?_;rintro e v2 ⟨v,rfl,hc2,hv⟩
 obtain ⟨aw1,lHb,aB9,rfl,Hb⟩:=hv;replace Hb:=zh Hb;replace Ha:=zh (bW.later Ha.out hc2);replace H:=zh (bW.later H.out hc2);replace Hd:=zh (bW.later Hd.out hc2);replace HL:=zh (bW.later HL.out hc2);replace BR:=aA.later (BR) hc2;replace dV:=BR.cell;replace dU:=BR.free;replace jI:=BR.lt;replace B0:=aA.later (B0) hc2;replace cB0:=B0.cell;replace kM:=B0.free;replace lB0:=B0.lt;refine hJ _ _ hc2 ?_;clear hJ J;refine aS rfl rfl (fun w3 hb3 J hJ=>?_);go_simp;replace Hb:=zh (bW.later Hb.out hb3);replace Hd:=zh (bW.later Hd.out hb3);replace HL:=zh (bW.later HL.out hb3);replace BR:=aA.later (BR) hb3;replace dV:=BR.cell;replace dU:=BR.free;replace jI:=BR.lt;replace B0:=aA.later (B0) hb3;replace cB0:=B0.cell;replace kM:=B0.free;replace lB0:=B0.lt;refine (fO _ d false _ aW).mono ?_;rintro e v3 ⟨v,rfl,hc3,hv⟩;obtain ⟨aw0,lHc,aB8,rfl,Hc⟩:=hv;replace Hc:=zh Hc
 replace Hb:=zh (bW.later Hb.out hc3);replace Hd:=zh (bW.later Hd.out hc3);replace HL:=zh (bW.later HL.out hc3);replace BR:=aA.later (BR) hc3;replace dV:=BR.cell;replace dU:=BR.free;replace jI:=BR.lt;replace B0:=aA.later (B0) hc3;replace cB0:=B0.cell;replace kM:=B0.free;replace lB0:=B0.lt;refine hJ _ _ hc3 ?_;clear hJ J;refine aS rfl rfl (fun w4 hb4 J hJ=>?_);go_simp;replace Hd:=zh (bW.later Hd.out hb4);replace HL:=zh (bW.later HL.out hb4);replace Hc:=zh (bW.later Hc.out hb4);replace BR:=aA.later (BR) hb4;replace dV:=BR.cell;replace dU:=BR.free;replace jI:=BR.lt;replace B0:=aA.later (B0) hb4;replace cB0:=B0.cell;replace kM:=B0.free;replace lB0:=B0.lt;refine ((vV _ _ (n*(k:Int)) (iV d false) _ (fD.gG aW) (fD.gG aW) (ay KM1.out zo) (ay KD1.out zo)).mono (by rw [Ey.out];exact fun _ _ h=>h)).mono ?_;rintro e v4 ⟨v,rfl,hc4,hv⟩
 obtain ⟨DW,VP,EF,rfl,Hs⟩:=hv;replace Hs:=zh Hs;replace Hd:=zh (bW.later Hd.out hc4);replace HL:=zh (bW.later HL.out hc4);replace Hc:=zh (bW.later Hc.out hc4);replace BR:=aA.later (BR) hc4;replace dV:=BR.cell;replace dU:=BR.free;replace jI:=BR.lt;replace B0:=aA.later (B0) hc4;replace cB0:=B0.cell;replace kM:=B0.free;replace lB0:=B0.lt;refine hJ _ _ hc4 ?_;clear hJ J;refine eX rfl (fun b w5 hw5 hNb aO4 hAb hxb=>?_);go_simp;replace hxb:aA _ _ _ _:=hxb;have hWb:w.heap.size≤b:=(by first|omega|exact ay (Below.size (B:=w.heap.size) aF) hNb);refine dA [_] rfl (fun w6 hb6=>?_);replace hxb:=aA.later (hxb) hb6;replace aB5:=hxb.cell;replace aB4:=hxb.free;replace az1:=hxb.lt;have h46:Below v4.heap.size v4 w6:=aF;replace BR:=aA.later (BR) h46;replace dV:=BR.cell;replace dU:=BR.free;replace jI:=BR.lt;replace Hs:=zh (bW.later Hs.out h46)
 replace B0:=aA.later (B0) h46;replace cB0:=B0.cell;replace kM:=B0.free;replace lB0:=B0.lt;replace Hd:=zh (bW.later Hd.out h46);replace HL:=zh (bW.later HL.out h46);have hNe:w.heap.size+1+1+1≤b:=hNb;have n0:w.heap.size≠b:=by omega
 have n1:w.heap.size+1≠b:=by omega
 have h6:Below w.heap.size w w6:=aF;go_wp2_with fail
 obtain ⟨w7,E7⟩:∃ x,(w6.setCell ⟨b,0,none⟩ (ah DW VP EF)).setCell ⟨b,1,none⟩ (ak (decide (y<0)))=x:=⟨_,rfl⟩
 have h7:Below w.heap.size w w7:=by
  rw [← E7];have:w.heap.size≤b:=by omega
  exact (h6.setCell this _).setCell this _
 replace BR:aA w7 (w.heap.size+1) #[ah none 0 0,ak false] 106:=by rw [← E7];exact (BR.setOther _ n1).setOther _ n1
 replace B0:aA w7 w.heap.size #[ah Jk lH J9,ak (decide (n<0)),ah VN mH VR] 108:=by rw [← E7];exact (B0.setOther _ n0).setOther _ n0
 have Wx:∀ {v:Value} {x:Nat},bW w6 v x→bW w7 v x:=fun h=>by rw [← E7];exact (h.setOther hxb zd _ _).setOther (hxb.set 0 _) zd _ _
 replace Hs:=zh (Wx Hs.out);replace Hd:=zh (Wx Hd.out);replace HL:=zh (Wx HL.out);replace hxb:aA w7 b #[ah DW VP EF,ak (decide (y<0))] 106:=by rw [← E7];exact (hxb.set 0 _).set 1 _
 rw [E7];clear E7 Wx h6 h46 hb6 hb1 hc1 hc2 hc3 hc4;have dV:=aA.cell BR;have jI:=aA.lt BR;have dU:=aA.free BR;have cB0:=aA.cell B0;have lB0:=aA.lt B0;have kM:=aA.free B0;have aB5:=aA.cell hxb;have az1:=aA.lt hxb;have aB4:=aA.free hxb;refine aJ [(.read,0),(.pure,1),(.read,2),(.pure,3),(.ext,4),(.ext,5),(.fin,6)] zk zk zR zP ?_;refine zV ?_;refine aS rfl rfl (fun w5 hb5 J hJ=>?_);go_simp;replace Hs:=zh (bW.carry Hs.out aW hb5);replace BR:aA _ (w.heap.size+1) _ _:=aA.later bf hb5;(try simp only [List.setIfInBounds_toArray,aM,aN] at BR);replace dV:=BR.cell;replace dU:=BR.free;replace jI:=BR.lt;refine ((jQ _ _ d 2 _ aW aW (ay KD.out zo) (by have:=cO (B:=1000000000) zo 1 2 zo;omega)).mono (by rw [Ee.out];exact fun _ _ h=>h)).mono ?_;rintro e v5 ⟨v,rfl,oH,hv⟩
 obtain ⟨am9,lHa,ar1,rfl⟩:=hv.slice;have Ha:=zh hv;clear hv;replace Hs:=zh (bW.later Hs.out oH);replace BR:=aA.later (BR) oH;replace dV:=BR.cell;replace dU:=BR.free;replace jI:=BR.lt;refine hJ _ _ oH ?_;clear hJ J;refine aS rfl rfl (fun w6 hb6 J hJ=>?_);go_simp;replace BR:=aA.later (BR) hb6;replace dV:=BR.cell;replace dU:=BR.free;replace jI:=BR.lt;refine ((UE _ _ y e _ (fD.gG aW) aW HD2.out (ay HZ.out.2.2.1 zo) (ay HZ.out.2.2.2 zo)).mono (by rw [HE.out];exact fun _ _ h=>h)).mono ?_;rintro e v6 ⟨v,rfl,hc6,hv⟩;obtain ⟨Tv,lHr,U7,rfl,Hr⟩:=hv;replace Hr:=zh Hr;replace BR:=aA.later (BR) hc6;replace dV:=BR.cell;replace dU:=BR.free;replace jI:=BR.lt;refine hJ _ _ hc6 ?_;clear hJ J;refine dA [_] rfl (fun w9 sZ=>?_);replace BR:=aA.later (BR) sZ;replace dV:=BR.cell;replace dU:=BR.free;replace jI:=BR.lt;go_wp2_with fail
 refine gF rfl rfl bf Tryz.underlying106 rfl zk ?_;exact ⟨_,rfl,aF,fD.gG aW⟩
end Go.Proofs.fu
namespace Go.Dec
open Go Go.Lib
theorem LH (n:Nat):parseUintB 64 (decDigits n)=if n≤18446744073709551615 then .ok n else .range:=by
 obtain ⟨c,r,hc⟩:∃ c r,decDigits n=c::r:=by
  cases h:decDigits n with
  | nil=>exact absurd h (uz n)
  | cons c r=>exact ⟨c,r,rfl⟩
 have hd:=mY n;have hn:=nM n;rw [hc] at hd hn ⊢
 have hu:parseUintB 64 (c::r)=parseUintM 18446744073709551615 0 (c::r):=by
  unfold parseUintB;rw [if_neg zi]
 rw [hu,rV _ _ hd zo,hn,Nat.zero_mul,dK]
theorem Jj (z:Int):parseIntB 64 (itoa z)=if -9223372036854775808≤z∧z<9223372036854775808 then .ok z else .range:=by
 rcases Int.lt_or_le z 0 with h|h
 ·obtain ⟨n,rfl⟩:∃ n:Nat,z= -(n:Int):=⟨z.natAbs,by omega⟩
  have hi:itoa (-(n:Int))=45::decDigits n:=by
   unfold itoa;rw [if_pos h,Int.natAbs_neg,Int.natAbs_natCast]
  rw [hi,parseIntB_minus,LH];have e:(2:Nat)^(64 - 1)=9223372036854775808:=by decide
  rw [e]
  by_cases h1:n≤18446744073709551615
  ·rw [if_pos h1];unfold signedC
   by_cases h2:9223372036854775808<n
   ·simp only;rw [if_pos h2,if_neg zo]
   ·simp only;rw [if_neg h2,if_pos zo]
  ·rw [if_neg h1,if_neg zo];rfl
 ·obtain ⟨n,rfl⟩:∃ n:Nat,z=(n:Int):=⟨z.natAbs,by omega⟩;rw [BX]
  by_cases h2:n<9223372036854775808
  ·rw [if_pos h2,if_pos zo]
  ·rw [if_neg h2,if_neg zo]
end Go.Dec
namespace Go.Proofs.whole
open Go Go.RowKit Go.SW Go.Num Go.Mem Go.Proofs Go.Dec Go.gD
def aa1 (z:Int):Value:=if -9223372036854775808≤z∧z<9223372036854775808 then aG #[Z I z,Z I 0] else aG #[Z I 0,Z I 6]
theorem Qo (z:Int) (hs:(Lib.itoa z).length≤601) (w:World) (he:Er w) :
  Calls Tryz.prog 246 #[dW z,Z I 10,Z I 64] w (fun e w'=>(if -9223372036854775808≤z∧z<9223372036854775808 then e= aj (aG #[Z I z,.nilIface]) else ∃ T p,e= aj (aG #[Z I (Lib.intSat 64 (Lib.itoa z)),.iface T (aB (some p))]))∧Below w.heap.size w w'):=by
 have hz:(⟨(Lib.itoa z).toArray⟩:ByteArray).size≤601:=hs;have hp:=Jj z
 by_cases h: -9223372036854775808≤z∧z<9223372036854775808
 ·rw [if_pos h] at hp;refine (Tryz.strconv_ParseInt_10_at64_ok ⟨(Lib.itoa z).toArray⟩ zo z hp w).mono ?_;rintro e w1 ⟨rfl,hw⟩;refine ⟨by rw [if_pos h],?_⟩
  rcases hw with rfl|⟨t,rfl⟩
  ·exact Below.refl _ _
  ·exact Lib.bytesWorld_below _ _ _
 ·rw [if_neg h] at hp;obtain ⟨tp,p,h1,h2⟩:=he;have hc:=World.var?_cell (P:=Tryz.prog) (w:=w) Tryz.laysC174.m16 h1 0;refine (Tryz.strconv_ParseInt_10_at64_range ⟨(Lib.itoa z).toArray⟩ zo hp (.iface tp p) w hc (Or.inr ⟨tp,p,rfl⟩)).mono ?_;rintro e w1 ⟨N,rfl, -, -, hb⟩;refine ⟨?_,hb⟩;rw [if_neg h];exact ⟨_,_,rfl⟩
theorem Yj (z:Int) (hn:kI z.natAbs=true) (w:World) (he:Er w) :
  Calls Tryz.prog 188 #[dW z] w (fun e w'=>e= aj (aa1 z)∧Below w.heap.size w w'):=by
 have hd:(Lib.decDigits z.natAbs).length≤600:=fK.1 hn
 have hi:(Lib.itoa z).length≤601:=by
  unfold Lib.itoa
  by_cases h:z<0
  ·rw [if_pos h,bg];omega
  ·rw [if_neg h,show z.toNat=z.natAbs by omega];omega
 have hw:(whole (Lib.itoa z)).isSome=true:=by rw [fT hd];rfl
 have HC:Hid (∀ W:World,Calls Tryz.prog 221 #[dW z] W (fun e w'=>e= aj (Z I 0)∧Below W.heap.size W w')):=zh (by
  intro W;have:=kX ⟨(Lib.itoa z).toArray⟩ W;rw [show (⟨(Lib.itoa z).toArray⟩:ByteArray).data.toList=Lib.itoa z from rfl,hw] at this;exact this)
 have HP:=zh (fun W h=>Qo z hi W h);have HE:=zh he;unfold aa1;clear hd hi hw he hn;unfold dW at *;generalize Lib.itoa z=t at *
 by_cases h: -9223372036854775808≤z∧z<9223372036854775808
 ·simp only [if_pos h] at HP ⊢;go_enter Tryz.func188,Tryz.ntmps188
  go_wp2_with fail
  refine (HC.out _).mono ?_;rintro e w1 ⟨rfl,hb1⟩;have HB1:=zh hb1;clear hb1;go_wp2_with fail
  refine (HP.out _ (HE.out.later HB1.out)).mono ?_;rintro e w2 ⟨rfl,hb2⟩;have hw:=Bt HB1.out hb2;clear hb2 HB1;go_wp2_with fail
  go_ret2
  exact ⟨rfl,hw⟩
 ·simp only [if_neg h] at HP ⊢;go_enter Tryz.func188,Tryz.ntmps188
  go_wp2_with fail
  refine (HC.out _).mono ?_;rintro e w1 ⟨rfl,hb1⟩;have HB1:=zh hb1;clear hb1;go_wp2_with fail
  refine (HP.out _ (HE.out.later HB1.out)).mono ?_;rintro e w2 ⟨⟨T,p,rfl⟩,hb2⟩;have hw:=Bt HB1.out hb2;clear hb2 HB1;go_wp2_with fail
  go_ret2
  exact ⟨rfl,hw⟩
end Go.Proofs.whole
namespace Go.Proofs.fu
open Go Go.RowKit Go.SW Go.Num Go.Mem Go.Proofs Go.Dec Go.gD
def GV (z:Int):Bool:=decide (-9223372036854775808≤z∧z<9223372036854775808)
theorem Yi (z:Int) (w:World) (he:whole.Er w) :
  Calls Tryz.prog 188 #[dW z] w (fun e w'=>(∃ x k,(k=0↔GV z=true)∧(GV z=true→x=z)∧e= aj (aG #[Z I x,Z I k]))∧Below w.heap.size w w'):=by
 cases h:kI z.natAbs with
 | true =>
  refine (whole.Yj z h w he).mono ?_;rintro e w1 ⟨rfl,hb⟩;refine ⟨?_,hb⟩;unfold whole.aa1 GV
  by_cases c: -9223372036854775808≤z∧z<9223372036854775808
  ·rw [if_pos c,decide_eq_true c];exact ⟨z,0,by simp,fun _=>rfl,rfl⟩
  ·rw [if_neg c,decide_eq_false c];exact ⟨0,6,by simp,(fun h=>by cases h),rfl⟩
 | false =>
  have hn:whole (Lib.itoa z)=none:=by
   cases e:whole (Lib.itoa z) with
   | none=>rfl
   | some n =>
    obtain ⟨h1,h2⟩:=nE e;rw [← xV h1,← fK,h] at h2;cases h2
  have hr:GV z=false:=by
   unfold GV;refine decide_eq_false fun c=>?_
   have h3:kI z.natAbs=true:=by
    unfold kI;refine decide_eq_true (aI (show z.natAbs<9223372036854775809 by omega) ?_)
    decide+kernel
   rw [h] at h3;cases h3
  have HC:=zh (fun W=>Di (s:=⟨(Lib.itoa z).toArray⟩) hn W);rw [hr];clear hn hr h;unfold dW;generalize Lib.itoa z=t at *;go_enter Tryz.func188,Tryz.ntmps188
  go_wp2_with fail
  refine (HC.out _).mono ?_;rintro e w1 ⟨rfl,hb1⟩;go_wp2_with fail
  go_ret2
  exact ⟨⟨0,10,by simp,(fun h=>by cases h),rfl⟩,hb1⟩
theorem Xe (N:Int) (d:Nat):(dH.jy N d).natAbs≤2*N.natAbs+d:=by
 unfold dH.jy;have h1:=Int.natAbs_ediv_le_natAbs (2*N+(d:Int)) (2*(d:Int));have h2:=Int.natAbs_add_le (2*N) (d:Int);rw [Int.natAbs_mul,Int.natAbs_natCast] at h2;omega
theorem Ru (s t:ByteArray) (k:Int) (h:rd ⟨s,t⟩=none) (w:World) :
  Calls Tryz.prog 114 #[au #[O s,O t],Z I k] w (fun e w'=>e= aj (aG #[Z I 0,Z I 20])∧Below w.heap.size w w'):=by
 have HR:=zh (iA h);clear h;go_enter Tryz.func114,Tryz.ntmps114
 go_wp2_with fail
 refine (HR.out _).mono ?_;rintro e v1 ⟨rfl,hc1⟩;have BR:=aA.later (aA.new _ _ _) hc1;have dV:=BR.cell;have dU:=BR.free;have jI:=BR.lt;go_wp2_with fail
 go_ret2
 exact ⟨rfl,aF⟩
theorem Rt (s t:ByteArray) (k:Nat) (q:Rat) (h:rd ⟨s,t⟩=some q) (k1:1≤k) (k2:(k:Int)≤1000000000000) (w:World) (ht:jH.Pow w) (he:whole.Er w) :
  Calls Tryz.prog 114 #[au #[O s,O t],Z I (k:Int)] w (fun e w'=>e= aj (if GV (dH.jy (q.num*(k:Int)) q.den) then aG #[Z I (dH.jy (q.num*(k:Int)) q.den),Z I 0] else aG #[Z I 0,Z I 6])∧Below w.heap.size w w'):=by
 have HR:=zh (gV h);have KP:=jJ (nT h).2;have HK1:Hid (sz 1000000000 k≤1000000):=zh (by have:=cO (B:=1000000000) zo 2 k zo;omega);have HKN:Hid (sz 1000000000 q.num.natAbs≤1000000):=zh (ay KP.1 zo);have HKD:Hid (sz 1000000000 q.den≤1000000):=zh (ay KP.2 zo)
 have HZ:Hid (sz 1000000000 (dH.jy (q.num*(k:Int)) q.den).natAbs≤1099511627776):=by
  refine zh ?_;have h1:=gu (B:=1000000000) zo (Xe (q.num*(k:Int)) q.den);have h2:=vU (B:=1000000000) zo (2*(q.num*(k:Int)).natAbs) q.den;have h3:=kR (B:=1000000000) zo 2 (q.num*(k:Int)).natAbs;have h4:=kR (B:=1000000000) zo q.num.natAbs k;have h5:=cO (B:=1000000000) zo 1 2 zo;rw [← Int.natAbs_natCast k,← Int.natAbs_mul,Int.natAbs_natCast k] at h4;have:=HK1.out;have:=HKN.out;have:=HKD.out;omega
 have HT:=zh ht;have HE:=zh he;have g1:decide ((k:Int)<1)=false:=decide_eq_false zo;have g2:decide ((1000000000000:Int)<(k:Int))=false:=decide_eq_false zo
 have g3:IntKind.u64.wrap (k:Int)=(k:Int):=by
  simp [IntKind.wrap,IntKind.bits,IntKind.signed]
  omega
 obtain ⟨z,Ez⟩:∃ y:Int,Hid (dH.jy (q.num*(k:Int)) q.den=y):=⟨_,zh rfl⟩;rw [Ez.out] at HZ ⊢;obtain ⟨R,ER⟩:∃ y:Value,Hid ((if GV z then aG #[Z I z,Z I 0] else aG #[Z I 0,Z I 6]:Value)=y):=⟨_,zh rfl⟩;rw [ER.out];have HK2:Hid (k≤18446744073709551615):=zh zo;clear ht he h KP k1 k2;go_enter Tryz.func114,Tryz.ntmps114
 go_wp2_with fail
 refine (HR.out _).mono ?_;rintro e v1 ⟨v,rfl,hc1,hv⟩;obtain ⟨Au,RS,AL,DU,VO,ED,rfl,Hq,tC⟩:=hv;replace Hq:=zh Hq;replace tC:=zh tC;have BR:=aA.later (aA.new _ _ _) hc1;have dV:=BR.cell;have dU:=BR.free;have jI:=BR.lt;go_wp2_with fail
 refine aJ [(.read,0),(.pure,1),(.pure,2),(.ext,3),(.ext,4),(.ext,5),(.ext,6),(.pure,7),(.pure,8),(.pure,9),(.fin,10),(.fin,11)] zk zk zR zP ?_;refine zV ?_;refine aS rfl rfl (fun w3 hb3 J hJ=>?_);go_simp;replace Hq:=zh (bW.carry Hq.out aW hb3);replace tC:=zh (bW.carry tC.out aW hb3);refine (mW k _ HK2.out).mono ?_;rintro e v3 ⟨v,rfl,hc3,hv⟩;obtain ⟨DW,VP,EF,rfl⟩:=hv.slice;have Hs:=zh hv;clear hv;replace Hq:=zh (bW.later Hq.out hc3);replace tC:=zh (bW.later tC.out hc3);refine hJ _ _ hc3 ?_;clear hJ J;refine aS rfl rfl (fun w4 hb4 J hJ=>?_);go_simp;refine ((Xc _ _ q k _ (gJ.of aW aW) aW HKN.out HKD.out HK1.out).mono (by rw [Ez.out];exact fun _ _ h=>h)).mono ?_;rintro e v4 ⟨v,rfl,hc4,hv⟩;obtain ⟨aL7,lHn,aQ5,rfl,Hn⟩:=hv;replace Hn:=zh Hn;refine hJ _ _ hc4 ?_;clear hJ J;refine aS rfl rfl (fun w5 hb5 J hJ=>?_);go_simp
 refine (Og _ z _ (fD.gG aW) HZ.out (HT.out.later aF)).mono ?_;rintro e v5 ⟨rfl,oH⟩;refine hJ _ _ oH ?_;clear hJ J;refine aS rfl rfl (fun w6 hb6 J hJ=>?_);go_simp;refine (Yi z _ (HE.out.later aF)).mono ?_;rintro e v6 ⟨⟨x,c,h1,h2,rfl⟩,hc6⟩;refine hJ _ _ hc6 ?_;clear hJ J;refine zV ?_;refine dA [_,_] rfl (fun w7 jP=>?_);cases hz:GV z with
 | true =>
  obtain rfl:=h1.2 hz;obtain rfl:=h2 hz;clear h1 h2;have hR: aG #[Z I x,Z I 0]=R:=by rw [← ER.out,hz];rfl
  go_wp2_with fail
  go_ret2
  exact ⟨congrArg Ending.returned hR,aF⟩
 | false =>
  have hc:decide (c=0)=false:=decide_eq_false fun e=>by rw [h1.1 e] at hz;cases hz
  have hn:¬ c=0:=of_decide_eq_false hc;clear h1 h2;have hR: aG #[Z I 0,Z I 6]=R:=by rw [← ER.out,hz];rfl
  go_wp2_with fail
  all_goals go_ret2
  all_goals exact ⟨congrArg Ending.returned hR,aF⟩
theorem Yh (n d:Int) (hl1:(Lib.decDigits n.natAbs).length≤600) (hl2:(Lib.decDigits d.natAbs).length≤600) (w:World) (ht:jH.Pow w) :
  Calls Tryz.prog 192 #[O ⟨(Lib.itoa n).toArray⟩,O ⟨(Lib.itoa d).toArray⟩] w (fun e w'=>e= aj (Fr.res (qM n d))∧Below w.heap.size w w'):=by
 have HC:=zh (kP (s:=⟨(Lib.itoa n).toArray⟩) (fT hl1));have HD:=zh (kP (s:=⟨(Lib.itoa d).toArray⟩) (fT hl2));have Za:=zh hl1;have HL2:=zh hl2;have S1:=kH (fK.2 hl1);have S2:=kH (fK.2 hl2);have HT:=zh ht;clear ht hl1 hl2
 by_cases h0:d=0
 ·have e:Fr.res (qM n d)= aG #[au #[O ⟨#[]⟩,O ⟨#[]⟩],Z I 7]:=by unfold qM;rw [if_pos h0];rfl
  rw [e];have hz:decide (d.natAbs=0)=true:=by simp;omega
  have HZ:=zh hz;clear e h0 hz S1 S2;go_enter Tryz.func192,Tryz.ntmps192
  go_wp2_with fail
  refine (HC.out _).mono ?_;rintro e v1 ⟨rfl,hc1⟩;have BR:=aA.later (aA.new _ _ _) hc1;have dV:=BR.cell;have dU:=BR.free;have jI:=BR.lt;go_wp2_with fail
  refine (HD.out _).mono ?_;rintro e v2 ⟨rfl,hc2⟩;replace BR:=aA.later (BR) hc2;replace dV:=BR.cell;replace dU:=BR.free;replace jI:=BR.lt;go_wp2_with fail
  refine (jU n Za.out _).mono ?_;rintro e v3 ⟨v,rfl,hc3,hv⟩;obtain ⟨WL,lHN,XQ,rfl,HN⟩:=hv;replace HN:=zh HN;replace BR:=aA.later (BR) hc3;replace dV:=BR.cell;replace dU:=BR.free;replace jI:=BR.lt;go_wp2_with fail
  refine (jU d HL2.out _).mono ?_;rintro e v4 ⟨v,rfl,hc4,hv⟩;obtain ⟨WM,lHM,XR,rfl,HM⟩:=hv;replace HM:=zh HM;replace BR:=aA.later (BR) hc4;replace dV:=BR.cell;replace dU:=BR.free;replace jI:=BR.lt;go_wp2_with fail
  refine (iK _ d.natAbs _ aW).mono ?_;rintro e v5 ⟨rfl,rfl⟩;rw [HZ.out];go_wp2_with fail
  refine bH rfl rfl bf Tryz.underlying32 rfl zk ?_;exact ⟨rfl,aF⟩
 ·have e:qM n d=wr (mkRat (iV n.natAbs (!(decide (n<0) == decide (d<0)))) d.natAbs):=by unfold qM;rw [if_neg h0,Xf n d h0]
  rw [e];have hz:decide (d.natAbs=0)=false:=by simp;omega
  have HZ:=zh hz;have hdp:0<d.natAbs:=by omega
  have HDP:=zh hdp;obtain ⟨f,Ef⟩:∃ y:Bool,Hid (Bool.not (decide (n<0) == decide (d<0))=y):=⟨_,zh rfl⟩;obtain ⟨s,Es⟩:∃ y:Int,Hid (iV n.natAbs f=y):=⟨_,zh rfl⟩;rw [Ef.out,Es.out];have hs:sz 1000000000 s.natAbs≤67:=by rw [← Es.out,kG];exact S1
  have KS:=zh (ay hs (show 67≤549755813888 by omega));have KD:=zh (ay S2 (show 67≤549755813888 by omega))
  have KQ:Hid (jw 1000000 (mkRat s d.natAbs)):=by
   have hp:=tY s hdp;refine zh ⟨?_,?_⟩
   ·rw [hp.1,kG];exact ay kE zo
   ·rw [hp.2];exact ay kE zo
  obtain ⟨q,Eq⟩:∃ y:Rat,Hid (mkRat s d.natAbs=y):=⟨_,zh rfl⟩;rw [Eq.out] at KQ ⊢;obtain ⟨x,Ex⟩:∃ y:FrI,Hid (wr q=y):=⟨_,zh rfl⟩;rw [Ex.out];clear e;obtain ⟨⟨s1,t1⟩,e⟩:=x;rw [qy];clear h0 hz hdp hs S1 S2;go_enter Tryz.func192,Tryz.ntmps192
  go_wp2_with fail
  refine (HC.out _).mono ?_;rintro e v1 ⟨rfl,hc1⟩;have BR:=aA.later (aA.new _ _ _) hc1;have dV:=BR.cell;have dU:=BR.free;have jI:=BR.lt;go_wp2_with fail
  refine (HD.out _).mono ?_;rintro e v2 ⟨rfl,hc2⟩;replace BR:=aA.later (BR) hc2;replace dV:=BR.cell;replace dU:=BR.free;replace jI:=BR.lt;go_wp2_with fail
  refine (jU n Za.out _).mono ?_;rintro e v3 ⟨v,rfl,hc3,hv⟩;obtain ⟨WL,lHN,XQ,rfl,HN⟩:=hv;replace HN:=zh HN;replace BR:=aA.later (BR) hc3;replace dV:=BR.cell;replace dU:=BR.free;replace jI:=BR.lt;go_wp2_with fail
  refine (jU d HL2.out _).mono ?_;rintro e v4 ⟨v,rfl,hc4,hv⟩;obtain ⟨WM,lHM,XR,rfl,HM⟩:=hv;replace HM:=zh HM;replace HN:=zh (bW.later HN.out hc4);replace BR:=aA.later (BR) hc4;replace dV:=BR.cell;replace dU:=BR.free;replace jI:=BR.lt;go_wp2_with fail
  refine (iK _ d.natAbs _ aW).mono ?_;rintro e v5 ⟨rfl,rfl⟩;rw [HZ.out];go_wp2_with fail
  refine aJ [(.pure,0),(.read,1),(.pure,2),(.read,3),(.pure,4),(.read,5),(.pure,6),(.pure,8),(.read,9),(.ext,7),(.ext,10),(.ext,11),(.pure,12),(.pure,13),(.fin,14),(.fin,15)] zk zk zR zP ?_;refine zV ?_;refine aS rfl rfl (fun w6 hb6 J hJ=>?_);go_simp;replace HM:=zh (bW.carry HM.out aW hb6);replace BR:aA _ (w.heap.size) _ _:=aA.later bf hb6;(try simp only [List.setIfInBounds_toArray,aM,aN] at BR);replace dV:=BR.cell;replace dU:=BR.free;replace jI:=BR.lt;refine ((fO _ n.natAbs _ _ aW).mono (by rw [show (Bool.not (decide (n<0) == decide (d<0)))=f from Ef.out,Es.out];exact fun _ _ h=>h)).mono ?_;rintro e v6 ⟨v,rfl,hc6,hv⟩;obtain ⟨DW,VP,EF,rfl,Hs⟩:=hv;replace Hs:=zh Hs;replace HM:=zh (bW.later HM.out hc6);replace BR:=aA.later (BR) hc6;replace dV:=BR.cell;replace dU:=BR.free;replace jI:=BR.lt;refine hJ _ _ hc6 ?_
  clear hJ J;refine aS rfl rfl (fun w7 jP J hJ=>?_);go_simp;replace HM:=zh (bW.later HM.out jP);replace Hs:=zh (bW.later Hs.out jP);replace BR:=aA.later (BR) jP;replace dV:=BR.cell;replace dU:=BR.free;replace jI:=BR.lt;refine ((Ls _ _ s d.natAbs _ (fD.gG aW) aW HDP.out KS.out KD.out).mono (by rw [Eq.out];exact fun _ _ h=>h)).mono ?_;rintro e v7 ⟨v,rfl,G5,hv⟩;obtain ⟨Au,RS,AL,DU,VO,ED,rfl,Hq,tC⟩:=hv;replace Hq:=zh Hq;replace tC:=zh tC;replace HM:=zh (bW.later HM.out G5);replace Hs:=zh (bW.later Hs.out G5);replace BR:=aA.later (BR) G5;replace dV:=BR.cell;replace dU:=BR.free;replace jI:=BR.lt;refine hJ _ _ G5 ?_;clear hJ J;refine aS rfl rfl (fun w8 Iw J hJ=>?_);go_simp;replace BR:=aA.later (BR) Iw;replace dV:=BR.cell;replace dU:=BR.free;replace jI:=BR.lt
  refine ((kT _ q _ (gJ.of aW aW) KQ.out (HT.out.later aF)).mono (by rw [Ex.out,qy];exact fun _ _ h=>h)).mono ?_;rintro e v8 ⟨rfl,hc8⟩;replace BR:=aA.later (BR) hc8;replace dV:=BR.cell;replace dU:=BR.free;replace jI:=BR.lt;refine hJ _ _ hc8 ?_;clear hJ J;refine zV ?_;refine dA [_,_] rfl (fun w9 sZ=>?_);replace BR:=aA.later (BR) sZ;replace dV:=BR.cell;replace dU:=BR.free;replace jI:=BR.lt;go_wp2_with fail
  refine bH rfl rfl bf Tryz.underlying32 rfl zk ?_;exact ⟨rfl,aF⟩
theorem O4 (z:Int) (h0: -9223372036854775808≤z) (h1:z≤9223372036854775807):(Lib.decDigits z.natAbs).length≤600 :=
 ay (lS 19 z.natAbs zo zo) zo
theorem oC (n d:Int) (n0: -9223372036854775808≤n) (n1:n≤9223372036854775807) (d0: -9223372036854775808≤d) (d1:d≤9223372036854775807) (w:World) (ht:jH.Pow w) :
  Calls Tryz.prog 115 #[Z I n,Z I d] w (fun e w'=>e= aj (Fr.res (qM n d))∧Below w.heap.size w w'):=by
 have H1:=zh (fun w ht=>whole.zZ n n0 n1 w ht);have H2:=zh (fun w ht=>whole.zZ d d0 d1 w ht);have H3:=zh (fun w ht=>Yh n d (O4 n n0 n1) (O4 d d0 d1) w ht);have HT:=zh ht;clear ht n0 n1 d0 d1;obtain ⟨x,Ex⟩:∃ y:FrI,Hid (qM n d=y):=⟨_,zh rfl⟩;rw [Ex.out];obtain ⟨⟨s1,t1⟩,e⟩:=x;rw [qy];go_enter Tryz.func115,Tryz.ntmps115
 go_wp2_with fail
 refine ((H1.out _ (HT.out.later aF)).mono (fun _ _ h=>by unfold dW at h;exact h)).mono ?_;rintro e v1 ⟨rfl,hc1⟩;have BR:=aA.later (aA.new _ _ _) hc1;have dV:=BR.cell;have dU:=BR.free;have jI:=BR.lt;go_wp2_with fail
 refine ((H2.out _ (HT.out.later aF)).mono (fun _ _ h=>by unfold dW at h;exact h)).mono ?_;rintro e v2 ⟨rfl,hc2⟩;replace BR:=aA.later (BR) hc2;replace dV:=BR.cell;replace dU:=BR.free;replace jI:=BR.lt;go_wp2_with fail
 refine ((H3.out _ (HT.out.later aF)).mono (by rw [Ex.out,qy];exact fun _ _ h=>h)).mono ?_;rintro e v3 ⟨rfl,hc3⟩;replace BR:=aA.later (BR) hc3;replace dV:=BR.cell;replace dU:=BR.free;replace jI:=BR.lt;go_wp2_with fail
 refine bH rfl rfl bf Tryz.underlying32 rfl zk ?_;exact ⟨rfl,aF⟩
end Go.Proofs.fu
namespace Go.Proofs.dH
open Go Go.RowKit Go.SW Go.Num Go.Mem Go.Proofs Go.Dec Go.gD
theorem Xd (z:Int) {E:Nat} (hE:0<E) (hz:z.natAbs<9223372036854775809) (hE2:E<9223372036854775809) :
  ∃ s t,Fr.res (qM z (E:Int))= aG #[au #[O s,O t],Z I 0]∧rd ⟨s,t⟩=some ((z:Rat) / ((E:Nat):Rat)):=by
 have hk:xO ((z:Rat) / ((E:Nat):Rat))=true:=by
  rw [← Rat.mkRat_eq_div];have hp:=tY z hE;have ht:9223372036854775809≤jZ 600:=by unfold jZ;decide+kernel
  unfold xO kI;rw [aK];refine ⟨decide_eq_true ?_,decide_eq_true ?_⟩
  ·rw [hp.1,kG];have:=Nat.div_le_self z.natAbs (z.natAbs.gcd E);omega
  ·rw [hp.2];have:=Nat.div_le_self E (z.natAbs.gcd E);omega
 refine ⟨(Fr.of ((z:Rat) / ((E:Nat):Rat))).n,(Fr.of ((z:Rat) / ((E:Nat):Rat))).d,?_,Oq hk⟩;unfold qM wr;rw [if_neg zo,Rat.intCast_natCast,if_pos hk];rfl
theorem ay8 (o:Int):∃ m:Int,(m=if o<0 then o else 0)∧(∀ (ts:Array TypeId) (t:TypeId) (W:World),(Builtin.min_ ts t #[Z I o,Z I 0]).run Tryz.prog W= .ok (Z I m) W):=by
 by_cases h:o<0
 ·refine ⟨o,by rw [if_pos h],fun ts t W=>?_⟩;have h1:¬ (0:Int)<o:=by omega
  rw [run_min_int2];simp [h1]
 ·refine ⟨0,by rw [if_neg h],fun ts t W=>?_⟩;rw [run_min_int2]
  by_cases h1:(0:Int)<o
  ·simp [h1]
  ·obtain rfl:o=0:=by omega
   simp
theorem ay9 (o:Int):∃ m:Int,(m=if 0<o then o else 0)∧(∀ (ts:Array TypeId) (t:TypeId) (W:World),(Builtin.max_ ts t #[Z I o,Z I 0]).run Tryz.prog W= .ok (Z I m) W):=by
 by_cases h:0<o
 ·refine ⟨o,by rw [if_pos h],fun ts t W=>?_⟩;have h1:¬ o<(0:Int):=by omega
  rw [run_max_int2];simp [h1]
 ·refine ⟨0,by rw [if_neg h],fun ts t W=>?_⟩;rw [run_max_int2]
  by_cases h1:o<(0:Int)
  ·simp [h1]
  ·obtain rfl:o=0:=by omega
   simp
theorem Dl (s t:ByteArray) (k:Int) (hk:¬ k=0) (w:World) (HN:Hid (∀ W,Below w.heap.size w W→Calls Tryz.prog 114 #[au #[O s,O t],Z I 1000000000000] W (fun e w'=>e= aj (aG #[Z I 0,Z I k])∧Below W.heap.size W w'))) :
  Calls Tryz.prog 36 #[au #[O s,O t]] w (fun e w'=>e= aj (d9 ((0,0),k))∧Below w.heap.size w w'):=by
 unfold d9;have hk0:decide (k=0)=false:=decide_eq_false hk;go_enter Tryz.func36,Tryz.ntmps36
 go_wp2_with fail
 refine (HN.out _ aF).mono ?_;rintro e v1 ⟨rfl,hc1⟩;have BR:=aA.later (aA.pV _ _ _ _) hc1;have dV:=BR.cell;have dU:=BR.free;have jI:=BR.lt;go_wp2_with fail
 refine bH rfl rfl bf Tryz.underlying40 rfl zk ?_;exact ⟨rfl,aF⟩
theorem Kk (s t s1 t1:ByteArray) (z o:Int) (w:World) (ho: -1≤o∧o≤1) (HN:Hid (∀ W,Below w.heap.size w W→Calls Tryz.prog 114 #[au #[O s,O t],Z I 1000000000000] W (fun e w'=>e= aj (aG #[Z I z,Z I 0])∧Below W.heap.size W w')))
  (HO:Hid (∀ W,Below w.heap.size w W→Calls Tryz.prog 115 #[Z I z,Z I 1000000000000] W (fun e w'=>e= aj (aG #[au #[O s1,O t1],Z I 0])∧Below W.heap.size W w')))
  (HC:Hid (∀ W,Calls Tryz.prog 19 #[au #[O s,O t],au #[O s1,O t1]] W (fun e w'=>e= aj (aG #[Z I o,Z I 0])∧Below W.heap.size W w'))) :
  Calls Tryz.prog 36 #[au #[O s,O t]] w (fun e w'=>e= aj (d9 (if iG z z then gT (z+(if o<0 then -1 else 0)) (z+(if 0<o then 1 else 0)) else ((0,0),6)))∧Below w.heap.size w w'):=by
 have HV:=zh (fun W=>nO z z W);cases hb:iG z z with
 | false =>
  rw [if_neg zi];unfold d9;rw [hb] at HV;clear hb ho;go_enter Tryz.func36,Tryz.ntmps36
  go_wp2_with fail
  refine (HN.out _ aF).mono ?_;rintro e v1 ⟨rfl,hc1⟩;have BR:=aA.later (aA.pV _ _ _ _) hc1;have dV:=BR.cell;have dU:=BR.free;have jI:=BR.lt;have B0:=aA.later (aA.alloc (aA.new _ _ _) _) hc1;have cB0:=B0.cell;have kM:=B0.free;have lB0:=B0.lt;go_wp2_with fail
  refine (HO.out _ aF).mono ?_;rintro e v2 ⟨rfl,hc2⟩;replace BR:=aA.later (BR) hc2;replace dV:=BR.cell;replace dU:=BR.free;replace jI:=BR.lt;replace B0:=aA.later (B0) hc2;replace cB0:=B0.cell;replace kM:=B0.free;replace lB0:=B0.lt;go_wp2_with fail
  refine (HC.out _).mono ?_;rintro e v3 ⟨rfl,hc3⟩;replace BR:aA _ (w.heap.size+1) _ _:=aA.later bf hc3;(try simp only [List.setIfInBounds_toArray,aM,aN] at BR);replace dV:=BR.cell;replace dU:=BR.free;replace jI:=BR.lt;go_wp2_with fail
  refine (HV.out _).mono ?_;rintro e v4 ⟨rfl,hc4⟩;replace BR:=aA.later (BR) hc4;replace dV:=BR.cell;replace dU:=BR.free;replace jI:=BR.lt;go_wp2_with fail
  refine bH rfl rfl bf Tryz.underlying40 rfl zk ?_;exact ⟨rfl,aF⟩
 | true =>
  rw [if_pos rfl];rw [hb] at HV;obtain ⟨l,hl,hmin⟩:=ay8 o;obtain ⟨m,hm,hmax⟩:=ay9 o;have el:(if o<0 then (-1:Int) else 0)=l:=by rw [hl];by_cases h:o<0<;>simp only [if_pos,if_neg,h,if_true,if_false]<;>omega
  have em:(if 0<o then (1:Int) else 0)=m:=by rw [hm];by_cases h:0<o<;>simp only [if_pos,if_neg,h,if_true,if_false]<;>omega
  rw [el,em]
  have hr: -1000000000000000000≤z∧z≤1000000000000000000:=by
   unfold iG at hb;simp only [aK,decide_eq_true_eq] at hb;omega
  have hl2: -1≤l∧l≤0:=by rw [← el];by_cases h:o<0<;>simp [h]
  have hm2:0≤m∧m≤1:=by rw [← em];by_cases h:0<o<;>simp [h]
  have w1:I.wrap (z+l)=z+l:=by simp [IntKind.wrap,IntKind.bits,IntKind.signed];omega
  have w2:I.wrap (z+m)=z+m:=by simp [IntKind.wrap,IntKind.bits,IntKind.signed];omega
  have HM:=zh (fun W=>jK (z+l) (z+m) W);clear hb ho hl hm el em hr hl2 hm2;generalize gT (z+l) (z+m)=x at *;obtain ⟨⟨x1,x2⟩,x3⟩:=x;unfold d9 at *;simp only at *;go_enter Tryz.func36,Tryz.ntmps36
  go_wp2_with fail
  refine (HN.out _ aF).mono ?_;rintro e v1 ⟨rfl,hc1⟩;have BR:=aA.later (aA.pV _ _ _ _) hc1;have dV:=BR.cell;have dU:=BR.free;have jI:=BR.lt;have B0:=aA.later (aA.alloc (aA.new _ _ _) _) hc1;have cB0:=B0.cell;have kM:=B0.free;have lB0:=B0.lt;go_wp2_with fail
  refine (HO.out _ aF).mono ?_;rintro e v2 ⟨rfl,hc2⟩;replace BR:=aA.later (BR) hc2;replace dV:=BR.cell;replace dU:=BR.free;replace jI:=BR.lt;replace B0:=aA.later (B0) hc2;replace cB0:=B0.cell;replace kM:=B0.free;replace lB0:=B0.lt;go_wp2_with fail
  refine (HC.out _).mono ?_;rintro e v3 ⟨rfl,hc3⟩;replace BR:aA _ (w.heap.size+1) _ _:=aA.later bf hc3;(try simp only [List.setIfInBounds_toArray,aM,aN] at BR);replace dV:=BR.cell;replace dU:=BR.free;replace jI:=BR.lt;go_wp2_with fail
  refine (HV.out _).mono ?_;rintro e v4 ⟨rfl,hc4⟩;replace BR:=aA.later (BR) hc4;replace dV:=BR.cell;replace dU:=BR.free;replace jI:=BR.lt;go_wp2_with fail
  refine (HM.out _).mono ?_;rintro e v5 ⟨rfl,oH⟩;replace BR:=aA.later (BR) oH;replace dV:=BR.cell;replace dU:=BR.free;replace jI:=BR.lt;go_wp2_with fail
  refine bH rfl rfl bf Tryz.underlying40 rfl zk ?_;exact ⟨rfl,aF⟩
def jl (a:Fr):(Int × Int) × Int:=match rd a with
 | some q=>gT (Gr (q.num*1000000000000) q.den false) (Gr (q.num*1000000000000) q.den true)
 | none=>((0,0),20)
theorem zI (a:Fr) (w:World) (ht:jH.Pow w) (he:whole.Er w) :
  Calls Tryz.prog 36 #[a.v] w (fun e w'=>e= aj (d9 (jl a))∧Below w.heap.size w w'):=by
 obtain ⟨s,t⟩:=a
 show Calls _ _ #[au #[O s,O t]] _ _
 unfold jl;cases h:rd ⟨s,t⟩ with
 | none=>exact Dl s t 20 zo w (zh fun W _=>fu.Ru s t 1000000000000 h W)
 | some q =>
  have hd:0<q.den:=q.den_pos;simp only;rw [← ag2 _ hd];have hn:∀ W,Below w.heap.size w W→ _:=fun W hW=>fu.Rt s t 1000000000000 q h zo zo W (ht.later hW) (he.later hW);have e1:((1000000000000:Nat):Int)=1000000000000:=rfl;rw [e1] at hn;unfold arE;unfold fu.GV at hn;generalize hz:jy (q.num*1000000000000) q.den=z at *
  by_cases c: -9223372036854775808≤z∧z<9223372036854775808
  ·rw [if_pos c];rw [decide_eq_true c,if_pos rfl] at hn;obtain ⟨s1,t1,hof,hrd⟩:=Xd z (E:=1000000000000) zo zo zo;rw [e1] at hof;have hc:=fun W=>fu.VG ⟨s,t⟩ ⟨s1,t1⟩ W;have hce:Hw ⟨s,t⟩ ⟨s1,t1⟩=(oK q ((z:Rat) / ((1000000000000:Nat):Rat)),0):=by unfold Hw;rw [h,hrd]
   rw [hce,QW q z zo,e1] at hc;have ao3:∀ W,Below w.heap.size w W→ _:=fun W hW=>fu.oC z 1000000000000 zo zo zo zo W (ht.later hW);rw [hof] at ao3;refine (Kk s t s1 t1 z _ w ?_ (zh hn) (zh ao3) (zh hc)).mono ?_
   ·split
    ·omega
    ·split<;>omega
   ·rintro e w1 ⟨rfl,hb⟩;refine ⟨?_,hb⟩
    congr 2
    by_cases h1:q.num*1000000000000<z*(q.den:Int)
    ·have h2:¬ z*(q.den:Int)<q.num*1000000000000:=by omega
     simp [h1,h2]
    ·by_cases h2:z*(q.den:Int)<q.num*1000000000000
     ·simp [h1,h2]
     ·simp [h1,h2]
  ·rw [if_neg c];rw [decide_eq_false c,if_neg zi] at hn;exact Dl s t 6 zo w (zh hn)
theorem ML (n:Int) (s t:ByteArray) (w:World) (h1: -9223372036854775808≤n) (h2:n≤9223372036854775807) (ht:jH.Pow w) (he:qM n 1000000000000=(⟨s,t⟩,0)) :
  Calls Tryz.prog 196 #[Z I n] w (fun e w'=>e= aj (aG #[au #[O s,O t],Z I 0])∧Below w.heap.size w w'):=by
 have H:=zh (fun W (h:jH.Pow W)=>fu.oC n 1000000000000 h1 h2 zo zo W h);rw [he] at H;unfold Fr.res Fr.v at H;have HP:=zh ht;clear he ht h1 h2;go_enter Tryz.func196,Tryz.ntmps196
 go_wp2_with fail
 obtain ⟨wx,EW,hz,HR⟩:=wR w #[O ⟨#[]⟩,O ⟨#[]⟩] 32;rw [EW];clear EW;refine (H.out _ (HP.out.later hz)).mono ?_;rintro e w1 ⟨rfl,hb⟩;have hr:=HR.out.later hb;have cr:=hr.cell;have fr:=hr.free;have hw:=Bt hz hb;go_wp2_with fail
 refine bH rfl rfl ((hr.set 0 _).set 1 _) Tryz.underlying32 rfl zk ?_;exact ⟨rfl,(hw.setCell (p:=⟨w.heap.size,0,none⟩) (aD _) _).setCell (p:=⟨w.heap.size,1,none⟩) (aD _) _⟩
end Go.Proofs.dH
