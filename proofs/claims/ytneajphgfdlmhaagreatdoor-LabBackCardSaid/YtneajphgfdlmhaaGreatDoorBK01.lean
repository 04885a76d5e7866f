/- Lemmas for the proof. No condition. -/
import Derived.Test.YtneajphgfdlmhaaGreatDoorTB01
import Derived.Test.YtneajphgfdlmhaaGreatDoorTB02
import Derived.Test.YtneajphgfdlmhaaGreatDoorTB03
import Derived.Test.YtneajphgfdlmhaaGreatDoorTB04
import Derived.Test.YtneajphgfdlmhaaGreatDoorTB05
import Derived.Test.YtneajphgfdlmhaaGreatDoorTB06
import Derived.Test.YtneajphgfdlmhaaGreatDoorTB07
import Derived.Test.YtneajphgfdlmhaaGreatDoorTB08
import Derived.Test.YtneajphgfdlmhaaGreatDoorTB09
import Derived.Test.YtneajphgfdlmhaaGreatDoorTB10
import Derived.Test.YtneajphgfdlmhaaGreatDoorTB11
set_option linter.unusedVariables false
set_option linter.unusedSimpArgs false
set_option maxRecDepth 100000
set_option maxHeartbeats 16000000
namespace Go.Fx
open Go Go.RowKit Go.SW Go.Mem
structure Bas (w w0:World) (H:List Nat):Prop where
 below:Below w.heap.size w w0
 old:∀ b∈H,w.heap.size≤b
theorem Bas.nil (w:World):Bas w w []:=⟨Below.refl _ _,fun _ h=>by cases h⟩
section
variable {P:Program} {n:Nat} {R:Post} {w0 w1:World} {H0:List Nat} {p:Pos} {S:Sl} {L L0:Mm}
theorem Bas.at {w W:World} (B:Bas w w0 H0) (M:Mem w0 H0 L W):Below w.heap.size w W:=M.wV.below B.below B.old
end
end Go.Fx
namespace Go.Proofs.matrix
open Go Go.Num Go.eF Go.Proofs.aL Go.Proofs.aN Go.Proofs.aF
theorem Bu (z:Int) (q:Rat):un z≤q↔(z:Rat)≤q*((1000000000000:Int):Rat):=by
 rw [← xS z]
 constructor
 ·exact fun h=>Rat.mul_le_mul_of_nonneg_right h (Rat.le_of_lt Bp)
 ·exact fun h=>Rat.le_of_mul_le_mul_right h Bp
theorem Lg (z:Int) (q:Rat):q≤un z↔q*((1000000000000:Int):Rat)≤(z:Rat):=by
 rw [← xS z]
 constructor
 ·exact fun h=>Rat.mul_le_mul_of_nonneg_right h (Rat.le_of_lt Bp)
 ·exact fun h=>Rat.le_of_mul_le_mul_right h Bp
theorem zI {a b:Int}:un a≤un b↔a≤b:=by rw [Bu,xS,Rat.intCast_le_intCast]
theorem MK (a b:Int):un (a+b)=un a+un b:=by
 unfold un;rw [Rat.intCast_add,Rat.div_def,Rat.div_def,Rat.div_def,Rat.add_mul]
def In (b:Int × Int) (q:Rat) (M:Int):Prop:=un b.1≤q∧q≤un b.2∧ -M≤b.1∧b.2≤M
theorem In.le {b:Int × Int} {q:Rat} {M:Int} (h:In b q M):b.1≤b.2:=zI.1 (Rat.le_trans h.1 h.2.1)
theorem Yu {x y:Int} (h: -1000000000000000000≤x) (h2:x≤y) (h3:y≤1000000000000000000):dA x y=true:=by
 unfold dA;rw [decide_eq_true h,decide_eq_true h2,decide_eq_true h3];rfl
theorem In.dA {b:Int × Int} {q:Rat} {M:Int} (h:In b q M) (hM:M≤1000000000000000000):dA b.1 b.2=true :=
 Yu (by have:=h.2.2.1;omega) h.le (by have:=h.2.2.2;omega)
theorem ak0 {s t:Int × Int} {p q:Rat} {a b:Int} (h:In s p a) (k:In t q b) (ha:0≤a) (hb:0≤b) (hM:a+b≤1000000000000000000):aL.jH s t=((s.1+t.1,s.2+t.2),0)∧In (s.1+t.1,s.2+t.2) (p+q) (a+b):=by
 have hi:In (s.1+t.1,s.2+t.2) (p+q) (a+b):=by
  obtain ⟨h1,h2,h3,h4⟩:=h;obtain ⟨k1,k2,k3,k4⟩:=k;refine ⟨?_,?_,?_,?_⟩
  ·simp only [MK];exact Rat.le_trans (Rat.add_le_add_left.2 k1) (Rat.add_le_add_right.2 h1)
  ·simp only [MK];exact Rat.le_trans (Rat.add_le_add_left.2 k2) (Rat.add_le_add_right.2 h2)
  ·show -(a+b)≤s.1+t.1
   omega
  ·show s.2+t.2≤a+b
   omega
 refine ⟨?_,hi⟩;unfold aL.jH okB dI;simp only [List.all_cons,List.all_nil,Bool.and_true,h.dA zo,k.dA zo,Bool.and_self,if_true];rw [if_pos (hi.dA hM)]
theorem XE {lo hi q:Rat} {M:Int} (h1:lo≤q) (h2:q≤hi) (h3: -M≤Ti (lo*((1000000000000:Int):Rat))) (h4: -(Ti (-(hi*((1000000000000:Int):Rat))))≤M) (hM:M≤1000000000000000000):∃ b,ig lo hi=(b,0)∧In b q M:=by
 have hi':In (Ti (lo*((1000000000000:Int):Rat)), -(Ti (-(hi*((1000000000000:Int):Rat))))) q M:=by
  refine ⟨?_,?_,h3,h4⟩
  ·rw [Bu,mX];exact Rat.le_trans (Rat.floor_le _) (Rat.mul_le_mul_of_nonneg_right h1 (Rat.le_of_lt Bp))
  ·rw [Lg,Rat.intCast_neg];have:=Rat.floor_le (-(hi*((1000000000000:Int):Rat)));rw [← mX] at this;have h5:=Rat.neg_le_neg this;rw [Rat.neg_neg] at h5;exact Rat.le_trans (Rat.mul_le_mul_of_nonneg_right h2 (Rat.le_of_lt Bp)) h5
 refine ⟨_,?_,hi'⟩;unfold ig dI;rw [if_pos (hi'.dA hM)]
end Go.Proofs.matrix
namespace Go.Proofs.aL
open Go Go.RowKit Go.SW Go.Num Go.Mem Go.Proofs Go.eF Go.Proofs.matrix Go.Proofs.aN Go.Proofs.aF
theorem yu {a b c:Rat} (h:a≤b) (hc:c≤0):b*c≤a*c:=by
 have h1:0≤ -c:=by grind
 have h2:=Rat.mul_le_mul_of_nonneg_right h h1
 grind
theorem seg {c x d:Rat} (y:Rat) (h1:c≤x) (h2:x≤d):(c*y≤x*y∨d*y≤x*y)∧(x*y≤c*y∨x*y≤d*y):=by
 rcases Rat.le_total (a:=0) (b:=y) with hy|hy
 ·exact ⟨.inl (Rat.mul_le_mul_of_nonneg_right h1 hy),.inr (Rat.mul_le_mul_of_nonneg_right h2 hy)⟩
 ·exact ⟨.inr (yu h2 hy),.inl (yu h1 hy)⟩
theorem aX3 {a b x c d y:Rat} (h1:a≤x) (h2:x≤b) (k1:c≤y) (k2:y≤d) :
  (a*c≤x*y∨a*d≤x*y∨b*c≤x*y∨b*d≤x*y)∧(x*y≤a*c∨x*y≤a*d∨x*y≤b*c∨x*y≤b*d):=by
 have s:=seg y h1 h2;have ta:=seg a k1 k2;have tb:=seg b k1 k2;rw [Rat.mul_comm c a,Rat.mul_comm d a,Rat.mul_comm y a] at ta;rw [Rat.mul_comm c b,Rat.mul_comm d b,Rat.mul_comm y b] at tb
 constructor
 ·rcases s.1 with h|h
  ·rcases ta.1 with g|g
   ·exact .inl (Rat.le_trans g h)
   ·exact .inr (.inl (Rat.le_trans g h))
  ·rcases tb.1 with g|g
   ·exact .inr (.inr (.inl (Rat.le_trans g h)))
   ·exact .inr (.inr (.inr (Rat.le_trans g h)))
 ·rcases s.2 with h|h
  ·rcases ta.2 with g|g
   ·exact .inl (Rat.le_trans h g)
   ·exact .inr (.inl (Rat.le_trans h g))
  ·rcases tb.2 with g|g
   ·exact .inr (.inr (.inl (Rat.le_trans h g)))
   ·exact .inr (.inr (.inr (Rat.le_trans h g)))
def Wi (M:Int) (v:Rat):Prop:=un (-M)≤v∧v≤un M
theorem yF (n:Int):un (-n)= -un n:=by unfold un;rw [Rat.intCast_neg,qE]
theorem Wi.dn {M:Int} {v:Rat} (h:Wi M v): -M≤Ti (v*((1000000000000:Int):Rat)):=by
 have:=sU h.1;rw [xS,Rat.floor_intCast] at this;rw [mX];exact this
theorem Wi.up {M:Int} {v:Rat} (h:Wi M v): -(Ti (-(v*((1000000000000:Int):Rat))))≤M:=by
 have:=vF h.2;rw [xS,← Rat.intCast_neg,Rat.floor_intCast] at this;rw [mX];omega
theorem _root_.Go.Proofs.matrix.In.lo {b:Int × Int} {q:Rat} {M:Int} (h:In b q M):un b.1≤q:=h.1
theorem _root_.Go.Proofs.matrix.In.hi {b:Int × Int} {q:Rat} {M:Int} (h:In b q M):q≤un b.2:=h.2.1
theorem _root_.Go.Proofs.matrix.In.wi {b:Int × Int} {q:Rat} {M:Int} (h:In b q M):Wi M q:=⟨Rat.le_trans (zI.2 h.2.2.1) h.1,Rat.le_trans h.2.1 (zI.2 h.2.2.2)⟩
theorem _root_.Go.Proofs.matrix.In.mono {b:Int × Int} {q:Rat} {M N:Int} (h:In b q M) (k:M≤N):In b q N:=⟨h.1,h.2.1,by have:=h.2.2.1;omega,by have:=h.2.2.2;omega⟩
theorem Pp {p0 p1 p2 p3 q:Rat} {M:Int} (h1:p0≤q∨p1≤q∨p2≤q∨p3≤q) (h2:q≤p0∨q≤p1∨q≤p2∨q≤p3) (w0:Wi M p0) (w1:Wi M p1) (w2:Wi M p2) (w3:Wi M p3) (hM:M≤1000000000000000000) :
  ∃ b,ig (gH p0 [p1,p2,p3]) (dD p0 [p1,p2,p3])=(b,0)∧In b q M:=by
 obtain ⟨m1,m2,m3,m4,m5⟩:=aK0 p0 p1 p2 p3;obtain ⟨k1,k2,k3,k4,k5⟩:=ak9 p0 p1 p2 p3;generalize gH p0 [p1,p2,p3]=lo at *;generalize dD p0 [p1,p2,p3]=hi at *;refine XE ?_ ?_ ?_ ?_ hM
 ·rcases h1 with h|h|h|h
  ·exact Rat.le_trans m2 h
  ·exact Rat.le_trans m3 h
  ·exact Rat.le_trans m4 h
  ·exact Rat.le_trans m5 h
 ·rcases h2 with h|h|h|h
  ·exact Rat.le_trans h k2
  ·exact Rat.le_trans h k3
  ·exact Rat.le_trans h k4
  ·exact Rat.le_trans h k5
 ·rcases m1 with rfl|rfl|rfl|rfl
  ·exact w0.dn
  ·exact w1.dn
  ·exact w2.dn
  ·exact w3.dn
 ·rcases k1 with rfl|rfl|rfl|rfl
  ·exact w0.up
  ·exact w1.up
  ·exact w2.up
  ·exact w3.up
theorem Kv {x y z:Int} (h:x*y≤z*1000000000000):un x*un y≤un z:=by
 rw [Lg,MJ];have e:=Bp;have h2:((x*y:Int):Rat)≤((z*1000000000000:Int):Rat):=Rat.intCast_le_intCast.2 h;rw [Rat.intCast_mul z] at h2;have h3:=Rat.mul_le_mul_of_nonneg_right h2 (Rat.le_of_lt (Rat.inv_pos.2 e));rw [Rat.div_def]
 rwa [Rat.mul_assoc (z:Rat),Rat.mul_inv_cancel _ WL,Rat.mul_one] at h3
theorem YU {x y z:Int} (h:z*1000000000000≤x*y):un z≤un x*un y:=by
 have:=Kv (x:= -x) (y:=y) (z:= -z) (by rw [Int.neg_mul,Int.neg_mul];omega);rw [yF,yF,Rat.neg_mul] at this;have:=Rat.neg_le_neg this
 rwa [Rat.neg_neg,Rat.neg_neg] at this
theorem Nu {x y A B M:Int} (hx:x.natAbs≤A) (hy:y.natAbs≤B) (h:A*B≤M*1000000000000):Wi M (un x*un y):=by
 have h1:(x*y).natAbs≤A*B:=by
  rw [Int.natAbs_mul,Int.natCast_mul];exact Int.mul_le_mul hx hy zo zo
 exact ⟨YU zo,Kv zo⟩
theorem aY5 {s t:Int × Int} (h:dA s.1 s.2=true) (k:dA t.1 t.2=true):okB [s,t]=true:=by
 unfold okB;simp only [List.all_cons,List.all_nil,Bool.and_true,h,k]
theorem bj5 {s:Int × Int} (h:dA s.1 s.2=true):okB [s]=true:=by
 unfold okB;simp only [List.all_cons,List.all_nil,Bool.and_true,h]
theorem NH {s t:Int × Int} {p q:Rat} {A B:Int} (M:Int) (h:In s p A) (k:In t q B) (hA:A≤1000000000000000000) (hB:B≤1000000000000000000) (hm:A*B≤M*1000000000000) (hM:M≤1000000000000000000) :
  ∃ b,aL.Ai s t=(b,0)∧In b (p*q) M:=by
 have e:aL.Ai s t=ig (gH (un s.1*un t.1) [un s.1*un t.2,un s.2*un t.1,un s.2*un t.2]) (dD (un s.1*un t.1) [un s.1*un t.2,un s.2*un t.1,un s.2*un t.2]):=by
  rw [Kz];unfold aL.Ai;rw [if_pos (aY5 (h.dA hA) (k.dA hB))]
 have hs:=h.le;have ht:=k.le;obtain ⟨h1,h2,h3,h4⟩:=h;obtain ⟨k1,k2,k3,k4⟩:=k;rw [e];exact Pp (aX3 h1 h2 k1 k2).1 (aX3 h1 h2 k1 k2).2 (Nu zo zo hm) (Nu zo zo hm) (Nu zo zo hm) (Nu zo zo hm) hM
theorem EO {s t:Int × Int} {p q:Rat} {A B:Int} (h:In s p A) (k:In t q B) (hA:0≤A) (hB:0≤B) (hM:A+B≤1000000000000000000):aL.qY s t=((s.1 - t.2,s.2 - t.1),0)∧In (s.1 - t.2,s.2 - t.1) (p - q) (A+B):=by
 have hi:In (s.1 - t.2,s.2 - t.1) (p - q) (A+B):=by
  obtain ⟨h1,h2,h3,h4⟩:=h;obtain ⟨k1,k2,k3,k4⟩:=k;have e1:un (s.1 - t.2)=un s.1 - un t.2:=by rw [Int.sub_eq_add_neg,MK,yF,Rat.sub_eq_add_neg]
  have e2:un (s.2 - t.1)=un s.2 - un t.1:=by rw [Int.sub_eq_add_neg,MK,yF,Rat.sub_eq_add_neg]
  refine ⟨?_,?_,?_,?_⟩
  ·simp only [e1];grind
  ·simp only [e2];grind
  ·show -(A+B)≤s.1 - t.2
   omega
  ·show s.2 - t.1≤A+B
   omega
 refine ⟨?_,hi⟩;unfold aL.qY dI;rw [if_pos (aY5 (h.dA zo) (k.dA zo)),if_pos (hi.dA hM)]
theorem xE {s:Int × Int} {p:Rat} {A:Int} (n d M:Int) (h:In s p A) (hA:A≤1000000000000000000) (hn:n.natAbs≤1000000000000) (hd:0<d) (hd2:d≤1000000000000) (hm:A*n.natAbs≤M*d) (hM:M≤1000000000000000000) :
  ∃ b,aL.nZ s n d=(b,0)∧In b (p*((n:Rat) / (d:Rat))) M:=by
 have e:aL.nZ s n d=ig (gH (un s.1*((n:Rat) / (d:Rat))) [un s.2*((n:Rat) / (d:Rat))]) (dD (un s.1*((n:Rat) / (d:Rat))) [un s.2*((n:Rat) / (d:Rat))]):=by
  rw [Ky s n d hd];unfold nZ Zh;rw [if_pos (bj5 (h.dA hA)),if_neg zo]
 have hs:=h.le;obtain ⟨h1,h2,h3,h4⟩:=h
 have wi:∀ x:Int,x.natAbs≤A→Wi M (un x*((n:Rat) / (d:Rat))):=fun x hx=>by
  have hd':(0:Rat)<(d:Rat):=Rat.intCast_pos.2 hd;have hd0:(d:Rat)≠0:=fun e=>by rw [e] at hd';exact absurd hd' zd
  have h5:(x*n).natAbs≤M*d:=by
   rw [Int.natAbs_mul,Int.natCast_mul];exact Int.le_trans (Int.mul_le_mul hx (Int.le_refl _) zo zo) hm
  have e2:un x*((n:Rat) / (d:Rat))=un (x*n) / (d:Rat):=by
   unfold un;rw [Rat.intCast_mul];have:=WL;generalize ((1000000000000:Int):Rat)=E at *
   grind
  have up:∀ y:Int,y≤M*d→un y / (d:Rat)≤un M:=fun y hy=>by
   have h6:=zI.2 hy
   have e3:un (M*d)=un M*(d:Rat):=by
    unfold un;rw [Rat.intCast_mul];have:=WL;generalize ((1000000000000:Int):Rat)=E at *
    grind
   rw [e3] at h6;have h7:=Rat.mul_le_mul_of_nonneg_right h6 (Rat.le_of_lt (Rat.inv_pos.2 hd'));rw [Rat.mul_assoc,Rat.mul_inv_cancel _ hd0,Rat.mul_one] at h7;rw [Rat.div_def];exact h7
  rw [e2];refine ⟨?_,up _ zo⟩;have:=up (-(x*n)) zo;rw [yF,← qE] at this;rw [yF]
  grind
 have t:=Pp (p0:=un s.1*((n:Rat) / (d:Rat))) (p1:=un s.2*((n:Rat) / (d:Rat))) (p2:=un s.2*((n:Rat) / (d:Rat))) (p3:=un s.2*((n:Rat) / (d:Rat))) (q:=p*((n:Rat) / (d:Rat))) (M:=M)
  ((seg _ h1 h2).1.imp id .inl) ((seg _ h1 h2).2.imp id .inl) (wi _ zo) (wi _ zo) (wi _ zo) (wi _ zo) hM
 have g1:∀ p q:Rat,gH p [q,q,q]=gH p [q]:=fun p q=>by unfold gH gH gH gH;grind
 have g2:∀ p q:Rat,dD p [q,q,q]=dD p [q]:=fun p q=>by unfold dD dD dD dD;grind
 rw [g1,g2] at t;rw [e];exact t
theorem kS {f:Fr} {q:Rat} {M:Int} (h:rd f=some q) (w:Wi M q) (hM:M≤1000000000000000000):∃ b,aL.dO f=(b,0)∧In b q M:=by
 have e:aL.dO f=ig q q:=by rw [uG];unfold aL.dO;rw [h]
 rw [e];exact XE Rat.le_refl Rat.le_refl w.dn w.up hM
theorem Wi.of {n d M:Int} (hd:0<d) (h1: -(M*d)≤n*1000000000000) (h2:n*1000000000000≤M*d):Wi M ((n:Rat) / (d:Rat)):=by
 have hd':(0:Rat)<(d:Rat):=Rat.intCast_pos.2 hd;have hd0:(d:Rat)≠0:=fun e=>by rw [e] at hd';exact absurd hd' zd
 have key:∀ a b:Int,a*d≤b*1000000000000→un a≤(b:Rat) / (d:Rat):=fun a b h=>by
  rw [Bu];refine Rat.le_of_mul_le_mul_right (c:=(d:Rat)) ?_ hd';have e:(b:Rat) / (d:Rat)*((1000000000000:Int):Rat)*(d:Rat)=(b:Rat)*((1000000000000:Int):Rat):=by grind
  rw [e];have h2:((a*d:Int):Rat)≤((b*1000000000000:Int):Rat):=Rat.intCast_le_intCast.2 h;rw [Rat.intCast_mul,Rat.intCast_mul] at h2;exact h2
 refine ⟨key _ _ (by rw [Int.neg_mul];exact h1),?_⟩;have:=key (-M) (-n) (by rw [Int.neg_mul,Int.neg_mul];omega);rw [yF,Rat.intCast_neg,← qE] at this
 grind
end Go.Proofs.aL
namespace Go.Proofs.lab
open Go Go.RowKit Go.SW Go.Num Go.Mem Go.Proofs Go.eF Go.Proofs.aL Go.Proofs.aN
def ZG:Rat:=((216:Int):Rat) / ((24389:Int):Rat)
def aE8 (s:Rat):Rat:=((841:Int):Rat) / ((108:Int):Rat)*s+((4:Int):Rat) / ((29:Int):Rat)
theorem aA4 {a b:Rat} (h:a≤b):xX a≤xX b:=sU h
theorem GJ {a b:Nat} (h:a≤b):oJ a 1 3≤oJ b 1 3:=by
 refine Nv zo ?_;have:=(tK (q:=3) zo a 1).1;refine Nat.le_trans this (Nat.mul_le_mul_right _ ?_);rw [Nat.pow_one,Nat.pow_one];exact h
theorem Nr (n d:Int) (hd:d≠0) (h:rz ((n:Rat) / (d:Rat))=true):kN n d=(Fr.of ((n:Rat) / (d:Rat)),0):=by
 unfold kN wr;rw [if_neg hd,if_pos h]
theorem aB0 {p q:Rat}:0<jA p q↔q<p:=by
 unfold jA
 by_cases c:p<q
 ·rw [if_pos c];exact ⟨fun h=>absurd h zd,fun h=>absurd (Std.lt_trans c h) Rat.lt_irrefl⟩
 ·rw [if_neg c]
  by_cases c2:q<p
  ·rw [if_pos c2];exact ⟨fun _=>c2,fun _=>by decide⟩
  ·rw [if_neg c2];exact ⟨fun h=>absurd h zd,fun h=>absurd h c2⟩
end Go.Proofs.lab
namespace Go.Proofs.lab
open Go Go.RowKit Go.SW Go.Num Go.Mem Go.Proofs Go.eF Go.Proofs.aL Go.Proofs.aN
theorem Yp {f g h:Fr} {p q r:Rat} (e1:rd f=some p) (e2:rd g=some q) (e3:rd h=some r) (h1:0≤p) (h2:0≤q) (h3:0≤r):light.vL ⟨f,g,h⟩=0:=by
 unfold light.vL light.jl.list JX oO
 have c:∀ {z:Rat},0≤z→0≤jA z 0:=fun {z} hz=>by
  unfold jA;rw [if_neg (Rat.not_lt.2 hz)];split<;>decide
 simp only [List.all_cons,List.all_nil,e1,e2,e3,Option.isSome_some,Bool.and_self,if_true,decide_eq_true (c h1),decide_eq_true (c h2),decide_eq_true (c h3)]
theorem av0 {f g h:Fr} {p q r:Rat} (e1:rd f=some p) (e2:rd g=some q) (e3:rd h=some r) (h1:0<p) (h2:0<q) (h3:0<r):light.nY ⟨f,g,h⟩=0:=by
 unfold light.nY;rw [if_pos (Yp e1 e2 e3 (Rat.le_of_lt h1) (Rat.le_of_lt h2) (Rat.le_of_lt h3))];unfold light.jl.list oO
 have c:∀ {z:Rat},0<z→jA z 0≠0:=fun {z} hz=>by
  unfold jA;rw [if_neg (Rat.not_lt.2 (Rat.le_of_lt hz)),if_pos hz]
  decide
 simp only [List.all_cons,List.all_nil,e1,e2,e3,Bool.and_self,if_true,decide_eq_true (c h1),decide_eq_true (c h2),decide_eq_true (c h3)]
end Go.Proofs.lab
namespace Go.Proofs.lab
open Go Go.RowKit Go.SW Go.Num Go.Mem Go.Proofs Go.eF Go.Proofs.aL Go.Proofs.matrix Go.Proofs.aN
section
variable {p q:Rat} {a b:Nat}
theorem Yw (hp:Hq a p) (hq:Hq b q) (h:a+b+1<600):rH (Fr.of p) (Fr.of q)=(Fr.of (p+q),0):=by
 unfold rH bin wr;rw [iI (hp.ok zo),iI (hq.ok zo)];exact if_pos ((hp.add hq).ok h)
theorem ae5 (hp:Hq a p) (hq:Hq b q) (h:a+b+1<600):vS (Fr.of p) (Fr.of q)=(Fr.of (p - q),0):=by
 unfold vS bin wr;rw [iI (hp.ok zo),iI (hq.ok zo)];exact if_pos ((hp.sub hq).ok h)
theorem Ia (hp:Hq a p) (hq:Hq b q) (h:a+b<600):og (Fr.of p) (Fr.of q)=(Fr.of (p*q),0):=by
 unfold og bin wr;rw [iI (hp.ok zo),iI (hq.ok zo)];exact if_pos ((hp.mul hq).ok h)
theorem Lu (hp:Hq a p) (hq:Hq b q) (h:a+b<600) (h0:q≠0):lW (Fr.of p) (Fr.of q)=(Fr.of (p / q),0):=by
 unfold lW bin wr;rw [iI (hp.ok zo),iI (hq.ok zo)];exact (if_neg h0).trans (if_pos ((hp.div hq).ok h))
theorem be2 (hp:Hq a p) (hq:Hq b q) (h:a<600) (h2:b<600):sJ (Fr.of p) (Fr.of q)=(jA p q,0):=by
 unfold sJ;rw [iI (hp.ok h),iI (hq.ok h2)]
theorem Yz (hp:Hq a p) (hq:Hq b q) (h:a<600) (h2:b<600):sP (Fr.of p) (Fr.of q)=(decide (q<p),0):=by
 unfold sP;rw [aI (be2 hp hq h h2)];exact congrArg (fun x=>(x,(0:Int))) (decide_eq_decide.2 aB0)
end
theorem Uk (f:Rat):f^3=f*f*f:=by rw [Rat.pow_succ,Rat.pow_succ,Rat.pow_succ,Rat.pow_zero,Rat.one_mul]
def vG:Rat:=((6:Int):Rat) / ((29:Int):Rat)
def Ny:Rat:=((108:Int):Rat) / ((841:Int):Rat)
def Qx:Rat:=((4:Int):Rat) / ((29:Int):Rat)
theorem XW:Hq 3 vG:=⟨6,29,by omega,by decide,by decide,rfl⟩
theorem Vb:Hq 3 Ny:=⟨108,841,by omega,by decide,by decide,rfl⟩
theorem BU:Hq 3 Qx:=⟨4,29,by omega,by decide,by decide,rfl⟩
theorem of_knee:kN 6 29=(Fr.of vG,0):=Nr 6 29 zo (XW.ok zo)
theorem of_108:kN 108 841=(Fr.of Ny,0):=Nr 108 841 zo (Vb.ok zo)
theorem of_429:kN 4 29=(Fr.of Qx,0):=Nr 4 29 zo (BU.ok zo)
theorem of_216:kN 216 24389=(Fr.of ZG,0):=Nr 216 24389 zo (by decide+kernel)
def gQ (f:Rat):Rat:=if vG<f then f^3 else Ny*(f - Qx)
theorem Io {k:Nat} {f:Rat} (h:Hq k f):Hq (3*k+10) (gQ f):=by
 unfold gQ;split
 ·rw [Uk];exact ((h.mul h).mul h).mono zo
 ·exact (Vb.mul (h.sub BU)).mono zo
theorem tQ {k:Nat} {f:Rat} (h:Hq k f) (hk:k<150):mJ (Fr.of f)=(Fr.of (gQ f),0):=by
 unfold mJ;rw [aI of_knee,aI (Yz h XW zo zo)];unfold gQ
 by_cases c:vG<f
 ·rw [if_pos c,decide_eq_true c]
  have e:ag7 (Fr.of f) 3=(Fr.of (f^3),0):=by
   unfold ag7 wr;rw [iI (h.ok zo)];have:Hq (k+k+k) (f^3):=by rw [Uk];exact (h.mul h).mul h
   exact if_pos (this.ok zo)
  simp only [cond_true];exact aI e
 ·rw [if_neg c,decide_eq_false c];simp only [cond_false];rw [aI of_108,aI of_429,aI (ae5 h BU zo)];exact aI (Ia Vb (h.sub BU) zo)
theorem Lx {a b:Rat} (h0:0≤a) (h:a≤b):a^3≤b^3:=by
 have hb:0≤b:=Rat.le_trans h0 h;have h1:a*a≤b*b:=Rat.le_trans (Rat.mul_le_mul_of_nonneg_left h h0) (Rat.mul_le_mul_of_nonneg_right h hb);rw [Uk,Uk];exact Rat.le_trans (Rat.mul_le_mul_of_nonneg_left h (Rat.mul_nonneg h0 h0)) (Rat.mul_le_mul_of_nonneg_right h1 hb)
theorem Yj {a b:Rat} (h0:0≤a) (h:a<b):a^3<b^3:=by
 have hb:0<b:=Std.lt_of_le_of_lt h0 h;have h1:a*a≤b*b:=Rat.le_trans (Rat.mul_le_mul_of_nonneg_left (Rat.le_of_lt h) h0) (Rat.mul_le_mul_of_nonneg_right (Rat.le_of_lt h) (Rat.le_of_lt hb));rw [Uk,Uk];have h2:a*a*a≤b*b*a:=Rat.mul_le_mul_of_nonneg_right h1 h0;have h3:b*b*a<b*b*b:=Rat.mul_lt_mul_of_pos_left h (Rat.mul_pos hb hb);exact Std.lt_of_le_of_lt h2 h3
theorem Il {a b:Rat} (h0:0≤b) (h:a^3≤b^3):a≤b:=by
 refine Rat.not_lt.1 fun c=>?_;exact absurd (Yj h0 c) (Rat.not_lt.2 h)
theorem Lh:vG^3=ZG:=by decide+kernel
theorem am4:Ny*(vG - Qx)=ZG:=by decide+kernel
theorem XI:0≤vG:=by decide+kernel
theorem yY {x y:Rat} (h:x≤y):gQ x≤gQ y:=by
 have l:∀ {a b:Rat},a≤b→Ny*(a - Qx)≤Ny*(b - Qx):=fun {a b} h=>Rat.mul_le_mul_of_nonneg_left (by grind) (by decide+kernel)
 unfold gQ
 by_cases cx:vG<x
 ·have cy:vG<y:=Std.lt_of_lt_of_le cx h;rw [if_pos cx,if_pos cy];exact Lx (Rat.le_trans XI (Rat.le_of_lt cx)) h
 ·rw [if_neg cx]
  by_cases cy:vG<y
  ·rw [if_pos cy];have h1:=l (Rat.not_lt.1 cx);rw [am4,← Lh] at h1;exact Rat.le_trans h1 (Lx XI (Rat.le_of_lt cy))
  ·rw [if_neg cy];exact l h
theorem bd6 {f:Rat} (h: -3≤f): -1≤gQ f:=Rat.le_trans (by decide+kernel) (yY h)
theorem bd7 {f:Rat} (h:f≤3):gQ f≤27:=Rat.le_trans (yY h) (by decide+kernel)
theorem aK2 (f:Rat):aE8 (Ny*(f - Qx))=f:=by
 have e1:((841:Int):Rat) / ((108:Int):Rat)*Ny=1:=by decide+kernel
 have e2:((4:Int):Rat) / ((29:Int):Rat)=Qx:=rfl;unfold aE8;rw [e2];generalize ((841:Int):Rat) / ((108:Int):Rat)=c at *;rw [← Rat.mul_assoc,e1]
 grind
theorem Qw {f:Rat}:ZG<gQ f↔vG<f:=by
 constructor
 ·intro h;refine Rat.not_le.1 fun c=>?_;have h1:=yY c;have h2:gQ vG=ZG:=by unfold gQ;rw [if_neg Rat.lt_irrefl];exact am4
  rw [h2] at h1;exact absurd h (Rat.not_lt.2 h1)
 ·intro h;unfold gQ;rw [if_pos h,← Lh];exact Yj XI h
theorem LX {f:Fr} {q:Rat} {M:Int} (h:rd f=some q) (w:Wi M q) (hM:M≤1000000000000000000):aL.dO f=((xX q,zH q),0)∧In (xX q,zH q) q M:=by
 obtain ⟨b,e,hb⟩:=kS h w hM;have e2:aL.dO f=ig q q:=by rw [uG];unfold aL.dO;rw [h]
 have e3:=hb.dA hM;rw [e] at e2;unfold ig dI at e2;rw [mX,mX] at e2;split at e2
 ·have e4:b=(xX q,zH q):=congrArg Prod.fst e2;subst e4;exact ⟨e,hb⟩
 ·have:(0:Int)=6:=congrArg Prod.snd e2;omega
theorem WU {n:Nat}:un (n:Int)^3*(((10:Nat)^36:Nat):Rat)=(((n^3:Nat)):Rat):=by
 have e:=xS (n:Int);have t:(((10:Nat)^36:Nat):Rat)=((1000000000000:Int):Rat)*((1000000000000:Int):Rat)*((1000000000000:Int):Rat):=by decide+kernel
 have c:(((n^3:Nat)):Rat)=((n:Int):Rat)*((n:Int):Rat)*((n:Int):Rat):=by
  have:n^3=n*n*n:=by rw [Nat.pow_succ,Nat.pow_succ,Nat.pow_succ,Nat.pow_zero,Nat.one_mul]
  rw [this]
  push_cast
  rfl
 rw [t,c,← e,Uk];generalize un (n:Int)=u;generalize ((1000000000000:Int):Rat)=E
 grind
theorem av6 {lo hi:Int} {f:Rat} (h0:0≤f) (hl:0≤lo) (h1:un lo≤f^3) (h2:f^3≤un hi) (hh:hi≤8000000000000):∃ b,power.Qa lo hi 1 3=(b,0)∧In b f 2000000000001:=by
 have hlh:lo≤hi:=zI.1 (Rat.le_trans h1 h2);have big:oJ 8000000000000 1 3=2000000000000:=by decide+kernel
 have m1:oJ hi.toNat 1 3≤2000000000000:=by rw [← big];exact lab.GJ zo
 have m0:oJ lo.toNat 1 3≤oJ hi.toNat 1 3:=lab.GJ zo;have m2:=Ul hi.toNat 1 3
 have key:∀ m n:Nat,m^3*10^12≤n*10^36→un (m:Int)^3≤un (n:Int):=fun m n h=>by
  have e1:=WU (n:=m);have e2:=xS (n:Int);have h3:(((m^3*10^12:Nat)):Rat)≤((n*10^36:Nat):Rat):=by exact_mod_cast h
  have t1:(((10:Nat)^12:Nat):Rat)=((1000000000000:Int):Rat):=by decide+kernel
  rw [Rat.natCast_mul,Rat.natCast_mul,← e1,t1] at h3;have e3:((n:Nat):Rat)=((n:Int):Rat):=rfl;rw [e3,← e2] at h3;have hp:(0:Rat)<(((10:Nat)^36:Nat):Rat)*((1000000000000:Int):Rat):=by decide+kernel
  refine Rat.le_of_mul_le_mul_right (c:=(((10:Nat)^36:Nat):Rat)*((1000000000000:Int):Rat)) ?_ hp;generalize (((10:Nat)^36:Nat):Rat)=T at *;generalize ((1000000000000:Int):Rat)=E at *;generalize un (m:Int)^3=x at *;generalize un (n:Int)=y at *
  grind
 have key2:∀ m n:Nat,n*10^36≤m^3*10^12→un (n:Int)≤un (m:Int)^3:=fun m n h=>by
  have e1:=WU (n:=m);have e2:=xS (n:Int);have h3:((n*10^36:Nat):Rat)≤(((m^3*10^12:Nat)):Rat):=by exact_mod_cast h
  have t1:(((10:Nat)^12:Nat):Rat)=((1000000000000:Int):Rat):=by decide+kernel
  rw [Rat.natCast_mul,Rat.natCast_mul,← e1,t1] at h3;have e3:((n:Nat):Rat)=((n:Int):Rat):=rfl;rw [e3,← e2] at h3;have hp:(0:Rat)<(((10:Nat)^36:Nat):Rat)*((1000000000000:Int):Rat):=by decide+kernel
  refine Rat.le_of_mul_le_mul_right (c:=(((10:Nat)^36:Nat):Rat)*((1000000000000:Int):Rat)) ?_ hp;generalize (((10:Nat)^36:Nat):Rat)=T at *;generalize ((1000000000000:Int):Rat)=E at *;generalize un (m:Int)^3=x at *;generalize un (n:Int)=y at *
  grind
 have a1:un ((oJ lo.toNat 1 3:Nat):Int)≤f:=by
  have s:=(tK (q:=3) zo lo.toNat 1).1;rw [Nat.pow_one] at s;have s2:=key _ _ s;have:((lo.toNat:Nat):Int)=lo:=by omega
  rw [this] at s2;exact Il h0 (Rat.le_trans s2 h1)
 have a2:f≤un ((phi hi.toNat 1 3:Nat):Int):=by
  have s:=ah0 (q:=3) zo hi.toNat 1;rw [Nat.pow_one] at s;have s2:=key2 _ _ s;have:((hi.toNat:Nat):Int)=hi:=by omega
  rw [this] at s2;refine Il ?_ (Rat.le_trans h2 s2);have:un 0≤un ((phi hi.toNat 1 3:Nat):Int):=zI.2 zo;have z:un 0=0:=by decide+kernel
  rwa [z] at this
 have hi2:In (((oJ lo.toNat 1 3:Nat):Int),((phi hi.toNat 1 3:Nat):Int)) f 2000000000001:=⟨a1,a2,by simp only;omega,by simp only;omega⟩;refine ⟨_,?_,hi2⟩;unfold power.Qa power.JK;have hb:dA lo hi=true:=Yu zo hlh zo;rw [if_neg (by rw [hb];decide),if_neg (by intro hh;rcases hh with hh|hh;exact absurd hh zd;omega)];have n1:(1:Int).toNat=1:=rfl;have n3:(3:Int).toNat=3:=rfl;rw [n1,n3]
 have p1:vK lo.toNat 1 3 false=(((oJ lo.toNat 1 3:Nat):Int),0):=by
  unfold vK;rw [if_pos zo];simp only [Bool.false_eq_true,if_false]
 have p2:vK hi.toNat 1 3 true=(((phi hi.toNat 1 3:Nat):Int),0):=by
  unfold vK;rw [if_pos zo];simp only [if_true]
 rw [p1,p2];simp only [ne_eq,not_true_eq_false,if_false];rw [if_pos (hi2.dA zo)]
theorem Tt (n:Int):un (n*1000000000000)=(n:Rat):=by
 unfold un;rw [Rat.intCast_mul];have:=WL;generalize ((1000000000000:Int):Rat)=E at *
 grind
theorem YQ {q:Rat} (n:Int) (h1:((-n:Int):Rat)≤q) (h2:q≤(n:Rat)):Wi (n*1000000000000) q:=by
 refine ⟨?_,by rw [Tt];exact h2⟩;rw [← Int.neg_mul,Tt];exact h1
theorem ao6 {k:Nat} {f:Rat} (hq:Hq k f) (hk:k<100) (h0:0≤gQ f) (h2:f≤2):∃ b,wT (Fr.of (gQ f))=(b,0)∧In b f 2000000000001:=by
 have hg:=Io hq;have qk:Hq 5 ZG:=⟨216,24389,by omega,by decide,by decide,rfl⟩;unfold wT;rw [aI of_216,aI (Yz hg qk zo zo)]
 by_cases c:ZG<gQ f
 ·rw [decide_eq_true c];have cf:=Qw.1 c;have f0:=Rat.le_trans XI (Rat.le_of_lt cf);have eg:gQ f=f^3:=by unfold gQ;rw [if_pos cf]
  have g8:gQ f≤8:=Rat.le_trans (yY h2) (by decide+kernel);obtain ⟨e,hb⟩:=LX (iI (hg.ok zo)) (YQ 8 (Rat.le_trans (by decide+kernel) h0) g8) zo;simp only [cond_true];rw [aI e]
  have d0:0≤xX (gQ f):=by
   have:=aA4 h0;have z:xX 0=0:=by decide+kernel
   omega
  have l1:=hb.lo;have l2:=hb.hi;rw [eg] at l1 l2;obtain ⟨b,e2,hb2⟩:=av6 f0 (by rw [eg] at d0;exact d0) l1 l2 (by rw [← eg];exact hb.2.2.2);rw [eg];exact ⟨b,aI e2,hb2⟩
 ·rw [decide_eq_false c];have cf:¬ vG<f:=fun h=>c (Qw.2 h);have eg:gQ f=Ny*(f - Qx):=by unfold gQ;rw [if_neg cf]
  have q2:Hq 3 (((841:Int):Rat) / ((108:Int):Rat)):=⟨841,108,by omega,by decide,by decide,rfl⟩;simp only [cond_false];rw [aI (Nr 841 108 zo (q2.ok zo)),aI (Ia q2 hg zo),aI of_429,aI (Yw (q2.mul hg) BU zo)]
  have el:((841:Int):Rat) / ((108:Int):Rat)*gQ f+Qx=f:=by
   have:=aK2 f;rw [← eg] at this;exact this
  rw [el]
  have f0:0≤f:=by
   refine Rat.not_lt.1 fun h=>?_;have h1:=yY (Rat.le_of_lt h);have h3:gQ 0<0:=by decide+kernel
   exact absurd (Rat.le_trans h0 h1) (Rat.not_le.2 h3)
  obtain ⟨e,hb⟩:=LX (iI (hq.ok zo)) (YQ 2 (Rat.le_trans (by decide+kernel) f0) h2) zo;exact ⟨_,aI e,hb.mono zo⟩
end Go.Proofs.lab
namespace Go.Proofs.lab
open Go Go.RowKit Go.SW Go.Num Go.Mem Go.Proofs Go.eF Go.Proofs.aL Go.Proofs.matrix Go.Proofs.aN
def cQ (n:Int):Rat:=(n:Rat) / ((1:Int):Rat)
theorem oH {n:Int} (h:n.natAbs≤1000):Hq 3 (cQ n):=⟨n,1,by omega,by decide,h,rfl⟩
theorem Jl (n:Int):cQ n=(n:Rat):=by
 unfold cQ;have:((1:Int):Rat)=1:=rfl;have i:(1:Rat)⁻¹=1:=by decide+kernel
 rw [this,Rat.div_def,i,Rat.mul_one]
theorem Dr {n:Int} (h:n≠0):cQ n≠0:=by
 rw [Jl];exact fun e=>h (by exact_mod_cast e)
theorem JN {n:Int} (h:n.natAbs≤1000):kN n 1=(Fr.of (cQ n),0):=Nr n 1 zo ((oH h).ok zo)
theorem Vn {p q r:Rat} {a:Nat} (hp:Hq a p) (hq:Hq a q) (hr:Hq a r) (h:a<600):rD ⟨Fr.of p,Fr.of q,Fr.of r⟩=0:=by
 have c:∀ {x:Rat},Hq a x→Cn (Fr.of x)=0:=fun hx=>by unfold Cn;rw [iI (hx.ok h)];rfl
 unfold rD;simp only [c hp,c hq,c hr,ne_eq,not_true_eq_false,if_false]
def shQ (a:Rat):Rat:=(a+cQ 128) / cQ 256
theorem XU {a:Rat} (h:Hq 5 a):Hq 12 (shQ a):=(h.add (oH zd)).div (oH zd)
theorem Xd {a:Rat} (h:Hq 5 a):Bz (Fr.of a)=(Fr.of (shQ a),0):=by
 have q1:Hq 3 (cQ 128):=oH zd;have q2:Hq 3 (cQ 256):=oH zd;unfold Bz;rw [aI (JN zd),aI (Yw h q1 zo),aI (JN zd),aI (Lu (h.add q1) q2 zo (Dr zd))];rfl
theorem ap8 {a:Rat} (h:Hq 5 a):LV (Fr.of (shQ a))=(Fr.of a,0):=by
 have q1:Hq 3 (cQ 128):=oH zd;have q2:Hq 3 (cQ 256):=oH zd;have n2:cQ 256≠0:=Dr zd
 have e:shQ a*cQ 256 - cQ 128=a:=by
  unfold shQ;rw [Rat.div_mul_cancel n2]
  grind
 unfold LV;rw [aI (JN zd),aI (Ia (XU h) q2 zo),aI (JN zd),aI (ae5 ((XU h).mul q2) q1 zo),e];rfl
section
variable {p a b:Rat} (hp:Hq 5 p) (ha:Hq 5 a) (hb:Hq 5 b)
include hp ha hb
theorem bd8:an4 ⟨Fr.of p,Fr.of a,Fr.of b⟩=(⟨Fr.of (p / cQ 100),Fr.of (shQ a),Fr.of (shQ b)⟩,0):=by
 unfold an4;rw [if_neg (by rw [Vn hp ha hb zo];decide)];unfold encI;rw [aI (JN zd),aI (Lu hp (oH zd) zo (Dr zd)),aI (Xd ha),aI (Xd hb)];rfl
theorem be0:ao2 ⟨Fr.of (p / cQ 100),Fr.of (shQ a),Fr.of (shQ b)⟩=(⟨Fr.of p,Fr.of a,Fr.of b⟩,0):=by
 have q1:Hq 3 (cQ 100):=oH zd;have hp2:=hp.div q1;unfold ao2;rw [if_neg (by rw [Vn (hp2.mono (show 8≤12 by omega)) (XU ha) (XU hb) zo];decide)];unfold ao1;rw [aI (JN zd),aI (Ia hp2 q1 zo),Rat.div_mul_cancel (Dr zd),aI (ap8 ha),aI (ap8 hb)];rfl
end
def Fa (p:Rat):Rat:=(p+cQ 16) / cQ 116
def Tg (p a:Rat):Rat:=Fa p+a / cQ 500
def Tf (p b:Rat):Rat:=Fa p - b / cQ 200
theorem QK {p:Rat} (h:Hq 5 p):Hq 12 (Fa p):=(h.add (oH zd)).div (oH zd)
theorem ak3 {p a:Rat} (h:Hq 5 p) (k:Hq 5 a):Hq 21 (Tg p a):=(QK h).add (k.div (oH zd))
theorem ak2 {p b:Rat} (h:Hq 5 p) (k:Hq 5 b):Hq 21 (Tf p b):=(QK h).sub (k.div (oH zd))
theorem ae9 {x:Rat} {k:Nat} (h:Hq k x) (hk:k<600):oO (Fr.of x)=(jA x 0,0):=by
 unfold oO;rw [iI (h.ok hk)]
theorem ao7 {x:Rat}:jA x 0<0↔x<0:=by
 unfold jA
 constructor
 ·intro h;split at h
  ·assumption
  ·split at h<;>omega
 ·intro h;rw [if_pos h]
  decide
theorem wD {g u:Rat} (hu:0<u):g*u<0↔g<0:=by
 constructor
 ·intro h;refine Rat.not_le.1 fun c=>?_;exact absurd h (Rat.not_lt.2 (Rat.mul_nonneg c (Rat.le_of_lt hu)))
 ·intro h;have h1:0< -g:=by grind
  have:=Rat.mul_pos h1 hu
  grind
theorem ag8 {u:Rat} (h:0<u):u≠0:=fun e=>by rw [e] at h;exact absurd h Rat.lt_irrefl
theorem ae8 {u v w:Rat} (hu:Hq 4 u) (hv:Hq 4 v) (hw:Hq 4 w) (u0:0<u) (v0:0<v) (w0:0<w):light.nY ⟨Fr.of u,Fr.of v,Fr.of w⟩=0:=av0 (iI (hu.ok zo)) (iI (hv.ok zo)) (iI (hw.ok zo)) u0 v0 w0
section
variable {p a b u v w:Rat} (hp:Hq 5 p) (ha:Hq 5 a) (hb:Hq 5 b) (hu:Hq 4 u) (hv:Hq 4 v) (hw:Hq 4 w) (u0:0<u) (v0:0<v) (w0:0<w)
include hp ha hb hu hv hw u0 v0 w0
theorem be1:LA ⟨Fr.of p,Fr.of a,Fr.of b⟩ ⟨Fr.of u,Fr.of v,Fr.of w⟩=if gQ (Tg p a)<0 then (t0,9) else if gQ (Fa p)<0 then (t0,9) else if gQ (Tf p b)<0 then (t0,9) else
  (⟨Fr.of (gQ (Tg p a)*u),Fr.of (gQ (Fa p)*v),Fr.of (gQ (Tf p b)*w)⟩,0):=by
 have q16:Hq 3 (cQ 16):=oH zd;have bi7:Hq 3 (cQ 116):=oH zd;have aX8:Hq 3 (cQ 500):=oH zd;have aX9:Hq 3 (cQ 200):=oH zd;have x1:=ak3 hp ha;have y1:=QK hp;have z1:=ak2 hp hb;have gx:=Io x1;have gy:=Io y1;have gz:=Io z1;have ey:rH (Fr.of (Fa p)) (Fr.of (a / cQ 500))=(Fr.of (Tg p a),0):=Yw y1 (ha.div aX8) zo;have ez:vS (Fr.of (Fa p)) (Fr.of (b / cQ 200))=(Fr.of (Tf p b),0):=ae5 y1 (hb.div aX9) zo;have ed:lW (Fr.of (p+cQ 16)) (Fr.of (cQ 116))=(Fr.of (Fa p),0):=Lu (hp.add q16) bi7 zo (Dr zd);unfold LA
 rw [aI (JN zd),aI (Yw hp q16 zo),aI (JN zd),aI ed,
  aI (JN zd),aI (Lu ha aX8 zo (Dr zd)),aI ey,
  aI (JN zd),aI (Lu hb aX9 zo (Dr zd)),aI ez,
  aI (tQ x1 zo),aI (Ia gx hu zo),aI (tQ y1 zo),aI (Ia gy hv zo),aI (tQ z1 zo),aI (Ia gz hw zo),
  aI (ae9 (gx.mul hu) zo),aI (ae9 (gy.mul hv) zo),aI (ae9 (gz.mul hw) zo)]
 simp only [ao7,wD u0,wD v0,wD w0];rfl
theorem aO3:tZ ⟨Fr.of p,Fr.of a,Fr.of b⟩ ⟨Fr.of u,Fr.of v,Fr.of w⟩=(t0,9) ∨
  ((0≤gQ (Tg p a)∧0≤gQ (Fa p)∧0≤gQ (Tf p b))∧tZ ⟨Fr.of p,Fr.of a,Fr.of b⟩ ⟨Fr.of u,Fr.of v,Fr.of w⟩=(⟨Fr.of (gQ (Tg p a)*u),Fr.of (gQ (Fa p)*v),Fr.of (gQ (Tf p b)*w)⟩,0)):=by
 unfold tZ;rw [if_neg (by rw [Vn hp ha hb zo];decide),if_neg (by rw [ae8 hu hv hw u0 v0 w0];decide),be1 hp ha hb hu hv hw u0 v0 w0]
 by_cases c1:gQ (Tg p a)<0
 ·rw [if_pos c1];exact .inl rfl
 ·rw [if_neg c1]
  by_cases c2:gQ (Fa p)<0
  ·rw [if_pos c2];exact .inl rfl
  ·rw [if_neg c2]
   by_cases c3:gQ (Tf p b)<0
   ·rw [if_pos c3];exact .inl rfl
   ·rw [if_neg c3];exact .inr ⟨⟨Rat.not_lt.1 c1,Rat.not_lt.1 c2,Rat.not_lt.1 c3⟩,rfl⟩
end
theorem ao3 {f u:Rat} {k:Nat} (hf:Hq k f) (hk:k<50) (hu:Hq 4 u) (u0:0<u) (g0:0≤gQ f) (f2:f≤2):∃ b,dcE (Fr.of (gQ f*u)) (Fr.of u)=(b,0)∧In b f 2000000000001:=by
 obtain ⟨b,e,hb⟩:=ao6 hf zo g0 f2
 have e1:lW (Fr.of (gQ f*u)) (Fr.of u)=(Fr.of (gQ f),0):=by
  have:=Lu ((Io hf).mul hu) hu zo (ag8 u0)
  have e2:gQ f*u / u=gQ f:=by
   have:=ag8 u0
   grind
  rw [e2] at this;exact this
 refine ⟨b,?_,hb⟩;unfold dcE;rw [aI e1,aI e];rfl
theorem aw3:ptE (16*1000000000000)=((16*1000000000000,16*1000000000000),0):=by decide+kernel
theorem XM:In (16*1000000000000,16*1000000000000) (cQ 16) 16000000000000:=by
 rw [Jl];refine ⟨?_,?_,by decide,by decide⟩<;>rw [Tt]<;>exact Rat.le_refl
section
variable {p a b u v w:Rat} (hp:Hq 5 p) (ha:Hq 5 a) (hb:Hq 5 b) (hu:Hq 4 u) (hv:Hq 4 v) (hw:Hq 4 w) (u0:0<u) (v0:0<v) (w0:0<w)
 (p0:0≤p) (p1:p≤100) (a0: -128≤a) (a1:a≤128) (b0: -128≤b) (b1:b≤128)
include p0 p1
theorem aO2:0≤Fa p∧Fa p≤1:=by
 unfold Fa;rw [Jl,Jl];have e:((116:Int):Rat)=116:=rfl;have e2:((16:Int):Rat)=16:=rfl;rw [e,e2,Rat.div_def];have i:(0:Rat)<(116:Rat)⁻¹:=by decide+kernel
 have o:(116:Rat)*(116:Rat)⁻¹=1:=by decide+kernel
 refine ⟨Rat.mul_nonneg (by grind) (Rat.le_of_lt i),?_⟩;have h:=Rat.mul_le_mul_of_nonneg_right (show p+16≤116 by grind) (Rat.le_of_lt i);rw [o] at h;exact h
include a0 a1
theorem bn1: -1≤Tg p a∧Tg p a≤2:=by
 obtain ⟨y0,y1⟩:=aO2 p0 p1;unfold Tg;rw [Jl];have e:((500:Int):Rat)=500:=rfl;rw [e,Rat.div_def];have i:(0:Rat)<(500:Rat)⁻¹:=by decide+kernel
 have o:(128:Rat)*(500:Rat)⁻¹≤1:=by decide+kernel
 have o2: -1≤(-128:Rat)*(500:Rat)⁻¹:=by decide+kernel
 have h:=Rat.mul_le_mul_of_nonneg_right a1 (Rat.le_of_lt i);have h2:=Rat.mul_le_mul_of_nonneg_right a0 (Rat.le_of_lt i)
 constructor<;>grind
omit a0 a1
include b0 b1
theorem bn0: -1≤Tf p b∧Tf p b≤2:=by
 obtain ⟨y0,y1⟩:=aO2 p0 p1;unfold Tf;rw [Jl];have e:((200:Int):Rat)=200:=rfl;rw [e,Rat.div_def];have i:(0:Rat)<(200:Rat)⁻¹:=by decide+kernel
 have o:(128:Rat)*(200:Rat)⁻¹≤1:=by decide+kernel
 have o2: -1≤(-128:Rat)*(200:Rat)⁻¹:=by decide+kernel
 have h:=Rat.mul_le_mul_of_nonneg_right b1 (Rat.le_of_lt i);have h2:=Rat.mul_le_mul_of_nonneg_right b0 (Rat.le_of_lt i)
 constructor<;>grind
include a0 a1 hp ha hb hu hv hw u0 v0 w0
theorem bi3 (g1:0≤gQ (Tg p a)) (g2:0≤gQ (Fa p)) (g3:0≤gQ (Tf p b)) :
  ∃ l,nM ⟨Fr.of (gQ (Tg p a)*u),Fr.of (gQ (Fa p)*v),Fr.of (gQ (Tf p b)*w)⟩ ⟨Fr.of u,Fr.of v,Fr.of w⟩=(l,0)∧In l.1 p 20000000000000000∧In l.2.1 a 20000000000000000∧In l.2.2 b 20000000000000000:=by
 have x1:=ak3 hp ha;have y1:=QK hp;have z1:=ak2 hp hb;have oo:∀ {g u:Rat} {k:Nat},Hq k g→k<100→Hq 4 u→rd (Fr.of (g*u))=some (g*u):=fun hg hk hu=>iI ((hg.mul hu).ok zo)
 unfold nM
 rw [if_neg (by rw [Yp (oo (Io x1) zo hu) (oo (Io y1) zo hv) (oo (Io z1) zo hw) (Rat.mul_nonneg g1 (Rat.le_of_lt u0)) (Rat.mul_nonneg g2 (Rat.le_of_lt v0)) (Rat.mul_nonneg g3 (Rat.le_of_lt w0))];decide),
  if_neg (by rw [ae8 hu hv hw u0 v0 w0];decide)]
 obtain ⟨y2,y3⟩:=aO2 p0 p1;obtain ⟨x2,x3⟩:=bn1 p0 p1 a0 a1;obtain ⟨z2,z3⟩:=bn0 p0 p1 b0 b1;obtain ⟨X,ex,hx⟩:=ao3 x1 zo hu u0 g1 x3;obtain ⟨Y,ey,hy⟩:=ao3 y1 zo hv v0 g2 (Rat.le_trans y3 (by decide+kernel));obtain ⟨Z,ez,hz⟩:=ao3 z1 zo hw w0 g3 z3;obtain ⟨S,es,hs⟩:=xE 116 1 240000000000000 hy zo zd zo zo zd zo;obtain ⟨el,hl⟩:=EO hs XM zo zo zo;obtain ⟨ed,hd⟩:=EO hx hy zo zo zo;obtain ⟨A,eA,hA⟩:=xE 500 1 2100000000000000 hd zo zd zo zo zd zo;obtain ⟨eg,hg⟩:=EO hy hz zo zo zo;obtain ⟨B,eB,hB⟩:=xE 200 1 2100000000000000 hg zo zd zo zo zd zo;unfold Ak;rw [aI ex,aI ey,aI ez,aI es,aI aw3,aI el,aI ed,aI eA,aI eg,aI eB];have n:∀ {z:Int},z≠0→cQ z≠0:=Dr
 have c116:((116:Int):Rat) / ((1:Int):Rat)=cQ 116:=rfl;have bo8:((500:Int):Rat) / ((1:Int):Rat)=cQ 500:=rfl;have bo9:((200:Int):Rat) / ((1:Int):Rat)=cQ 200:=rfl;rw [c116] at hl;rw [bo8] at hA;rw [bo9] at hB
 have e1:Fa p*cQ 116 - cQ 16=p:=by
  unfold Fa;rw [Rat.div_mul_cancel (n zd)]
  grind
 have e2:(Tg p a - Fa p)*cQ 500=a:=by
  have h0:=n (z:=500) zd;unfold Tg;generalize cQ 500=c at *
  grind
 have e3:(Fa p - Tf p b)*cQ 200=b:=by
  have h0:=n (z:=200) zd;unfold Tf;generalize cQ 200=c at *
  grind
 rw [e1] at hl;rw [e2] at hA;rw [e3] at hB;exact ⟨_,rfl,hl.mono zo,hA.mono zo,hB.mono zo⟩
end
theorem aY7 {b:Int × Int} (h:dA b.1 b.2=true):Qq b=(Fr.of (un b.1),0)∧Di b=(Fr.of (un b.2),0)∧Hq 18 (un b.1)∧Hq 18 (un b.2):=by
 obtain ⟨h1,h2,h3⟩:=BK h;have q1:Hq 18 (un b.1):=⟨b.1,1000000000000,by omega,by decide+kernel,Nat.le_trans h1 (by decide+kernel),rfl⟩;have q2:Hq 18 (un b.2):=⟨b.2,1000000000000,by omega,by decide+kernel,Nat.le_trans h2 (by decide+kernel),rfl⟩;unfold Qq Di;rw [if_pos h,if_pos h];exact ⟨Nr _ _ zo (q1.ok zo),Nr _ _ zo (q2.ok zo),q1,q2⟩
theorem UR {b:Int × Int} {f:Rat} (h:In b f 3000000000000):∃ c,UW b=(c,0)∧In c (gQ f) 27000000000000:=by
 obtain ⟨e1,e2,q1,q2⟩:=aY7 (h.dA zo);have t3:un 3000000000000=3:=by decide+kernel
 have m3:un (-3000000000000)= -3:=by decide+kernel
 have hle:=zI.2 h.le;have l3: -3≤un b.1:=by rw [← m3];exact zI.2 h.2.2.1
 have h3:un b.2≤3:=by rw [← t3];exact zI.2 h.2.2.2
 have w1:Wi (27*1000000000000) (gQ (un b.1)):=YQ 27 (Rat.le_trans (by decide+kernel) (bd6 l3)) (bd7 (Rat.le_trans hle h3));have w2:Wi (27*1000000000000) (gQ (un b.2)):=YQ 27 (Rat.le_trans (by decide+kernel) (bd6 (Rat.le_trans l3 hle))) (bd7 h3);obtain ⟨L,eL,hL⟩:=kS (iI ((Io q1).ok zo)) w1 zo;obtain ⟨H,eH,hH⟩:=kS (iI ((Io q2).ok zo)) w2 zo;have hi:In (L.1,H.2) (gQ f) 27000000000000:=⟨Rat.le_trans hL.1 (yY h.1),Rat.le_trans (yY h.2.1) hH.2.1,hL.2.2.1,hH.2.2.2⟩;unfold UW;rw [aI e1,aI (tQ q1 zo),aI eL,aI e2,aI (tQ q2 zo),aI eH];refine ⟨_,aI ?_,hi⟩;unfold aL.ofE;exact if_pos (hi.dA zo)
section
variable {p a b u v w:Rat} (hp:Hq 5 p) (ha:Hq 5 a) (hb:Hq 5 b) (hu:Hq 4 u) (hv:Hq 4 v) (hw:Hq 4 w) (u0:0<u) (v0:0<v) (w0:0<w) (u1:u≤2) (v1:v≤2) (w1:w≤2)
include hu hv hw u0 v0 w0 u1 v1 w1
theorem bp2 {P A B:Int × Int} (kp:In P p 128000000000000) (ka:In A a 128000000000000) (kb:In B b 128000000000000) :
  ∃ m,wW (P,A,B) ⟨Fr.of u,Fr.of v,Fr.of w⟩=(m,0)∧In m.1 (gQ (Tg p a)*u) 60000000000000∧In m.2.1 (gQ (Fa p)*v) 60000000000000∧In m.2.2 (gQ (Tf p b)*w) 60000000000000:=by
 obtain ⟨es,hs⟩:=ak0 kp XM zo zo zo;obtain ⟨Y,ey,hy⟩:=xE 1 116 1300000000000 hs zo zd zo zo zd zo;obtain ⟨A2,eA,hA⟩:=xE 1 500 256000000000 ka zo zd zo zo zd zo;obtain ⟨ex,hx⟩:=ak0 hy hA zo zo zo;obtain ⟨B2,eB,hB⟩:=xE 1 200 640000000000 kb zo zd zo zo zd zo;obtain ⟨ez,hz⟩:=EO hy hB zo zo zo
 have d:∀ (q:Rat) (n:Int),q*(((1:Int):Rat) / (n:Rat))=q / cQ n:=fun q n=>by
  rw [Jl,Rat.div_def,Rat.div_def];have:((1:Int):Rat)=1:=rfl;rw [this,Rat.one_mul]
 rw [d] at hy hA hB hx hz;rw [d] at hx hz;have gy:(p+cQ 16) / cQ 116=Fa p:=rfl;rw [gy] at hy hx hz;have gx:Fa p+a / cQ 500=Tg p a:=rfl;have gz:Fa p - b / cQ 200=Tf p b:=rfl;rw [gx] at hx;rw [gz] at hz;obtain ⟨X3,ix,jx⟩:=UR (hx.mono zo);obtain ⟨Y3,iy,jy⟩:=UR (hy.mono zo);obtain ⟨Z3,iz,jz⟩:=UR (hz.mono zo)
 have ar:∀ {u:Rat},Hq 4 u→0<u→u≤2→∃ c,aL.dO (Fr.of u)=(c,0)∧In c u (2*1000000000000):=fun hu u0 u1 =>
  kS (iI (hu.ok zo)) (YQ 2 (Rat.le_trans (by decide+kernel) (Rat.le_of_lt u0)) u1) zo
 obtain ⟨U,eu,ku⟩:=ar hu u0 u1;obtain ⟨V,ev,kv⟩:=ar hv v0 v1;obtain ⟨W,ew,kw⟩:=ar hw w0 w1;obtain ⟨o1,f1,k1⟩:=NH 60000000000000 jx ku zo zo zd zo;obtain ⟨o2,f2,k2⟩:=NH 60000000000000 jy kv zo zo zd zo;obtain ⟨o3,f3,k3⟩:=NH 60000000000000 jz kw zo zo zd zo;have c0:∀ {b:Int × Int} {q:Rat},In b q 128000000000000→sM b=0:=fun h=>by unfold sM;rw [if_pos (h.dA zo)]
 unfold wW;rw [if_neg (by unfold qL;simp [c0 kp,c0 ka,c0 kb]),if_neg (by rw [ae8 hu hv hw u0 v0 w0];decide)];unfold ap6;rw [aI aw3,aI es,aI ey,aI eA,aI ex,aI eB,aI ez,aI ix,aI eu,aI f1,aI iy,aI ev,aI f2,aI iz,aI ew,aI f3];exact ⟨_,rfl,k1,k2,k3⟩
end
end Go.Proofs.lab
namespace Go.Proofs.aL
open Go Go.RowKit Go.SW Go.Num Go.Mem Go.Proofs Go.Dec Go.eF Go.Proofs.matrix Go.Proofs.aN
theorem aX1 {n:Int} (h:n.natAbs≤1000000000000000000):Hq 18 (un n):=⟨n,1000000000000,by omega,by decide+kernel,Nat.le_trans h (by decide+kernel),rfl⟩
theorem Tv {n:Int} (h:n.natAbs≤1000000000000000000):rz (un n)=true:=(aX1 h).ok zo
theorem Yf (n:Int) (h:n.natAbs≤1000000000000000000) (W:World) (ht:fM.Pow W) :
  Calls Tryz.prog 196 #[.int .i64 n] W (fun e w'=>e= .returned (.tuple #[.agg #[.string (Fr.of (un n)).n,.string (Fr.of (un n)).d],.int .i64 0])∧Below W.heap.size W w'):=by
 refine Cj n _ _ W zo zo ht ?_;unfold kN;rw [if_neg zo]
 show eF.wr (un n)=_
 unfold eF.wr;rw [if_pos (Tv h)]
theorem Yo {p q:Rat} (hp:rz p=true) (hq:rz q=true) (W:World) :
  Calls Tryz.prog 19 #[.agg #[.string (Fr.of p).n,.string (Fr.of p).d],.agg #[.string (Fr.of q).n,.string (Fr.of q).d]] W (fun e w'=>e= .returned (.tuple #[.int .i64 (jA p q),.int .i64 0])∧Below W.heap.size W w'):=by
 have:=dF.zB (Fr.of p) (Fr.of q) W;rw [show sJ (Fr.of p) (Fr.of q)=(jA p q,0) by unfold sJ;rw [iI hp,iI hq]] at this;exact this
theorem Og {b:Int × Int} {q:Rat} {M:Int} (h:In b q M) (hM:M≤1000000000000000000) (hq:rz q=true) (W:World) (ht:fM.Pow W) :
  Calls Tryz.prog 117 #[.agg #[.int .i64 b.1,.int .i64 b.2],.agg #[.string (Fr.of q).n,.string (Fr.of q).d]] W (fun e w'=>e= .returned (.tuple #[.bool true,.int .i64 0])∧Below W.heap.size W w'):=by
 have hle:=h.le;obtain ⟨g1,g2,g3,g4⟩:=id h;have n1:b.1.natAbs≤1000000000000000000:=by omega
 have n2:b.2.natAbs≤1000000000000000000:=by omega
 exact aR5 b.1 b.2 (jA q (un b.1)) (jA q (un b.2)) _ _ _ _ _ _ W (h.dA hM)
  (by unfold jA;rw [if_neg (by grind)];split<;>omega)
  (by unfold jA;split;omega;rw [if_neg (by grind)];omega)
  (fun W2 h2=>Yf b.1 n1 W2 (ht.later h2)) (fun W2 h2=>Yf b.2 n2 W2 (ht.later h2))
  (fun W2=>Yo hq (Tv n1) W2) (fun W2=>Yo hq (Tv n2) W2)
end Go.Proofs.aL
namespace Go.Proofs.verdigrislaw24
open Go Go.RowKit Go.SW Go.Num Go.Mem Go.Proofs Go.Dec Go.eF Go.Proofs.lab Go.Proofs.aY Go.Proofs.aL
theorem aN6 {l1 l2 l3 l4 l5 l6:Int} {s1 s2 s3 s4 s5 s6:ByteArray}
  (h1:∀ W,fM.Pow W→Calls Tryz.prog 117 #[.agg #[.int .i64 l1,.int .i64 l2],.agg #[.string s1,.string s2]] W (fun e w'=>e= .returned (.tuple #[.bool true,.int .i64 0])∧Below W.heap.size W w'))
  (h2:∀ W,fM.Pow W→Calls Tryz.prog 117 #[.agg #[.int .i64 l3,.int .i64 l4],.agg #[.string s3,.string s4]] W (fun e w'=>e= .returned (.tuple #[.bool true,.int .i64 0])∧Below W.heap.size W w'))
  (h3:∀ W,fM.Pow W→Calls Tryz.prog 117 #[.agg #[.int .i64 l5,.int .i64 l6],.agg #[.string s5,.string s6]] W (fun e w'=>e= .returned (.tuple #[.bool true,.int .i64 0])∧Below W.heap.size W w')) (w:World) (ht:fM.Pow w) :
  Calls Tryz.prog 37 #[.agg #[.int .i64 l1,.int .i64 l2,.int .i64 l3,.int .i64 l4,.int .i64 l5,.int .i64 l6],.agg #[.string s1,.string s2,.string s3,.string s4,.string s5,.string s6]] w (fun e w'=>e= .returned (.bool true)∧Below w.heap.size w w'):=by
 have H1:=zh h1;have H2:=zh h2;have H3:=zh h3;have HP:=zh ht;clear h1 h2 h3 ht;go_enter Tryz.func37,Tryz.ntmps37
 have HB:=zh (Below.refl w.heap.size w);go_wp2_with fail
 refine wp_loop_rounds 4 ?_;rw [rounds_succ];have bm1:∀ W,(Instr.index 42 (.agg #[.int .i64 l1,.int .i64 l2,.int .i64 l3,.int .i64 l4,.int .i64 l5,.int .i64 l6]) (.int .i64 0)).run Tryz.prog W= .ok (.agg #[.int .i64 l1,.int .i64 l2]) W:=fun W=>by kernel_rfl
 go_wp2_with fail
 clear bm1;obtain ⟨w5,EW,hz,X1,X2,X3⟩:=yx w #[.int .i64 l1,.int .i64 l2,.int .i64 l3,.int .i64 l4,.int .i64 l5,.int .i64 l6] 42 #[.string s1,.string s2,.string s3,.string s4,.string s5,.string s6] 34 #[.int .i64 l1,.int .i64 l2] 40;rw [EW];clear EW;replace HB:=zh (Bt HB.out hz);clear hz;refine aC [(.read,0),(.pure,1),(.pure,2),(.read,3),(.ext,4),(.pure,5),(.pure,6),(.pure,7),(.fin,8),(.fin,9)] zk zk zR zP ?_;refine Wk.out ?_;obtain ⟨rF,rA,sH⟩:=X3.clf;obtain ⟨iF,iE,iO⟩:=X2.clf;refine zS ?_;clear rF rA sH iF iE iO;refine dP rfl rfl (fun we hbe J hJ=>?_);go_simp;have hx:Below w5.heap.size w5 we:=au;have yB:=zh (Bt HB.out hx);refine (H1.out _ (HP.out.later yB.out)).mono ?_;rintro e u6 ⟨rfl,h⟩;have hy:=Bt hx h;refine hJ _ _ h ?_;clear hJ J hbe hx h yB;replace X1:=X1.bl hy;replace X2:=X2.bl hy;replace X3:=X3.bl hy;replace HB:=zh (Bt HB.out hy);clear hy
 obtain ⟨rF,rA,sH⟩:=X3.clf;obtain ⟨iF,iE,iO⟩:=X2.clf;refine zS ?_;clear rF rA sH iF iE iO;refine rY [_,_] rfl (fun u7 hbf=>?_);have hy:Below u6.heap.size u6 u7:=au;replace X1:=X1.bl hy;replace X2:=X2.bl hy;replace X3:=X3.bl hy;replace HB:=zh (Bt HB.out hy);clear hy hbf;obtain ⟨gJ,gI,gN⟩:=X1.clf;obtain ⟨iF,iE,iO⟩:=X2.clf;obtain ⟨rF,rA,sH⟩:=X3.clf;go_wp2_with fail
 clear gJ gI gN iF iE iO rF rA sH;rw [rounds_succ];have bm0:∀ W,(Instr.index 42 (.agg #[.int .i64 l1,.int .i64 l2,.int .i64 l3,.int .i64 l4,.int .i64 l5,.int .i64 l6]) (.int .i64 1)).run Tryz.prog W= .ok (.agg #[.int .i64 l3,.int .i64 l4]) W:=fun W=>by kernel_rfl
 obtain ⟨gJ,gI,gN⟩:=X1.clf;obtain ⟨iF,iE,iO⟩:=X2.clf;obtain ⟨rF,rA,sH⟩:=X3.clf;go_wp2_with fail
 clear gJ gI gN iF iE iO rF rA sH;clear bm0;obtain ⟨w10,EW,hz,X8⟩:=rG u7 #[.int .i64 l3,.int .i64 l4] 40;rw [EW];clear EW;replace X1:=X1.bl hz;replace X2:=X2.bl hz;replace X3:=X3.bl hz;replace HB:=zh (Bt HB.out hz);clear hz;obtain ⟨p10,ep⟩:∃ p,u7.heap.size=p:=⟨_,rfl⟩;rw [ep] at X8 ⊢;clear ep;refine aC [(.read,0),(.pure,1),(.pure,2),(.read,3),(.ext,4),(.pure,5),(.pure,6),(.pure,7),(.fin,8),(.fin,9)] zk zk zR zP ?_;refine Wk.out ?_;obtain ⟨cX8,lX8,fX8⟩:=X8.clf;obtain ⟨iF,iE,iO⟩:=X2.clf;refine zS ?_;clear cX8 lX8 fX8 iF iE iO;refine dP rfl rfl (fun we hbe J hJ=>?_);go_simp;have hx:Below w10.heap.size w10 we:=au;have yB:=zh (Bt HB.out hx);refine (H2.out _ (HP.out.later yB.out)).mono ?_;rintro e u11 ⟨rfl,h⟩;have hy:=Bt hx h;refine hJ _ _ h ?_;clear hJ J hbe hx h yB;replace X1:=X1.bl hy;replace X2:=X2.bl hy;replace X3:=X3.bl hy;replace X8:=X8.bl hy
 replace HB:=zh (Bt HB.out hy);clear hy;obtain ⟨cX8,lX8,fX8⟩:=X8.clf;obtain ⟨iF,iE,iO⟩:=X2.clf;refine zS ?_;clear cX8 lX8 fX8 iF iE iO;refine rY [_,_] rfl (fun u12 hbf=>?_);have hy:Below u11.heap.size u11 u12:=au;replace X1:=X1.bl hy;replace X2:=X2.bl hy;replace X3:=X3.bl hy;replace X8:=X8.bl hy;replace HB:=zh (Bt HB.out hy);clear hy hbf;obtain ⟨gJ,gI,gN⟩:=X1.clf;obtain ⟨iF,iE,iO⟩:=X2.clf;obtain ⟨rF,rA,sH⟩:=X3.clf;obtain ⟨cX8,lX8,fX8⟩:=X8.clf;go_wp2_with fail
 clear gJ gI gN iF iE iO rF rA sH cX8 lX8 fX8;rw [rounds_succ];have ba5:∀ W,(Instr.index 42 (.agg #[.int .i64 l1,.int .i64 l2,.int .i64 l3,.int .i64 l4,.int .i64 l5,.int .i64 l6]) (.int .i64 2)).run Tryz.prog W= .ok (.agg #[.int .i64 l5,.int .i64 l6]) W:=fun W=>by kernel_rfl
 obtain ⟨gJ,gI,gN⟩:=X1.clf;obtain ⟨iF,iE,iO⟩:=X2.clf;obtain ⟨rF,rA,sH⟩:=X3.clf;obtain ⟨cX8,lX8,fX8⟩:=X8.clf;go_wp2_with fail
 clear gJ gI gN iF iE iO rF rA sH cX8 lX8 fX8;clear ba5;obtain ⟨w15,EW,hz,Sn⟩:=rG u12 #[.int .i64 l5,.int .i64 l6] 40;rw [EW];clear EW;replace X1:=X1.bl hz;replace X2:=X2.bl hz;replace X3:=X3.bl hz;replace X8:=X8.bl hz;replace HB:=zh (Bt HB.out hz);clear hz;obtain ⟨p15,ep⟩:∃ p,u12.heap.size=p:=⟨_,rfl⟩;rw [ep] at Sn ⊢;clear ep;refine aC [(.read,0),(.pure,1),(.pure,2),(.read,3),(.ext,4),(.pure,5),(.pure,6),(.pure,7),(.fin,8),(.fin,9)] zk zk zR zP ?_;refine Wk.out ?_;have Vv:=Sn.out.cell;have UL:=Sn.out.lt;have Vp:=Sn.out.free;obtain ⟨iF,iE,iO⟩:=X2.clf;refine zS ?_;clear Vv UL Vp iF iE iO;refine dP rfl rfl (fun we hbe J hJ=>?_);go_simp;have hx:Below w15.heap.size w15 we:=au;have yB:=zh (Bt HB.out hx);refine (H3.out _ (HP.out.later yB.out)).mono ?_;rintro e u16 ⟨rfl,h⟩;have hy:=Bt hx h;refine hJ _ _ h ?_;clear hJ J hbe hx h yB
 replace X1:=X1.bl hy;replace X2:=X2.bl hy;replace X3:=X3.bl hy;replace X8:=X8.bl hy;replace Sn:=Sn.bl hy;replace HB:=zh (Bt HB.out hy);clear hy;have Vv:=Sn.out.cell;have UL:=Sn.out.lt;have Vp:=Sn.out.free;obtain ⟨iF,iE,iO⟩:=X2.clf;refine zS ?_;clear Vv UL Vp iF iE iO;refine rY [_,_] rfl (fun u17 hbf=>?_);have hy:Below u16.heap.size u16 u17:=au;replace X1:=X1.bl hy;replace X2:=X2.bl hy;replace X3:=X3.bl hy;replace X8:=X8.bl hy;replace Sn:=Sn.bl hy;replace HB:=zh (Bt HB.out hy);clear hy hbf;obtain ⟨gJ,gI,gN⟩:=X1.clf;obtain ⟨iF,iE,iO⟩:=X2.clf;obtain ⟨rF,rA,sH⟩:=X3.clf;obtain ⟨cX8,lX8,fX8⟩:=X8.clf;have Vv:=Sn.out.cell;have UL:=Sn.out.lt;have Vp:=Sn.out.free;go_wp2_with fail
 clear gJ gI gN iF iE iO rF rA sH cX8 lX8 fX8 Vv UL Vp;rw [rounds_succ];obtain ⟨gJ,gI,gN⟩:=X1.clf;obtain ⟨iF,iE,iO⟩:=X2.clf;obtain ⟨rF,rA,sH⟩:=X3.clf;obtain ⟨cX8,lX8,fX8⟩:=X8.clf;have Vv:=Sn.out.cell;have UL:=Sn.out.lt;have Vp:=Sn.out.free;go_wp2_with fail
 clear gJ gI gN iF iE iO rF rA sH cX8 lX8 fX8 Vv UL Vp;go_ret;exact ⟨rfl,HB.out⟩
end Go.Proofs.verdigrislaw24
namespace Go.Proofs.bH
open Go Go.RowKit Go.SW Go.Num Go.Mem Go.Proofs Go.eF Go.Fx
def Ap (n:Int):Rat:=(n:Rat) / ((100:Int):Rat)
theorem NK {n:Int} (h:n.natAbs≤12800):Hq 5 (Ap n):=⟨n,100,by omega,by decide,Nat.le_trans h zd,rfl⟩
theorem UZ {m n:Int} (h:m≤n*100):Ap m≤(n:Rat):=by
 have h1:(m:Rat)≤((n*100:Int):Rat):=Rat.intCast_le_intCast.2 h;rw [Rat.intCast_mul] at h1;have i:(0:Rat)<(((100:Int):Rat))⁻¹:=by decide+kernel
 have o:((100:Int):Rat)*(((100:Int):Rat))⁻¹=1:=by decide+kernel
 have h2:=Rat.mul_le_mul_of_nonneg_right h1 (Rat.le_of_lt i);rw [Rat.mul_assoc,o,Rat.mul_one] at h2;unfold Ap;rw [Rat.div_def];exact h2
theorem UJ {m n:Int} (h:n*100≤m):(n:Rat)≤Ap m:=by
 have h1:((n*100:Int):Rat)≤(m:Rat):=Rat.intCast_le_intCast.2 h;rw [Rat.intCast_mul] at h1;have i:(0:Rat)<(((100:Int):Rat))⁻¹:=by decide+kernel
 have o:((100:Int):Rat)*(((100:Int):Rat))⁻¹=1:=by decide+kernel
 have h2:=Rat.mul_le_mul_of_nonneg_right h1 (Rat.le_of_lt i);rw [Rat.mul_assoc,o,Rat.mul_one] at h2;unfold Ap;rw [Rat.div_def];exact h2
theorem Ux {n:Int} (h:n.natAbs≤12800) (w:World):Calls Tryz.prog 40 #[.int .i64 n,.int .i64 100] w (fun e w'=>e= .returned (.agg #[.string (Fr.of (Ap n)).n,.string (Fr.of (Ap n)).d])∧Below w.heap.size w w'):=by
 have h1:=aO.nu n 100 zo zo zo zo w
 have e:(kN n 100).1=Fr.of (Ap n):=by
  unfold kN wr;rw [if_neg zo];have hk:rz ((n:Rat) / ((100:Int):Rat))=true:=(NK h).ok zo;rw [if_pos hk];rfl
 rw [e] at h1;exact h1
structure bf9 (p a b:Rat):Prop where
 hp:Hq 5 p
 ha:Hq 5 a
 hb:Hq 5 b
 p0:0≤p
 p1:p≤100
 a0: -128≤a
 a1:a≤128
 b0: -128≤b
 b1:b≤128
theorem LabTri_at (L A B:Int) (hL:0≤L∧L≤65535) (hA: -32768≤A∧A≤32767) (hB: -32768≤B∧B≤32767) (w:World) :
  Calls Tryz.prog 24 #[.agg #[.int .u16 L,.int .i16 A,.int .i16 B]] w (fun e w'=>e= .returned (.agg #[.string (Fr.of (Ap (Int.tmod L 10001))).n,.string (Fr.of (Ap (Int.tmod L 10001))).d,.string (Fr.of (Ap (Int.tmod A 12801))).n,.string (Fr.of (Ap (Int.tmod A 12801))).d,.string (Fr.of (Ap (Int.tmod B 12801))).n,.string (Fr.of (Ap (Int.tmod B 12801))).d])∧Below w.heap.size w w'):=by
 have l1:=Int.tmod_lt_of_pos L (show 0<10001 by omega);have l2:=Int.tmod_nonneg (10001:Int) hL.1;have m1:=Int.tmod_lt_of_pos A (show 0<12801 by omega);have m2:=Int.lt_tmod_of_pos A (show 0<12801 by omega);have n1:=Int.tmod_lt_of_pos B (show 0<12801 by omega);have n2:=Int.lt_tmod_of_pos B (show 0<12801 by omega);have C1:=fun W=>Ux (n:=Int.tmod L 10001) zo W;have C2:=fun W=>Ux (n:=Int.tmod A 12801) zo W;have C3:=fun W=>Ux (n:=Int.tmod B 12801) zo W;generalize Fr.of (Ap (Int.tmod L 10001))=x at *;generalize Fr.of (Ap (Int.tmod A 12801))=y at *;generalize Fr.of (Ap (Int.tmod B 12801))=z at *;obtain ⟨x1,x2⟩:=x;obtain ⟨y1,y2⟩:=y;obtain ⟨z1,z2⟩:=z;obtain ⟨L1,L2⟩:=hL;obtain ⟨A1,A2⟩:=hA;obtain ⟨B1,B2⟩:=hB;simp only at *;refine Fx.door Tryz.func24 rfl (.nil w []) ?_;refine Fx.new [] 1 #[.int .u16 L,.int .i16 A,.int .i16 B] 60 [] [] fun fF=>?_
 refine Fx.aP [] 2 34 [] [] fun dZ=>?_;refine Fx.draw [] [0,1,2,3,5,6,7,8,10,11,12,13,4,9,14,15,16] [] [] [] ?_;refine Fx.part 3 [3] [(5,.int .i64 (IntKind.i64.wrap L))] [] ?_;refine Fx.av3 (.int .i64 (L)) (Fx.wrap_i64 zo zo) ?_;refine Fx.part 4 [3] [(10,.int .i64 (IntKind.i64.wrap A)),(6,.int .i64 (Int.tmod (L) 10001))] [] ?_;refine Fx.av3 (.int .i64 (A)) (Fx.wrap_i64 zo zo) ?_;refine Fx.part 4 [3] [(15,.int .i64 (IntKind.i64.wrap B)),(11,.int .i64 (Int.tmod (A) 12801))] [] ?_;refine Fx.av3 (.int .i64 (B)) (Fx.wrap_i64 zo zo) ?_;refine Fx.aV [] 7 [(16,.int .i64 (Int.tmod (B) 12801))] [] C1 ?_;refine Fx.aV [] 12 [] [] C2 ?_;refine Fx.aV [] 17 [] [] C3 ?_;exact Fx.iq 1 dZ [4] [(1,#[.string x1,.string x2,.string y1,.string y2,.string z1,.string z2])] (fun W M=>⟨rfl,M.below⟩)
theorem ac5 (L A B:Int) (hL:0≤L∧L≤65535) (hA: -32768≤A∧A≤32767) (hB: -32768≤B∧B≤32767):∃ p a b:Rat,bf9 p a b∧∀ w:World,
  Calls Tryz.prog 24 #[.agg #[.int .u16 L,.int .i16 A,.int .i16 B]] w (fun e w'=>e= .returned (.agg #[.string (Fr.of p).n,.string (Fr.of p).d,.string (Fr.of a).n,.string (Fr.of a).d,.string (Fr.of b).n,.string (Fr.of b).d])∧Below w.heap.size w w'):=by
 have l1:=Int.tmod_lt_of_pos L (show 0<10001 by omega);have l2:=Int.tmod_nonneg (10001:Int) hL.1;have m1:=Int.tmod_lt_of_pos A (show 0<12801 by omega);have m2:=Int.lt_tmod_of_pos A (show 0<12801 by omega);have n1:=Int.tmod_lt_of_pos B (show 0<12801 by omega);have n2:=Int.lt_tmod_of_pos B (show 0<12801 by omega);exact ⟨_,_,_,⟨NK zo,NK zo,NK zo,UJ (n:=0) zo,UZ (n:=100) zo,UJ (n:= -128) zo,UZ (n:=128) zo,UJ (n:= -128) zo,UZ (n:=128) zo⟩,LabTri_at L A B hL hA hB⟩
end Go.Proofs.bH
namespace Go.Proofs.verdigrislaw24
open Go Go.RowKit Go.SW Go.Num Go.Mem Go.Proofs Go.Dec Go.eF Go.Proofs.lab Go.Proofs.aY
theorem aq0 {L A B a0 a1 a2:Int} {t1 t2 t3 t4 t5 t6 x1 x2 x3 x4 x5 x6 c1 c2 c3 c4 c5 c6 g1 g2 g3 g4 g5 g6:ByteArray}
  (R:Hd (∀ W,fM.Pow W→whole.Er W→Calls Tryz.prog 24 #[.agg #[.int .u16 L,.int .i16 A,.int .i16 B]] W (fun e w'=>e= .returned (.agg #[.string t1,.string t2,.string t3,.string t4,.string t5,.string t6])∧Below W.heap.size W w')))
  (V:Hd (∀ W,fM.Pow W→whole.Er W→Calls Tryz.prog 12 #[.agg #[.int .u16 a0,.int .u16 a1,.int .u16 a2]] W (fun e w'=>e= .returned (.agg #[.string x1,.string x2,.string x3,.string x4,.string x5,.string x6])∧Below W.heap.size W w')))
  (C1:Hd (∀ W,fM.Pow W→whole.Er W→Calls Tryz.prog 25 #[.agg #[.string t1,.string t2,.string t3,.string t4,.string t5,.string t6]] W (fun e w'=>e= .returned (.tuple #[.agg #[.string c1,.string c2,.string c3,.string c4,.string c5,.string c6],.int .i64 0])∧Below W.heap.size W w')))
  (C2:Hd (∀ W,fM.Pow W→whole.Er W→Calls Tryz.prog 27 #[.agg #[.string c1,.string c2,.string c3,.string c4,.string c5,.string c6]] W (fun e w'=>e= .returned (.tuple #[.agg #[.string t1,.string t2,.string t3,.string t4,.string t5,.string t6],.int .i64 0])∧Below W.heap.size W w')))
  (C3:Hd (∀ W,fM.Pow W→whole.Er W→Calls Tryz.prog 32 #[.agg #[.string t1,.string t2,.string t3,.string t4,.string t5,.string t6],.agg #[.string x1,.string x2,.string x3,.string x4,.string x5,.string x6]] W (fun e w'=>e= .returned (.tuple #[.agg #[.string g1,.string g2,.string g3,.string g4,.string g5,.string g6],.int .i64 9])∧Below W.heap.size W w')))
  (w:World) (ht:fM.Pow w) (he:whole.Er w) :
  Calls Tryz.prog 8 #[.agg #[.int .u16 L,.int .i16 A,.int .i16 B],.agg #[.int .u16 a0,.int .u16 a1,.int .u16 a2]] w (fun e w'=>e= .returned (.bool true)∧Below w.heap.size w w'):=by
 refine Fx.door Tryz.func8 rfl (.nil w []) ?_;refine Fx.new [] 2 #[.int .u16 L,.int .i16 A,.int .i16 B] 60 [] [] fun fF=>?_;refine Fx.new [] 3 #[.int .u16 a0,.int .u16 a1,.int .u16 a2] 24 [] [] fun dZ=>?_;refine Fx.call [] 20 [] [] (fun W M=>FH _ (ht.later M.below) (he.later M.below)) ?_;refine Fx.draw [2] [0,2,1,3,4,5,6,7] [] [] [] ?_;refine Fx.call [3,4] 23 [(24,.agg #[.int .u16 a0,.int .u16 a1,.int .u16 a2])] [] (fun W M=>R.out _ (ht.later M.below) (he.later M.below)) ?_;refine Fx.call [] 25 [] [] (fun W M=>V.out _ (ht.later M.below) (he.later M.below)) ?_;refine Fx.mI [] 5 34 [] [] fun gP=>?_;refine Fx.mI [] 6 34 [] [] fun AV=>?_;refine Fx.call [5,6,5] 28 [] [(2,#[.string t1,.string t2,.string t3,.string t4,.string t5,.string t6]),(3,#[.string x1,.string x2,.string x3,.string x4,.string x5,.string x6])] (fun W M=>C1.out _ (ht.later M.below) (he.later M.below)) ?_
 refine Fx.aP [] 7 34 [(29,.agg #[.string c1,.string c2,.string c3,.string c4,.string c5,.string c6]),(30,.int .i64 0)] [] fun bz5=>?_;refine Fx.call [7,7] 33 [(8,.int .i64 0)] [(4,#[.string c1,.string c2,.string c3,.string c4,.string c5,.string c6])] (fun W M=>C2.out _ (ht.later M.below) (he.later M.below)) ?_;refine Fx.aP [] 9 34 [(34,.agg #[.string t1,.string t2,.string t3,.string t4,.string t5,.string t6]),(35,.int .i64 0)] [] fun bz6=>?_;refine Fx.eql 16 [8,8,5] 45 false true 34 (.agg #[.string t1,.string t2,.string t3,.string t4,.string t5,.string t6]) (.agg #[.string t1,.string t2,.string t3,.string t4,.string t5,.string t6]) [(42,.bool false)] [(5,#[.string t1,.string t2,.string t3,.string t4,.string t5,.string t6])] (fun _=>mo _ _ _ _ _ _ _) ?_;refine Fx.call [2,5,6] 50 [] [] (fun W M=>C3.out _ (ht.later M.below) (he.later M.below)) ?_
 refine Fx.aP [] 11 34 [(51,.agg #[.string g1,.string g2,.string g3,.string g4,.string g5,.string g6]),(52,.int .i64 9)] [] fun bz7=>?_;exact Fx.yQ [9,1] [(6,#[.string g1,.string g2,.string g3,.string g4,.string g5,.string g6])] (fun W M=>⟨rfl,M.below⟩)
theorem aa7 {L A B a0 a1 a2:Int} {t1 t2 t3 t4 t5 t6 x1 x2 x3 x4 x5 x6 c1 c2 c3 c4 c5 c6 g1 g2 g3 g4 g5 g6:ByteArray} {l1 l2 l3 l4 l5 l6 b1 b2 b3 b4 b5 b6 m1 m2 m3 m4 m5 m6:Int}
  (R:Hd (∀ W,fM.Pow W→whole.Er W→Calls Tryz.prog 24 #[.agg #[.int .u16 L,.int .i16 A,.int .i16 B]] W (fun e w'=>e= .returned (.agg #[.string t1,.string t2,.string t3,.string t4,.string t5,.string t6])∧Below W.heap.size W w')))
  (V:Hd (∀ W,fM.Pow W→whole.Er W→Calls Tryz.prog 12 #[.agg #[.int .u16 a0,.int .u16 a1,.int .u16 a2]] W (fun e w'=>e= .returned (.agg #[.string x1,.string x2,.string x3,.string x4,.string x5,.string x6])∧Below W.heap.size W w')))
  (C1:Hd (∀ W,fM.Pow W→whole.Er W→Calls Tryz.prog 25 #[.agg #[.string t1,.string t2,.string t3,.string t4,.string t5,.string t6]] W (fun e w'=>e= .returned (.tuple #[.agg #[.string c1,.string c2,.string c3,.string c4,.string c5,.string c6],.int .i64 0])∧Below W.heap.size W w')))
  (C2:Hd (∀ W,fM.Pow W→whole.Er W→Calls Tryz.prog 27 #[.agg #[.string c1,.string c2,.string c3,.string c4,.string c5,.string c6]] W (fun e w'=>e= .returned (.tuple #[.agg #[.string t1,.string t2,.string t3,.string t4,.string t5,.string t6],.int .i64 0])∧Below W.heap.size W w')))
  (C3:Hd (∀ W,fM.Pow W→whole.Er W→Calls Tryz.prog 32 #[.agg #[.string t1,.string t2,.string t3,.string t4,.string t5,.string t6],.agg #[.string x1,.string x2,.string x3,.string x4,.string x5,.string x6]] W (fun e w'=>e= .returned (.tuple #[.agg #[.string g1,.string g2,.string g3,.string g4,.string g5,.string g6],.int .i64 0])∧Below W.heap.size W w')))
  (C4:Hd (∀ W,fM.Pow W→whole.Er W→Calls Tryz.prog 14 #[.agg #[.string g1,.string g2,.string g3,.string g4,.string g5,.string g6],.agg #[.string x1,.string x2,.string x3,.string x4,.string x5,.string x6]] W (fun e w'=>e= .returned (.tuple #[.agg #[.int .i64 l1,.int .i64 l2,.int .i64 l3,.int .i64 l4,.int .i64 l5,.int .i64 l6],.int .i64 0])∧Below W.heap.size W w')))
  (A0:Hd (∀ W,fM.Pow W→whole.Er W→Calls Tryz.prog 36 #[.agg #[.string t1,.string t2]] W (fun e w'=>e= .returned (.tuple #[.agg #[.int .i64 b1,.int .i64 b2],.int .i64 0])∧Below W.heap.size W w')))
  (A1:Hd (∀ W,fM.Pow W→whole.Er W→Calls Tryz.prog 36 #[.agg #[.string t3,.string t4]] W (fun e w'=>e= .returned (.tuple #[.agg #[.int .i64 b3,.int .i64 b4],.int .i64 0])∧Below W.heap.size W w')))
  (A2:Hd (∀ W,fM.Pow W→whole.Er W→Calls Tryz.prog 36 #[.agg #[.string t5,.string t6]] W (fun e w'=>e= .returned (.tuple #[.agg #[.int .i64 b5,.int .i64 b6],.int .i64 0])∧Below W.heap.size W w')))
  (C5:Hd (∀ W,fM.Pow W→whole.Er W→Calls Tryz.prog 34 #[.agg #[.int .i64 b1,.int .i64 b2,.int .i64 b3,.int .i64 b4,.int .i64 b5,.int .i64 b6],.agg #[.string x1,.string x2,.string x3,.string x4,.string x5,.string x6]] W (fun e w'=>e= .returned (.tuple #[.agg #[.int .i64 m1,.int .i64 m2,.int .i64 m3,.int .i64 m4,.int .i64 m5,.int .i64 m6],.int .i64 0])∧Below W.heap.size W w')))
  (H1:Hd (∀ W,fM.Pow W→whole.Er W→Calls Tryz.prog 37 #[.agg #[.int .i64 l1,.int .i64 l2,.int .i64 l3,.int .i64 l4,.int .i64 l5,.int .i64 l6],.agg #[.string t1,.string t2,.string t3,.string t4,.string t5,.string t6]] W (fun e w'=>e= .returned (.bool true)∧Below W.heap.size W w')))
  (H2:Hd (∀ W,fM.Pow W→whole.Er W→Calls Tryz.prog 37 #[.agg #[.int .i64 m1,.int .i64 m2,.int .i64 m3,.int .i64 m4,.int .i64 m5,.int .i64 m6],.agg #[.string g1,.string g2,.string g3,.string g4,.string g5,.string g6]] W (fun e w'=>e= .returned (.bool true)∧Below W.heap.size W w')))
  (w:World) (ht:fM.Pow w) (he:whole.Er w) :
  Calls Tryz.prog 8 #[.agg #[.int .u16 L,.int .i16 A,.int .i16 B],.agg #[.int .u16 a0,.int .u16 a1,.int .u16 a2]] w (fun e w'=>e= .returned (.bool true)∧Below w.heap.size w w'):=by
 refine Fx.door Tryz.func8 rfl (.nil w []) ?_;refine Fx.new [] 2 #[.int .u16 L,.int .i16 A,.int .i16 B] 60 [] [] fun fF=>?_;refine Fx.new [] 3 #[.int .u16 a0,.int .u16 a1,.int .u16 a2] 24 [] [] fun dZ=>?_;refine Fx.call [] 20 [] [] (fun W M=>FH _ (ht.later M.below) (he.later M.below)) ?_;refine Fx.draw [2] [0,2,1,3,4,5,6,7] [] [] [] ?_;refine Fx.call [3,4] 23 [(24,.agg #[.int .u16 a0,.int .u16 a1,.int .u16 a2])] [] (fun W M=>R.out _ (ht.later M.below) (he.later M.below)) ?_;refine Fx.call [] 25 [] [] (fun W M=>V.out _ (ht.later M.below) (he.later M.below)) ?_;refine Fx.mI [] 5 34 [] [] fun gP=>?_;refine Fx.mI [] 6 34 [] [] fun AV=>?_;refine Fx.call [5,6,5] 28 [] [(2,#[.string t1,.string t2,.string t3,.string t4,.string t5,.string t6]),(3,#[.string x1,.string x2,.string x3,.string x4,.string x5,.string x6])] (fun W M=>C1.out _ (ht.later M.below) (he.later M.below)) ?_
 refine Fx.aP [] 7 34 [(29,.agg #[.string c1,.string c2,.string c3,.string c4,.string c5,.string c6]),(30,.int .i64 0)] [] fun bz5=>?_;refine Fx.call [7,7] 33 [(8,.int .i64 0)] [(4,#[.string c1,.string c2,.string c3,.string c4,.string c5,.string c6])] (fun W M=>C2.out _ (ht.later M.below) (he.later M.below)) ?_;refine Fx.aP [] 9 34 [(34,.agg #[.string t1,.string t2,.string t3,.string t4,.string t5,.string t6]),(35,.int .i64 0)] [] fun bz6=>?_;refine Fx.eql 16 [8,8,5] 45 false true 34 (.agg #[.string t1,.string t2,.string t3,.string t4,.string t5,.string t6]) (.agg #[.string t1,.string t2,.string t3,.string t4,.string t5,.string t6]) [(42,.bool false)] [(5,#[.string t1,.string t2,.string t3,.string t4,.string t5,.string t6])] (fun _=>mo _ _ _ _ _ _ _) ?_;refine Fx.call [2,5,6] 50 [] [] (fun W M=>C3.out _ (ht.later M.below) (he.later M.below)) ?_
 refine Fx.aP [] 11 34 [(51,.agg #[.string g1,.string g2,.string g3,.string g4,.string g5,.string g6]),(52,.int .i64 0)] [] fun bz7=>?_;refine Fx.call [9,2,9,6] 60 [(8,.int .i64 0)] [(6,#[.string g1,.string g2,.string g3,.string g4,.string g5,.string g6])] (fun W M=>C4.out _ (ht.later M.below) (he.later M.below)) ?_;refine Fx.aP [] 12 42 [(61,.agg #[.int .i64 l1,.int .i64 l2,.int .i64 l3,.int .i64 l4,.int .i64 l5,.int .i64 l6]),(62,.int .i64 0)] [] fun bz8=>?_;refine Fx.aP [10] 13 42 [(10,.int .i64 0)] [(7,#[.int .i64 l1,.int .i64 l2,.int .i64 l3,.int .i64 l4,.int .i64 l5,.int .i64 l6])] fun bz9=>?_;refine Fx.aP [5,1] 15 32 [(63,.agg #[.string t1,.string t2,.string t3,.string t4,.string t5,.string t6]),(64,.int .i64 0),(66,.int .i64 0),(67,.agg #[.string t1,.string t2])] [] fun aB8=>?_
 refine Fx.call [12,12] 70 [(14,.int .i64 0)] [(9,#[.string t1,.string t2])] (fun W M=>A0.out _ (ht.later M.below) (he.later M.below)) ?_;refine Fx.aP [] 16 40 [(71,.agg #[.int .i64 b1,.int .i64 b2]),(72,.int .i64 0)] [] fun bf1=>?_;refine Fx.aP [13,2,13,11,1] 15 32 [(64,.int .i64 1),(66,.int .i64 1),(67,.agg #[.string t3,.string t4])] [(8,#[.int .i64 b1,.int .i64 b2,.int .i64 0,.int .i64 0,.int .i64 0,.int .i64 0]),(10,#[.int .i64 b1,.int .i64 b2])] fun aB7=>?_;refine Fx.call [14,14] 70 [(14,.int .i64 1)] [(11,#[.string t3,.string t4])] (fun W M=>A1.out _ (ht.later M.below) (he.later M.below)) ?_;refine Fx.aP [] 16 40 [(71,.agg #[.int .i64 b3,.int .i64 b4]),(72,.int .i64 0)] [] fun bp0=>?_
 refine Fx.aP [15,2,15,11,1] 15 32 [(64,.int .i64 2),(66,.int .i64 2),(67,.agg #[.string t5,.string t6])] [(8,#[.int .i64 b1,.int .i64 b2,.int .i64 b3,.int .i64 b4,.int .i64 0,.int .i64 0]),(12,#[.int .i64 b3,.int .i64 b4])] fun aQ1=>?_;refine Fx.call [16,16] 70 [(14,.int .i64 2)] [(13,#[.string t5,.string t6])] (fun W M=>A2.out _ (ht.later M.below) (he.later M.below)) ?_;refine Fx.aP [] 16 40 [(71,.agg #[.int .i64 b5,.int .i64 b6]),(72,.int .i64 0)] [] fun RU=>?_;refine Fx.call [17,2,17,11,2,11,6] 82 [(64,.int .i64 3)] [(8,#[.int .i64 b1,.int .i64 b2,.int .i64 b3,.int .i64 b4,.int .i64 b5,.int .i64 b6]),(14,#[.int .i64 b5,.int .i64 b6])] (fun W M=>C5.out _ (ht.later M.below) (he.later M.below)) ?_;refine Fx.aP [] 18 42 [(83,.agg #[.int .i64 m1,.int .i64 m2,.int .i64 m3,.int .i64 m4,.int .i64 m5,.int .i64 m6]),(84,.int .i64 0)] [] fun bf0=>?_
 refine Fx.call [18,10,5] 94 [(91,.bool true)] [(15,#[.int .i64 m1,.int .i64 m2,.int .i64 m3,.int .i64 m4,.int .i64 m5,.int .i64 m6])] (fun W M=>H1.out _ (ht.later M.below) (he.later M.below)) ?_;refine Fx.call [18,9] 99 [(96,.bool true)] [] (fun W M=>H2.out _ (ht.later M.below) (he.later M.below)) ?_;exact Fx.yQ [] [] (fun W M=>⟨rfl,M.below⟩)
end Go.Proofs.verdigrislaw24
namespace Go.Proofs.verdigrislaw24
open Go Go.RowKit Go.SW Go.Num Go.Mem Go.Proofs Go.Dec Go.eF Go.Proofs.lab Go.Proofs.aY
theorem ME {a:Int} (h:0≤a):Hq 4 (q2 (1+a%2000) 1000)∧0<q2 (1+a%2000) 1000:=by
 have e:iC 4=10000:=by decide
 have h1:=Int.emod_nonneg a (show (2000:Int)≠0 by decide);have h2:=Int.emod_lt_of_pos a (show (0:Int)<2000 by decide);refine ⟨⟨1+a%2000,1000,by omega,by omega,by omega,rfl⟩,?_⟩;unfold q2;rw [Rat.div_def];exact Rat.mul_pos (Rat.intCast_pos.2 zo) (by decide+kernel)
end Go.Proofs.verdigrislaw24
namespace Go.Proofs.verdigrislaw24
open Go Go.RowKit Go.SW Go.Num Go.Mem Go.Proofs Go.Dec Go.eF Go.Proofs.lab Go.Proofs.aY Go.Proofs.aL Go.Proofs.matrix Go.Proofs.bH
theorem Ga {a:Int}:q2 (1+a%2000) 1000≤2:=by
 have h2:=Int.emod_lt_of_pos a (show (0:Int)<2000 by decide);have h1:((1+a%2000:Int):Rat)≤((2000:Int):Rat):=Rat.intCast_le_intCast.2 zo;have i:(0:Rat)<(((1000:Int):Rat))⁻¹:=by decide+kernel
 have o:((2000:Int):Rat)*(((1000:Int):Rat))⁻¹=2:=by decide+kernel
 have h3:=Rat.mul_le_mul_of_nonneg_right h1 (Rat.le_of_lt i);rw [o] at h3;unfold q2;rw [Rat.div_def];exact h3
theorem Ct {f:Fr} {b:Int × Int} (h:aL.dO f=(b,0)) (W:World) (ht:fM.Pow W) (he:whole.Er W):Calls Tryz.prog 36 #[.agg #[.string f.n,.string f.d]] W (fun e w'=>e= .returned (.tuple #[.agg #[.int .i64 b.1,.int .i64 b.2],.int .i64 0])∧Below W.heap.size W w'):=by
 obtain ⟨s,t⟩:=f;obtain ⟨x,y⟩:=b;exact Yt h W ht he
theorem Vy {t v:(Int × Int) × (Int × Int) × (Int × Int)} {w:light.jl} (h:wW t w=(v,0)) (W:World) (ht:fM.Pow W) (he:whole.Er W) :
  Calls Tryz.prog 34 #[.agg #[.int .i64 t.1.1,.int .i64 t.1.2,.int .i64 t.2.1.1,.int .i64 t.2.1.2,.int .i64 t.2.2.1,.int .i64 t.2.2.2],.agg #[.string w.x.n,.string w.x.d,.string w.y.n,.string w.y.d,.string w.z.n,.string w.z.d]] W (fun e w'=>e= .returned (.tuple #[.agg #[.int .i64 v.1.1,.int .i64 v.1.2,.int .i64 v.2.1.1,.int .i64 v.2.1.2,.int .i64 v.2.2.1,.int .i64 v.2.2.2],.int .i64 0])∧Below W.heap.size W w') :=
 (aR7 (dM.of h) W ht he).mono fun _ _ g=>IW g fun hk=>absurd rfl hk
theorem al8 {l:(Int × Int) × (Int × Int) × (Int × Int)} {p q r:Rat} {M:Int} (h1:In l.1 p M) (h2:In l.2.1 q M) (h3:In l.2.2 r M) (hM:M≤1000000000000000000) (k1:rz p=true) (k2:rz q=true) (k3:rz r=true) (W:World) (ht:fM.Pow W) :
  Calls Tryz.prog 37 #[.agg #[.int .i64 l.1.1,.int .i64 l.1.2,.int .i64 l.2.1.1,.int .i64 l.2.1.2,.int .i64 l.2.2.1,.int .i64 l.2.2.2],.agg #[.string (Fr.of p).n,.string (Fr.of p).d,.string (Fr.of q).n,.string (Fr.of q).d,.string (Fr.of r).n,.string (Fr.of r).d]] W (fun e w'=>e= .returned (.bool true)∧Below W.heap.size W w') :=
 aN6 (fun W ht=>aL.Og h1 hM k1 W ht) (fun W ht=>aL.Og h2 hM k2 W ht) (fun W ht=>aL.Og h3 hM k3 W ht) W ht
theorem Vx {L A B a0 a1 a2:Int} {p a b u v z:Rat} (q:bf9 p a b) (h0:Hq 4 u∧0<u) (h1:Hq 4 v∧0<v) (h2:Hq 4 z∧0<z) (u2:u≤2) (v2:v≤2) (z2:z≤2)
  (R:∀ W,Calls Tryz.prog 24 #[.agg #[.int .u16 L,.int .i16 A,.int .i16 B]] W (fun e w'=>e= .returned (.agg #[.string (Fr.of p).n,.string (Fr.of p).d,.string (Fr.of a).n,.string (Fr.of a).d,.string (Fr.of b).n,.string (Fr.of b).d])∧Below W.heap.size W w'))
  (V:∀ W,Calls Tryz.prog 12 #[.agg #[.int .u16 a0,.int .u16 a1,.int .u16 a2]] W (fun e w'=>e= .returned (.agg #[.string (Fr.of u).n,.string (Fr.of u).d,.string (Fr.of v).n,.string (Fr.of v).d,.string (Fr.of z).n,.string (Fr.of z).d])∧Below W.heap.size W w'))
  (w:World) (ht:fM.Pow w) (he:whole.Er w) :
  Calls Tryz.prog 8 #[.agg #[.int .u16 L,.int .i16 A,.int .i16 B],.agg #[.int .u16 a0,.int .u16 a1,.int .u16 a2]] w (fun e w'=>e= .returned (.bool true)∧Below w.heap.size w w'):=by
 have C1:=fun W ht=>encode_at (bd8 q.hp q.ha q.hb) W ht (fun h=>absurd rfl h);have C2:=fun W ht=>decode_at (be0 q.hp q.ha q.hb) W ht (fun h=>absurd rfl h)
 rcases aO3 q.hp q.ha q.hb h0.1 h1.1 h2.1 h0.2 h1.2 h2.2 with e|⟨⟨g1,g2,g3⟩,e⟩
 ·exact aq0 (hd fun W _ _=>R W) (hd fun W _ _=>V W) (hd fun W ht _=>C1 W ht) (hd fun W ht _=>C2 W ht) (hd fun W ht he=>uV e W ht he (fun _=>rfl)) w ht he
 ·obtain ⟨l,el,l1,l2,l3⟩:=bi3 q.hp q.ha q.hb h0.1 h1.1 h2.1 h0.2 h1.2 h2.2 q.p0 q.p1 q.a0 q.a1 q.b0 q.b1 g1 g2 g3;have wi:∀ {x:Rat}, -128≤x→x≤128→Wi (128*1000000000000) x:=fun x0 x1=>YQ 128 x0 x1
  obtain ⟨P,eP,kP⟩:=kS (iI (q.hp.ok zo)) (wi (Rat.le_trans (by decide+kernel) q.p0) (Rat.le_trans q.p1 (by decide+kernel))) zo;obtain ⟨A',eA,kA⟩:=kS (iI (q.ha.ok zo)) (wi q.a0 q.a1) zo;obtain ⟨B',eB,kB⟩:=kS (iI (q.hb.ok zo)) (wi q.b0 q.b1) zo;obtain ⟨m,em,m1,m2,m3⟩:=bp2 h0.1 h1.1 h2.1 h0.2 h1.2 h2.2 u2 v2 z2 kP kA kB;have o:∀ {g u:Rat} {k:Nat},Hq k g→k<30→Hq 4 u→rz (gQ g*u)=true:=fun hg hk hu=>((Io hg).mul hu).ok zo
  exact aa7 (hd fun W _ _=>R W) (hd fun W _ _=>V W) (hd fun W ht _=>C1 W ht) (hd fun W ht _=>C2 W ht) (hd fun W ht he=>uV e W ht he (fun h=>absurd rfl h)) (hd fun W ht he=>qw el W ht he (fun h=>absurd rfl h))
   (hd fun W ht he=>Ct eP W ht he) (hd fun W ht he=>Ct eA W ht he) (hd fun W ht he=>Ct eB W ht he) (hd fun W ht he=>Vy em W ht he)
   (hd fun W ht _=>al8 l1 l2 l3 zo (q.hp.ok zo) (q.ha.ok zo) (q.hb.ok zo) W ht)
   (hd fun W ht _=>al8 m1 m2 m3 zo (o (ak3 q.hp q.ha) zo h0.1) (o (QK q.hp) zo h1.1) (o (ak2 q.hp q.hb) zo h2.1) W ht) w ht he
theorem UK (L A B a0 a1 a2:Int) (hL:0≤L∧L≤65535) (hA: -32768≤A∧A≤32767) (hB: -32768≤B∧B≤32767) (h0:0≤a0∧a0≤65535) (h1:0≤a1∧a1≤65535) (h2:0≤a2∧a2≤65535) (w:World) (ht:fM.Pow w) (he:whole.Er w) :
  Calls Tryz.prog 8 #[.agg #[.int .u16 L,.int .i16 A,.int .i16 B],.agg #[.int .u16 a0,.int .u16 a1,.int .u16 a2]] w (fun e w'=>e= .returned (.bool true)∧Below w.heap.size w w'):=by
 obtain ⟨p,a,b,q,R⟩:=ac5 L A B hL hA hB;exact Vx q (ME h0.1) (ME h1.1) (ME h2.1) Ga Ga Ga R (fun W=>aO.Jr a0 a1 a2 h0 h1 h2 W) w ht he
end Go.Proofs.verdigrislaw24
