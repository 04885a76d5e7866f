/- Lemmas for the proof. No condition. -/
import Derived.Test.YtneajphgfdlmhaaGreatDoorQB27
set_option linter.unusedVariables false
set_option linter.unusedSimpArgs false
set_option maxRecDepth 100000
set_option maxHeartbeats 16000000
open Go.Ending renaming returned → aj
open Go.IntKind renaming i64 → I
open Go.Value renaming agg → au, bool → ak, int → Z, string → O
namespace Go.Proofs.verdigrislaw24
open Go Go.RowKit Go.SW Go.Num Go.Mem Go.Proofs Go.Dec Go.gD Go.Proofs.lab Go.Proofs.jB
theorem R9 (w:World) (ht:jH.Pow w) (he:whole.Er w):Calls Tryz.prog 10 #[] w (fun e w'=>e= aj (ak true)∧Below w.heap.size w w'):=by
 have HP:=zh ht;have HE:=zh he;clear ht he;obtain ⟨⟨⟨Nn,Nl⟩,⟨Nk,Nj⟩,⟨Ni,Nh⟩⟩,ET0⟩:∃ y,Hid (tq 1 1 1 1=y):=⟨_,zh rfl⟩;have C0:=hd (fun W h=>vT ET0.out (by decide+kernel) W h);obtain ⟨⟨⟨as7,as6⟩,⟨as5,as4⟩,⟨as3,as2⟩⟩,ET1⟩:∃ y,Hid (tq 9 10 11 10=y):=⟨_,zh rfl⟩;have C1:=hd (fun W h=>vT ET1.out (by decide+kernel) W h);have C2:=hd (fun W ht he=>IK (t:=⟨⟨as7,as6⟩,⟨as5,as4⟩,⟨as3,as2⟩⟩) (w:=⟨⟨as7,as6⟩,⟨as5,as4⟩,⟨as3,as2⟩⟩) (v:=((100000000000000,100000000000000),(0,0),(0,0))) (k:=0) (by rw [← ET1.out];decide+kernel) W ht he zd);obtain ⟨⟨⟨Ng,Nf⟩,⟨Nc,Nb⟩,⟨Na,M7⟩⟩,ET2⟩:∃ y,Hid (tq 1 1 1 8=y):=⟨_,zh rfl⟩;have C3:=hd (fun W h=>vT ET2.out (by decide+kernel) W h)
 have C4:=hd (fun W ht he=>IK (t:=⟨⟨Ng,Nf⟩,⟨Nc,Nb⟩,⟨Na,M7⟩⟩) (w:=⟨⟨Nn,Nl⟩,⟨Nk,Nj⟩,⟨Ni,Nh⟩⟩) (v:=((42000000000000,42000000000000),(0,0),(0,0))) (k:=0) (by rw [← ET2.out,← ET0.out];decide+kernel) W ht he zd);obtain ⟨⟨⟨aF1,aF0⟩,⟨aE9,aE8⟩,⟨aE7,aE6⟩⟩,ET3⟩:∃ y,Hid (tq 42 0 0 1=y):=⟨_,zh rfl⟩;have C5:=hd (fun W h=>vT ET3.out (by decide+kernel) W h);have C6:=hd (fun W ht he=>CS (t:=⟨⟨aF1,aF0⟩,⟨aE9,aE8⟩,⟨aE7,aE6⟩⟩) (w:=⟨⟨Nn,Nl⟩,⟨Nk,Nj⟩,⟨Ni,Nh⟩⟩) (v:=⟨⟨Ng,Nf⟩,⟨Nc,Nb⟩,⟨Na,M7⟩⟩) (k:=0) (by rw [← ET3.out,← ET0.out,← ET2.out];decide+kernel) W ht he (fun h=>absurd rfl h));obtain ⟨⟨⟨aE5,aE4⟩,⟨aE3,aE2⟩,⟨aE1,aE0⟩⟩,ET4⟩:∃ y,Hid (tq (-16) 0 0 1=y):=⟨_,zh rfl⟩;have C7:=hd (fun W h=>vT ET4.out (by decide+kernel) W h)
 have C8:=hd (fun W ht he=>CS (t:=⟨⟨aE5,aE4⟩,⟨aE3,aE2⟩,⟨aE1,aE0⟩⟩) (w:=⟨⟨Nn,Nl⟩,⟨Nk,Nj⟩,⟨Ni,Nh⟩⟩) (v:=⟨⟨⟨#[]⟩,⟨#[]⟩⟩,⟨⟨#[]⟩,⟨#[]⟩⟩,⟨⟨#[]⟩,⟨#[]⟩⟩⟩) (k:=9) (by rw [← ET4.out,← ET0.out];decide+kernel) W ht he (fun _=>rfl));have C9:=hd (fun W=>pQ (x:=50) (y:=3) (z:=4) (d:=1) (p:=50000000000000) (q:=3000000000000) (r:=4000000000000) zd zd zd zd W);have C10:=hd (fun W ht he=>tT (t:=((50000000000000,50000000000000),(3000000000000,3000000000000),(4000000000000,4000000000000))) (v:=((5000000000000,5000000000000),(600000000000,600000000000),(800000000000,800000000000))) (k:=0) (by decide+kernel) W ht he);have C11:=hd (fun W=>pQ (x:=50) (y:=0) (z:=0) (d:=1) (p:=50000000000000) (q:=0) (r:=0) zd zd zd zd W)
 have C12:=hd (fun W ht he=>tT (t:=((50000000000000,50000000000000),(0,0),(0,0))) (v:=((0,0),(1000000000000,1000000000000),(0,0))) (k:=0) (by decide+kernel) W ht he);obtain ⟨⟨⟨aD9,aD8⟩,⟨aD7,aD6⟩,⟨aD5,aD4⟩⟩,ET5⟩:∃ y,Hid (tq 50 0 (-128) 1=y):=⟨_,zh rfl⟩;have C13:=hd (fun W h=>vT ET5.out (by decide+kernel) W h);obtain ⟨⟨⟨Rm,Rk⟩,⟨Rj,Ri⟩,⟨Rh,Rf⟩⟩,ET6⟩:∃ y,Hid (tq 1 1 0 2=y):=⟨_,zh rfl⟩;have C14:=hd (fun W ht=>encode_at (t:=⟨⟨aD9,aD8⟩,⟨aD7,aD6⟩,⟨aD5,aD4⟩⟩) (v:=⟨⟨Rm,Rk⟩,⟨Rj,Ri⟩,⟨Rh,Rf⟩⟩) (k:=0) (by rw [← ET5.out,← ET6.out];decide+kernel) W ht (fun h=>absurd rfl h));have C15:=hd (fun W=>pQ (x:=5) (y:=3) (z:=4) (d:=5) (p:=1000000000000) (q:=600000000000) (r:=800000000000) zd zd zd zd W);have C16:=hd (fun W=>pQ (x:=0) (y:=1) (z:=0) (d:=1) (p:=0) (q:=1000000000000) (r:=0) zd zd zd zd W)
 have C17:=hd (fun W=>pQ (x:=100) (y:=0) (z:=0) (d:=1) (p:=100000000000000) (q:=0) (r:=0) zd zd zd zd W);have C18:=hd (fun W=>pQ (x:=42) (y:=0) (z:=0) (d:=1) (p:=42000000000000) (q:=0) (r:=0) zd zd zd zd W);have C19:=hd (fun W=>pQ (x:=5) (y:=0) (z:=0) (d:=1) (p:=5000000000000) (q:=0) (r:=0) zd zd zd zd W);have C20:=hd (fun W h=>vT ET6.out (by decide+kernel) W h);refine Fx.door Tryz.func10 rfl (.nil w []) ?_;refine Fx.call [] 20 [] [] (fun W M=>C0.out _ (HP.out.later M.below)) ?_;refine Fx.aY [] 1 34 [] [] fun gM=>?_;refine Fx.call [3] 22 [] [(0,#[O Nn,O Nl,O Nk,O Nj,O Ni,O Nh])] (fun W M=>C1.out _ (HP.out.later M.below)) ?_;refine Fx.call [] 23 [] [] (fun W M=>C1.out _ (HP.out.later M.below)) ?_;refine Fx.call [] 24 [] [] (fun W M=>C2.out _ (HP.out.later M.below) (HE.out.later M.below)) ?_
 refine Fx.aY [] 2 42 [(25,au #[Z I 100000000000000,Z I 100000000000000,Z I 0,Z I 0,Z I 0,Z I 0]),(26,Z I 0)] [] fun gI=>?_;refine Fx.draw [4] [1,0,2,3,4,5,6,7,5008] [] [(3,Z I 0)] [(1,#[Z I 100000000000000,Z I 100000000000000,Z I 0,Z I 0,Z I 0,Z I 0])] ?_;refine Fx.call [3] 28 [(29,au #[O Nn,O Nl,O Nk,O Nj,O Ni,O Nh])] [] (fun W M=>C3.out _ (HP.out.later M.below)) ?_;refine Fx.call [] 30 [] [] (fun W M=>C4.out _ (HP.out.later M.below) (HE.out.later M.below)) ?_;refine Fx.sK [] 4 42 [(31,au #[Z I 42000000000000,Z I 42000000000000,Z I 0,Z I 0,Z I 0,Z I 0]),(32,Z I 0)] [] fun gH=>?_
 refine Fx.draw [5] [1,0,2,3,4,5,6,7,5008] [] [(5,Z I 0)] [(2,#[Z I 42000000000000,Z I 42000000000000,Z I 0,Z I 0,Z I 0,Z I 0])] ?_;refine Fx.call [3] 34 [(35,au #[O Nn,O Nl,O Nk,O Nj,O Ni,O Nh])] [] (fun W M=>C5.out _ (HP.out.later M.below)) ?_;refine Fx.call [] 36 [] [] (fun W M=>C6.out _ (HP.out.later M.below) (HE.out.later M.below)) ?_;refine Fx.sK [] 6 34 [(37,au #[O Ng,O Nf,O Nc,O Nb,O Na,O M7]),(38,Z I 0)] [] fun oP=>?_;refine Fx.draw [6] [1,0,2,3,4,5,6,7,5008] [] [(7,Z I 0)] [(3,#[O Ng,O Nf,O Nc,O Nb,O Na,O M7])] ?_;refine Fx.call [3] 40 [(41,au #[O Nn,O Nl,O Nk,O Nj,O Ni,O Nh])] [] (fun W M=>C7.out _ (HP.out.later M.below)) ?_
 refine Fx.call [] 42 [] [] (fun W M=>C8.out _ (HP.out.later M.below) (HE.out.later M.below)) ?_;refine Fx.sK [] 8 34 [(43,au #[O (⟨#[]⟩),O (⟨#[]⟩),O (⟨#[]⟩),O (⟨#[]⟩),O (⟨#[]⟩),O (⟨#[]⟩)]),(44,Z I 9)] [] fun Iy=>?_;refine Fx.call [7] 46 [(9,Z I 9)] [(4,#[O (⟨#[]⟩),O (⟨#[]⟩),O (⟨#[]⟩),O (⟨#[]⟩),O (⟨#[]⟩),O (⟨#[]⟩)])] (fun W M=>C9.out _) ?_;refine Fx.call [] 47 [] [] (fun W M=>C10.out _ (HP.out.later M.below) (HE.out.later M.below)) ?_;refine Fx.aY [] 10 40 [(48,au #[Z I 5000000000000,Z I 5000000000000]),(49,au #[Z I 600000000000,Z I 600000000000,Z I 800000000000,Z I 800000000000]),(50,Z I 0)] [] fun VU=>?_;refine Fx.aY [] 11 70 [] [] fun Ke=>?_
 refine Fx.call [8,9] 52 [(12,Z I 0)] [(5,#[Z I 5000000000000,Z I 5000000000000]),(6,#[Z I 600000000000,Z I 600000000000,Z I 800000000000,Z I 800000000000])] (fun W M=>C11.out _) ?_;refine Fx.call [] 53 [] [] (fun W M=>C12.out _ (HP.out.later M.below) (HE.out.later M.below)) ?_;refine Fx.aY [] 13 40 [(54,au #[Z I 0,Z I 0]),(55,au #[Z I 1000000000000,Z I 1000000000000,Z I 0,Z I 0]),(56,Z I 0)] [] fun VT=>?_;refine Fx.aY [] 14 70 [] [] fun bz9=>?_;refine Fx.call [10,11] 58 [(15,Z I 0)] [(7,#[Z I 0,Z I 0]),(8,#[Z I 1000000000000,Z I 1000000000000,Z I 0,Z I 0])] (fun W M=>C13.out _ (HP.out.later M.below)) ?_;refine Fx.call [] 59 [] [] (fun W M=>C14.out _ (HP.out.later M.below)) ?_
 refine Fx.aY [] 16 34 [(60,au #[O Rm,O Rk,O Rj,O Ri,O Rh,O Rf]),(61,Z I 0)] [] fun XW=>?_;refine Fx.call [12] 62 [(17,Z I 0)] [(9,#[O Rm,O Rk,O Rj,O Ri,O Rh,O Rf])] (fun W M=>C15.out _) ?_;refine Fx.aY [] 18 42 [] [] fun ae6=>?_;refine Fx.call [13] 63 [] [(10,#[Z I 1000000000000,Z I 1000000000000,Z I 600000000000,Z I 600000000000,Z I 800000000000,Z I 800000000000])] (fun W M=>C16.out _) ?_;refine Fx.aY [] 19 42 [] [] fun Vd=>?_
 refine Fx.draw [14] [0,1,2,3,4,5,6,7,8,9,10,11,12,13,14,15,16,17,18,19,20,21,22,23,24,25,26,27,28,29,30,31,32,33,34,35,36,37,38,39,40,41,42,43,44,45,46,47,48,49,50,51,52,53,54,55,56,57,58,59,60,61,62,63,64,65,66,67,68,69,70,71,72,73,74,75,5076] [] [] [(11,#[Z I 0,Z I 0,Z I 1000000000000,Z I 1000000000000,Z I 0,Z I 0])] ?_;refine Fx.call [4] 68 [(66,ak true),(67,au #[Z I 100000000000000,Z I 100000000000000,Z I 0,Z I 0,Z I 0,Z I 0])] [] (fun W M=>C17.out _) ?_;refine Fx.call [5] 77 [(75,ak true),(76,au #[Z I 42000000000000,Z I 42000000000000,Z I 0,Z I 0,Z I 0,Z I 0])] [] (fun W M=>C18.out _) ?_;refine Fx.call [6] 86 [(84,ak true),(85,au #[O Ng,O Nf,O Nc,O Nb,O Na,O M7])] [] (fun W M=>C3.out _ (HP.out.later M.below)) ?_
 refine Fx.eql 0 [] 87 true true 34 (au #[O Ng,O Nf,O Nc,O Nb,O Na,O M7]) (au #[O Ng,O Nf,O Nc,O Nb,O Na,O M7]) [] [] (fun _=>jC _ _ _ _ _ _ _) ?_;refine Fx.call [8] 99 [(97,ak true),(98,au #[Z I 5000000000000,Z I 5000000000000])] [] (fun W M=>C19.out _) ?_;refine Fx.call [9,13,13,10,14,11,14,14,12] 137 [(135,ak true),(136,au #[O Rm,O Rk,O Rj,O Ri,O Rh,O Rf])] [] (fun W M=>C20.out _ (HP.out.later M.below)) ?_;refine Fx.eql 0 [] 138 true true 34 (au #[O Rm,O Rk,O Rj,O Ri,O Rh,O Rf]) (au #[O Rm,O Rk,O Rj,O Ri,O Rh,O Rf]) [] [] (fun _=>jC _ _ _ _ _ _ _) ?_;exact Fx.qP [] [] (fun W M=>⟨rfl,M.below⟩)
end Go.Proofs.verdigrislaw24
namespace Go.Proofs.matrix
open Go Go.Num Go.gD Go.Proofs.dH Go.Proofs.aU Go.Proofs.aH
theorem ET (z:Int) (q:Rat):un z≤q↔(z:Rat)≤q*((1000000000000:Int):Rat):=by
 rw [← PY z]
 constructor
 ·exact fun h=>Rat.mul_le_mul_of_nonneg_right h (Rat.le_of_lt PE)
 ·exact fun h=>Rat.le_of_mul_le_mul_right h PE
theorem Sm {a b:Int}:un a≤un b↔a≤b:=by rw [ET,PY,Rat.intCast_le_intCast]
def In (b:Int × Int) (q:Rat) (M:Int):Prop:=un b.1≤q∧q≤un b.2∧ -M≤b.1∧b.2≤M
theorem In.le {b:Int × Int} {q:Rat} {M:Int} (h:In b q M):b.1≤b.2:=Sm.1 (Rat.le_trans h.1 h.2.1)
theorem Pf {x y:Int} (h: -1000000000000000000≤x) (h2:x≤y) (h3:y≤1000000000000000000):iG x y=true:=by
 unfold iG;rw [decide_eq_true h,decide_eq_true h2,decide_eq_true h3];rfl
end Go.Proofs.matrix
namespace Go.Proofs.dH
open Go Go.RowKit Go.SW Go.Num Go.Mem Go.Proofs Go.gD Go.Proofs.matrix Go.Proofs.aU Go.Proofs.aH
def Wi (M:Int) (v:Rat):Prop:=un (-M)≤v∧v≤un M
theorem Zq (n:Int):un (-n)= -un n:=by unfold un;rw [Rat.intCast_neg,xQ]
theorem _root_.Go.Proofs.matrix.In.lo {b:Int × Int} {q:Rat} {M:Int} (h:In b q M):un b.1≤q:=h.1
theorem _root_.Go.Proofs.matrix.In.hi {b:Int × Int} {q:Rat} {M:Int} (h:In b q M):q≤un b.2:=h.2.1
theorem _root_.Go.Proofs.matrix.In.mono {b:Int × Int} {q:Rat} {M N:Int} (h:In b q M) (k:M≤N):In b q N:=⟨h.1,h.2.1,by have:=h.2.2.1;omega,by have:=h.2.2.2;omega⟩
theorem am2 {n M:Int} (h: -M≤n) (k:n≤M):Wi M (un n):=⟨Sm.2 h,Sm.2 k⟩
theorem Wi.of {n d M:Int} (hd:0<d) (h1: -(M*d)≤n*1000000000000) (h2:n*1000000000000≤M*d):Wi M ((n:Rat) / (d:Rat)):=by
 have hd':(0:Rat)<(d:Rat):=Rat.intCast_pos.2 hd;have hd0:(d:Rat)≠0:=fun e=>by rw [e] at hd';exact absurd hd' zd
 have key:∀ a b:Int,a*d≤b*1000000000000→un a≤(b:Rat) / (d:Rat):=fun a b h=>by
  rw [ET];refine Rat.le_of_mul_le_mul_right (c:=(d:Rat)) ?_ hd';have e:(b:Rat) / (d:Rat)*((1000000000000:Int):Rat)*(d:Rat)=(b:Rat)*((1000000000000:Int):Rat):=by grind
  rw [e];have h2:((a*d:Int):Rat)≤((b*1000000000000:Int):Rat):=Rat.intCast_le_intCast.2 h;rw [Rat.intCast_mul,Rat.intCast_mul] at h2;exact h2
 refine ⟨key _ _ (by rw [Int.neg_mul];exact h1),?_⟩;have:=key (-M) (-n) (by rw [Int.neg_mul,Int.neg_mul];omega);rw [Zq,Rat.intCast_neg,← xQ] at this
 grind
end Go.Proofs.dH
namespace Go.Proofs.lab
open Go Go.RowKit Go.SW Go.Num Go.Mem Go.Proofs Go.gD Go.Proofs.dH Go.Proofs.matrix Go.Proofs.aU Go.Proofs.aH
def wA (n m:Int):Int × Int:=(n*10000000000 - m,n*10000000000+m)
def an3 (b:Int × Int):Int × Int:=(-b.2, -b.1)
structure Wd (b:Int × Int):Prop where
 le:b.1≤b.2
 lo: -129000000000000≤b.1
 hi:b.2≤129000000000000
 far:vG b=0∨5000000000≤vG b
theorem Wd.neg {b:Int × Int} (h:Wd b):Wd (an3 b):=by
 obtain ⟨h1,h2,h3,h4⟩:=h;refine ⟨?_,?_,?_,?_⟩<;>unfold an3<;>(try unfold vG at*)<;>simp only at* <;>omega
theorem Wd.ok {b:Int × Int} (h:Wd b):iG b.1 b.2=true:=Pf (by have:=h.lo;omega) h.le (by have:=h.hi;omega)
end Go.Proofs.lab
