/- Lemmas for the proof. No condition. -/
import Derived.Test.YtneajphgfdlmhaaGreatDoorUB43
import Derived.Test.YtneajphgfdlmhaaGreatDoorUB46
set_option linter.unusedVariables false
set_option linter.unusedSimpArgs false
set_option maxRecDepth 100000
set_option maxHeartbeats 16000000
open Bool renaming and_eq_true → aG
open Go.Ending renaming returned → ah
open Go.IntKind renaming i64 → I
open Go.Value renaming agg → au, bool → ak, int → Z, slice → aj, string → O, tuple → aD
open List renaming all_cons → fO, all_eq_true → eZ, getElem_mem → fq, mem_cons → dR, not_mem_nil → jP
open Nat renaming le_refl → aC, le_trans → ay, lt_or_ge → aR
namespace Go.Proofs.aS
open Go Go.RowKit Go.SW Go.Num Go.Mem Go.Proofs Go.gB Go.Proofs.aW Go.Proofs.aH Go.Proofs.kT
theorem iT (lo hi:Int) (w:World):Calls Tryz.prog 162 #[au #[Z I lo,Z I hi]] w (fun e w'=>e= ah (Z I (if gM lo hi then 0 else 30))∧Below w.heap.size w w'):=by
 have C:=fun W=>iQ lo hi W;cases hb:gM lo hi<;>rw [hb] at C
 ·rw [if_neg zd];refine Fx.door Tryz.func162 rfl (.nil w []) ?_;refine Fx.new [] 1 #[Z I lo,Z I hi] 40 [] [] fun fT=>?_;refine Fx.bJ [3] 4 [] [] C ?_;exact Fx.rV [1] [] (fun W M=>⟨rfl,M.below⟩)
 ·rw [if_pos rfl];refine Fx.door Tryz.func162 rfl (.nil w []) ?_;refine Fx.new [] 1 #[Z I lo,Z I hi] 40 [] [] fun fT=>?_;refine Fx.bJ [3] 4 [] [] C ?_;exact Fx.rV [2] [] (fun W M=>⟨rfl,M.below⟩)
theorem Ot (x y:Int) (w:World):Calls Tryz.prog 186 #[au #[Z I x,Z I y]] w (fun e w'=>e= ah (Fr.res (JY (x,y)))∧Below w.heap.size w w'):=by
 have C:=fun W=>iQ x y W;unfold JY;simp only;cases hb:gM x y<;>rw [hb] at C
 ·rw [if_neg zd];refine Fx.door Tryz.func186 rfl (.nil w []) ?_;refine Fx.new [] 1 #[Z I x,Z I y] 40 [] [] fun fT=>?_;refine Fx.aV [] 2 32 [] [] fun fJ=>?_;refine Fx.bJ [3] 5 [] [] C ?_;exact Fx.dQ 1 fJ [1,4] [(1,#[O ⟨#[]⟩,O ⟨#[]⟩])] (fun W M=>⟨rfl,M.below⟩)
 ·rw [if_pos rfl];have b1: -1000000000000000000≤x∧x≤y∧y≤1000000000000000000:=by simpa [gM] using hb
  obtain ⟨⟨⟨s,t⟩,k⟩,hz⟩:∃ z,nk x 1000000000000=z:=⟨_,rfl⟩
  have Jj:∀ v W,Ra W v (un x)→Calls Tryz.prog 133 #[v] W (fun e w'=>e= ah (aD #[au #[O s,O t],Z I k])∧Below W.heap.size W w'):=fun v W h=>by
   have:=rM v (un x) W h (jy.AQ (jy.mono (o8 x zo zo) (show 10≤1000 by omega))).1 (jy.AQ (jy.mono (o8 x zo zo) (show 10≤1000 by omega))).2;have e2:wr (un x)=nk x 1000000000000:=by unfold nk;rw [if_neg zd];rfl
   rw [e2,hz] at this;exact this
  rw [hz];have V2:∀ W,Calls Tryz.prog 216 #[Z I x] W (I5 W (un x)):=fun W=>(iX x zo zo W).mono fun _ _ q=>jT q;refine Fx.door Tryz.func186 rfl (.nil w []) ?_;refine Fx.new [] 1 #[Z I x,Z I y] 40 [] [] fun fT=>?_;refine Fx.aV [] 2 32 [] [] fun fJ=>?_;refine Fx.bJ [3] 5 [] [] C ?_;refine Fx.iR [2,3] 10 [] [] (fun W M=>V2 _) ?_;rintro W wx3 e M ⟨n1,p1,l1,c1,n2,p2,l2,c2,rfl,B3,R1⟩;refine ⟨B3,fun M3=>?_⟩;have M:=M3;have HZ3:=M.below;refine Fx.call [] 11 [] [] (fun W M=>Jj _ _ (R1.later M.below)) ?_;refine Fx.part 2 [] [(12,au #[O s,O t]),(13,Z I k)] [] ?_;refine Fx.back M3 ?_;exact Fx.dQ 1 fJ [4] [(1,#[O s,O t])] (fun W M=>⟨rfl,M.below⟩)
theorem I7 (x y:Int) (w:World):Calls Tryz.prog 187 #[au #[Z I x,Z I y]] w (fun e w'=>e= ah (Fr.res (AO (x,y)))∧Below w.heap.size w w'):=by
 have C:=fun W=>iQ x y W;unfold AO;simp only;cases hb:gM x y<;>rw [hb] at C
 ·rw [if_neg zd];refine Fx.door Tryz.func187 rfl (.nil w []) ?_;refine Fx.new [] 1 #[Z I x,Z I y] 40 [] [] fun fT=>?_;refine Fx.aV [] 2 32 [] [] fun fJ=>?_;refine Fx.bJ [3] 5 [] [] C ?_;exact Fx.dQ 1 fJ [1,4] [(1,#[O ⟨#[]⟩,O ⟨#[]⟩])] (fun W M=>⟨rfl,M.below⟩)
 ·rw [if_pos rfl];have b1: -1000000000000000000≤x∧x≤y∧y≤1000000000000000000:=by simpa [gM] using hb
  obtain ⟨⟨⟨s,t⟩,k⟩,hz⟩:∃ z,nk y 1000000000000=z:=⟨_,rfl⟩
  have Jj:∀ v W,Ra W v (un y)→Calls Tryz.prog 133 #[v] W (fun e w'=>e= ah (aD #[au #[O s,O t],Z I k])∧Below W.heap.size W w'):=fun v W h=>by
   have:=rM v (un y) W h (jy.AQ (jy.mono (o8 y zo zo) (show 10≤1000 by omega))).1 (jy.AQ (jy.mono (o8 y zo zo) (show 10≤1000 by omega))).2;have e2:wr (un y)=nk y 1000000000000:=by unfold nk;rw [if_neg zd];rfl
   rw [e2,hz] at this;exact this
  rw [hz];have V2:∀ W,Calls Tryz.prog 216 #[Z I y] W (I5 W (un y)):=fun W=>(iX y zo zo W).mono fun _ _ q=>jT q;refine Fx.door Tryz.func187 rfl (.nil w []) ?_;refine Fx.new [] 1 #[Z I x,Z I y] 40 [] [] fun fT=>?_;refine Fx.aV [] 2 32 [] [] fun fJ=>?_;refine Fx.bJ [3] 5 [] [] C ?_;refine Fx.iR [2,3] 10 [] [] (fun W M=>V2 _) ?_;rintro W wx3 e M ⟨n1,p1,l1,c1,n2,p2,l2,c2,rfl,B3,R1⟩;refine ⟨B3,fun M3=>?_⟩;have M:=M3;have HZ3:=M.below;refine Fx.call [] 11 [] [] (fun W M=>Jj _ _ (R1.later M.below)) ?_;refine Fx.part 2 [] [(12,au #[O s,O t]),(13,Z I k)] [] ?_;refine Fx.back M3 ?_;exact Fx.dQ 1 fJ [4] [(1,#[O s,O t])] (fun W M=>⟨rfl,M.below⟩)
theorem av7 {w:World} {b:Nat} {n1 n2 m1 m2:Bool} {p1 p2 q1 q2:Option Addr} {l1 l2 c1 c2 k1 k2 d1 d2:Nat} {p q:Rat} (hX:aB w b #[ak n1,aj p1 l1 c1,ak n2,aj p2 l2 c2,ak m1,aj q1 k1 d1,ak m2,aj q2 k2 d2] 163)
  (h1:Ra w (au #[ak n1,aj p1 l1 c1,ak n2,aj p2 l2 c2]) p) (h2:Ra w (au #[ak m1,aj q1 k1 d1,ak m2,aj q2 k2 d2]) q):EO w (aj (some ⟨b,0,none⟩) 2 2) [p,q]:=by
 refine ⟨some ⟨b,0,none⟩,2,rfl,aC _,by decide,(fun h=>by cases h),fun ad had=>?_⟩;cases had
 refine ⟨rfl,_,hX,fun i hi=>?_⟩
 rcases i with _| _|i
 ·exact ⟨[ak n1,aj p1 l1 c1,ak n2,aj p2 l2 c2],⟨_,_,_,_,_,_,_,_,rfl,h1⟩,rfl,fun j hj=>by rcases j with _| _| _| _|j<;>first|rfl|omega⟩
 ·exact ⟨[ak m1,aj q1 k1 d1,ak m2,aj q2 k2 d2],⟨_,_,_,_,_,_,_,_,rfl,h2⟩,rfl,fun j hj=>by rcases j with _| _| _| _|j<;>first|rfl|omega⟩
 ·simp at hi
  omega
theorem OO {p:Rat} {n d:Int} (h:jy 10 p) (h1: -1000000000000≤n) (h2:n≤1000000000000) (h3:1≤d) (h4:d≤1000000000000):jy 30 (p*((n:Rat) / (d:Rat))):=by
 have k:jy 10 ((n:Rat) / (d:Rat)):=by
  obtain ⟨l1,l2⟩:=Ab (n:=n) (d:=d) zo;refine ⟨?_,?_⟩
  ·exact ay (fB zo l1) (ay (fB (n:=1000000000000) zo zo) (by decide+kernel))
  ·exact ay (fB zo l2) (ay (fB (n:=1000000000000) zo zo) (by decide+kernel))
 exact (nO h k).mono zo
theorem EM (x y n d:Int) (w:World) (hn1: -9223372036854775808≤n:=by omega) (hn2:n≤9223372036854775807:=by omega) (hd1: -9223372036854775808≤d:=by omega) (hd2:d≤9223372036854775807:=by omega) :
  Calls Tryz.prog 139 #[.agg #[.int .i64 x,.int .i64 y],.int .i64 n,.int .i64 d] w (fun e w'=>e= .returned (dZ (qw (x,y) n d))∧Below w.heap.size w w'):=by
 have C:=fun W=>iQ x y W;unfold qw okB Vb dZ;simp only [List.all_cons,List.all_nil,Bool.and_true];cases hb:gM x y<;>rw [hb] at C
 ·rw [if_neg zd];refine Fx.door Tryz.func139 rfl (.nil w []) ?_;refine Fx.new [] 3 #[.int .i64 x,.int .i64 y] 40 [] [] fun fT=>?_;refine Fx.aV [] 6 40 [] [] fun fJ=>?_;refine Fx.bJ [3] 10 [] [] C ?_;exact Fx.dQ 1 fJ [1,4] [(1,#[.int .i64 0,.int .i64 0])] (fun W M=>⟨rfl,M.below⟩)
 rw [if_pos rfl]
 by_cases g1:n< -1000000000000
 ·rw [if_pos (.inl g1)];refine Fx.door Tryz.func139 rfl (.nil w []) ?_;refine Fx.new [] 3 #[.int .i64 x,.int .i64 y] 40 [] [] fun fT=>?_;refine Fx.aV [] 6 40 [] [] fun fJ=>?_;refine Fx.bJ [3] 10 [] [] C ?_;refine Fx.part 11 [2] [(14,.bool (decide (n<(-1000000000000))))] [] ?_;refine Fx.kF true (decide_eq_true g1) ?_;exact Fx.dQ 1 fJ [1,4] [(1,#[.int .i64 0,.int .i64 0])] (fun W M=>⟨rfl,M.below⟩)
 by_cases g2:1000000000000<n
 ·rw [if_pos (.inr (.inl g2))];refine Fx.door Tryz.func139 rfl (.nil w []) ?_;refine Fx.new [] 3 #[.int .i64 x,.int .i64 y] 40 [] [] fun fT=>?_;refine Fx.aV [] 6 40 [] [] fun fJ=>?_;refine Fx.bJ [3] 10 [] [] C ?_;refine Fx.part 11 [2] [(14,.bool (decide (n<(-1000000000000))))] [] ?_;refine Fx.kF false (decide_eq_false g1) ?_;refine Fx.part 3 [] [(17,.bool (decide (1000000000000<n))),(15,.bool false)] [] ?_;refine Fx.kF true (decide_eq_true g2) ?_;exact Fx.dQ 1 fJ [1,4] [(1,#[.int .i64 0,.int .i64 0])] (fun W M=>⟨rfl,M.below⟩)
 by_cases g3:d<1
 ·rw [if_pos (.inr (.inr (.inl g3)))];refine Fx.door Tryz.func139 rfl (.nil w []) ?_;refine Fx.new [] 3 #[.int .i64 x,.int .i64 y] 40 [] [] fun fT=>?_;refine Fx.aV [] 6 40 [] [] fun fJ=>?_;refine Fx.bJ [3] 10 [] [] C ?_;refine Fx.part 11 [2] [(14,.bool (decide (n<(-1000000000000))))] [] ?_;refine Fx.kF false (decide_eq_false g1) ?_;refine Fx.part 3 [] [(17,.bool (decide (1000000000000<n))),(15,.bool false)] [] ?_;refine Fx.kF false (decide_eq_false g2) ?_;refine Fx.part 4 [] [(21,.bool (decide (d<1))),(19,.bool false)] [] ?_;refine Fx.kF true (decide_eq_true g3) ?_;exact Fx.dQ 1 fJ [1,4] [(1,#[.int .i64 0,.int .i64 0])] (fun W M=>⟨rfl,M.below⟩)
 by_cases g4:1000000000000<d
 ·rw [if_pos (.inr (.inr (.inr g4)))];refine Fx.door Tryz.func139 rfl (.nil w []) ?_;refine Fx.new [] 3 #[.int .i64 x,.int .i64 y] 40 [] [] fun fT=>?_;refine Fx.aV [] 6 40 [] [] fun fJ=>?_;refine Fx.bJ [3] 10 [] [] C ?_;refine Fx.part 11 [2] [(14,.bool (decide (n<(-1000000000000))))] [] ?_;refine Fx.kF false (decide_eq_false g1) ?_;refine Fx.part 3 [] [(17,.bool (decide (1000000000000<n))),(15,.bool false)] [] ?_;refine Fx.kF false (decide_eq_false g2) ?_;refine Fx.part 4 [] [(21,.bool (decide (d<1))),(19,.bool false)] [] ?_;refine Fx.kF false (decide_eq_false g3) ?_;refine Fx.part 4 [] [(25,.bool (decide (1000000000000<d))),(23,.bool false)] [] ?_;refine Fx.kF true (decide_eq_true g4) ?_;exact Fx.dQ 1 fJ [1,4] [(1,#[.int .i64 0,.int .i64 0])] (fun W M=>⟨rfl,M.below⟩)
 rw [if_neg zo];have b1: -1000000000000000000≤x∧x≤y∧y≤1000000000000000000:=by simpa [gM] using hb
 have Q:∀ W,Calls Tryz.prog 197 #[.int .i64 n,.int .i64 d] W (I5 W ((n:Rat) / (d:Rat))):=fun W=>(vI n d hn1 hn2 hd1 hd2 zo W).mono fun _ _ q=>jT q;have V1:∀ W,Calls Tryz.prog 216 #[.int .i64 x] W (I5 W (un x)):=fun W=>(iX x zo zo W).mono fun _ _ q=>jT q;have V2:∀ W,Calls Tryz.prog 216 #[.int .i64 y] W (I5 W (un y)):=fun W=>(iX y zo zo W).mono fun _ _ q=>jT q;have s1:=o8 x zo zo;have s2:=o8 y zo zo;have s3:=OO s1 (n:=n) (d:=d) zo zo zo zo;have s4:=OO s2 (n:=n) (d:=d) zo zo zo zo
 have sf:jy 10000000000 ((n:Rat) / (d:Rat)):=by
  obtain ⟨l1,l2⟩:=Ab (n:=n) (d:=d) zo;exact ⟨Nat.le_trans (fB zo l1) (Nat.le_trans (fB (n:=1000000000000) zo zo) (by decide+kernel)),Nat.le_trans (fB zo l2) (Nat.le_trans (fB (n:=1000000000000) zo zo) (by decide+kernel))⟩
 have T:∀ v v' p W,Ra W v p→Ra W v' ((n:Rat) / (d:Rat))→jy 10 p→Calls Tryz.prog 218 #[v,v'] W (I5 W (p*((n:Rat) / (d:Rat)))):=fun v v' p W h h' hp=>(jr v v' p _ W h h' (hp.mono zo) sf).mono fun _ _ q=>jT q;obtain ⟨⟨⟨u,v⟩,k⟩,hz⟩:∃ z,sU (fun x y up=>oJ x y d up) (x,y) (n,n)=z:=⟨_,rfl⟩
 have BT:∀ v' W,EO W v' [un x*((n:Rat) / (d:Rat)),un y*((n:Rat) / (d:Rat))]→Calls Tryz.prog 217 #[v'] W (fun e w'=>e= .returned (.tuple #[.agg #[.int .i64 u,.int .i64 v],.int .i64 k])∧Below W.heap.size W w'):=fun v' W h=>by
  have:=ED v' _ _ 2 W h rfl zo (fun q hq=>by
   simp only [List.mem_cons,List.not_mem_nil,or_false] at hq
   rcases hq with rfl|rfl
   ·exact s3
   ·exact s4)
  have e:=Qw (x,y) n d zo;simp only at e;rw [e,hz] at this;exact this
 rw [hz];refine Fx.door Tryz.func139 rfl (.nil w []) ?_;refine Fx.new [] 3 #[.int .i64 x,.int .i64 y] 40 [] [] fun fT=>?_;refine Fx.aV [] 6 40 [] [] fun fJ=>?_;refine Fx.bJ [3] 10 [] [] C ?_;refine Fx.part 11 [2] [(14,.bool (decide (n<(-1000000000000))))] [] ?_;refine Fx.kF false (decide_eq_false g1) ?_;refine Fx.part 3 [] [(17,.bool (decide (1000000000000<n))),(15,.bool false)] [] ?_;refine Fx.kF false (decide_eq_false g2) ?_;refine Fx.part 4 [] [(21,.bool (decide (d<1))),(19,.bool false)] [] ?_;refine Fx.kF false (decide_eq_false g3) ?_;refine Fx.part 4 [] [(25,.bool (decide (1000000000000<d))),(23,.bool false)] [] ?_;refine Fx.kF false (decide_eq_false g4) ?_;refine Fx.iR [2] 30 [] [] (fun W M=>Q _) ?_;rintro W wx3 e M ⟨n1,p1,l1,c1,n2,p2,l2,c2,rfl,B3,R0⟩;refine ⟨B3,fun M3=>?_⟩;have M:=M3;have HZ3:=M.below;refine Fx.aV [] 8 163 [] [] fun uF=>?_
 refine Fx.draw [5] [0,1,3,5,6,8,2,4,7,9,10,11,12,13,14,5015] [] [] [(2,#[.bool n1,.slice p1 l1 c1,.bool n2,.slice p2 l2 c2])] ?_;refine Fx.iR [3,5,3,5] 33 [(34,.agg #[.bool n1,.slice p1 l1 c1,.bool n2,.slice p2 l2 c2]),(37,.int .i64 y),(39,.agg #[.bool n1,.slice p1 l1 c1,.bool n2,.slice p2 l2 c2])] [] (fun W M=>V1 _) ?_;rintro W wx5 e M ⟨n3,p3,l3,c3,n4,p4,l4,c4,rfl,B5,R1⟩;refine ⟨B5,fun M5=>?_⟩;have M:=M5;replace R0:=R0.later M.below;have Uf:=(Bt HZ3 M.below);refine Fx.iR [] 35 [] [] (fun W M=>T _ _ _ _ (R1.later M.below) (R0.later M.below) s1) ?_;rintro W wx6 e M ⟨n5,p5,l5,c5,n6,p6,l6,c6,rfl,B6,R2⟩;refine ⟨B6,fun M6=>?_⟩;have M:=M6;replace R0:=R0.later M.below;replace R1:=R1.later M.below;have HZ6:=(Bt Uf M.below);refine Fx.iR [] 38 [] [] (fun W M=>V2 _) ?_;rintro W wx7 e M ⟨n7,p7,l7,c7,n8,p8,l8,c8,rfl,B7,R3⟩;refine ⟨B7,fun M7=>?_⟩;have M:=M7;replace R0:=R0.later M.below
 replace R1:=R1.later M.below;replace R2:=R2.later M.below;have HZ7:=(Bt HZ6 M.below);refine Fx.iR [] 40 [] [] (fun W M=>T _ _ _ _ (R3.later M.below) (R0.later M.below) s2) ?_;rintro W wx8 e M ⟨n9,p9,l9,c9,na,pa,la,ca,rfl,B8,R4⟩;refine ⟨B8,fun M8=>?_⟩;have M:=M8;replace R0:=R0.later M.below;replace R1:=R1.later M.below;replace R2:=R2.later M.below;replace R3:=R3.later M.below;have HZ8:=(Bt HZ7 M.below);refine Fx.newS [] 41 2 2 #[.bool n5,.slice p5 l5 c5,.bool n6,.slice p6 l6 c6,.bool n9,.slice p9 l9 c9,.bool na,.slice pa la ca] 163 [] [] fun bz9=>?_;refine Fx.call [] 42 [] [] (fun W M=>BT _ _ (av7 (M.box (b:=bz9) 3) (R2.later M.below) (R4.later M.below))) ?_;refine Fx.part 3 [] [(43,.agg #[.int .i64 u,.int .i64 v]),(44,.int .i64 k)] [] ?_;refine Fx.back M8 ?_;refine Fx.back M7 ?_;refine Fx.back M6 ?_;refine Fx.back M5 ?_;refine Fx.back M3 ?_
 exact Fx.dQ 1 fJ [4] [(1,#[.int .i64 u,.int .i64 v])] (fun W M=>⟨rfl,M.below⟩)
end Go.Proofs.aS
namespace Go.Proofs.aH
open Go Go.RowKit Go.SW Go.Num Go.Mem Go.Proofs Go.gB Go.Fx Go.Proofs.aS
theorem E9 (a b:Fr) (w:World) (ha:Fits a) (hb:Fits b):Calls Tryz.prog 136 #[a.v,b.v] w (fun e w'=>e= ah (aD #[Z I (rE a b).1,Z I (rE a b).2])∧Below w.heap.size w w'):=by
 obtain ⟨s,t⟩:=a;obtain ⟨s',t'⟩:=b;have CA:∀ b W,(rd ⟨s,t⟩).isSome=b→Calls Tryz.prog 132 #[au #[O s,O t]] W (fun e w'=>e= ah (ak b)∧Below W.heap.size W w'):=fun b W h=>jg h ha W;have CB:∀ b W,(rd ⟨s',t'⟩).isSome=b→Calls Tryz.prog 132 #[au #[O s',O t']] W (fun e w'=>e= ah (ak b)∧Below W.heap.size W w'):=fun b W h=>jg h hb W;unfold rE;cases h1:rd ⟨s,t⟩ with
 | none =>
  rw [h1] at CA;refine Fx.door Tryz.func136 rfl (.nil w []) ?_;refine Fx.new [] 2 #[O s,O t] 32 [] [] fun fT=>?_;refine Fx.new [] 3 #[O (s'),O (t')] 32 [] [] fun fJ=>?_;refine Fx.call [3] 7 [] [] (fun W M=>CA false _ rfl) ?_;exact Fx.Vf [0,0,1] [] (fun W M=>⟨rfl,M.below⟩)
 | some p =>
  rw [h1] at CA;cases h2:rd ⟨s',t'⟩ with
  | none =>
   rw [h2] at CB;refine Fx.door Tryz.func136 rfl (.nil w []) ?_;refine Fx.new [] 2 #[O s,O t] 32 [] [] fun fT=>?_;refine Fx.new [] 3 #[O (s'),O (t')] 32 [] [] fun fJ=>?_;refine Fx.call [3] 7 [] [] (fun W M=>CA true _ rfl) ?_;refine Fx.call [4] 11 [(9,ak false)] [] (fun W M=>CB false _ rfl) ?_;exact Fx.Vf [1] [] (fun W M=>⟨rfl,M.below⟩)
  | some q =>
   rw [h2] at CB;have I1:∀ W,Calls Tryz.prog 135 #[au #[O s,O t]] W (I5 W p):=fun W=>(um h1 W).mono fun _ _ q=>jT q;have I2:∀ W,Calls Tryz.prog 135 #[au #[O s',O t']] W (I5 W q):=fun W=>(um h2 W).mono fun _ _ q=>jT q;have z1:=(og h1).mono (show 67≤10000000000 by omega);have z2:=(og h2).mono (show 67≤10000000000 by omega);refine Fx.door Tryz.func136 rfl (.nil w []) ?_;refine Fx.new [] 2 #[O s,O t] 32 [] [] fun fT=>?_;refine Fx.new [] 3 #[O (s'),O (t')] 32 [] [] fun fJ=>?_;refine Fx.call [3] 7 [] [] (fun W M=>CA true _ rfl) ?_;refine Fx.call [4] 11 [(9,ak false)] [] (fun W M=>CB true _ rfl) ?_;refine Fx.draw [2] [0,2,1,3,4,5005,5006] [] [] [] ?_;refine Fx.iR [3,4] 15 [(16,au #[O (s'),O (t')])] [] (fun W M=>I1 _) ?_;rintro W wx3 e M ⟨n1,p1,l1,c1,n2,p2,l2,c2,rfl,B3,R1⟩;refine ⟨B3,fun M3=>?_⟩
   have M:=M3;have HZ3:=M.below;refine Fx.iR [] 17 [] [] (fun W M=>I2 _) ?_;rintro W wx4 e M ⟨m1,q1,k1,d1,m2,q2,k2,d2,rfl,B4,R2⟩;refine ⟨B4,fun M4=>?_⟩;have M:=M4;replace R1:=R1.later M.below;have Ug:=(Bt HZ3 M.below);refine Fx.call [] 18 [] [] (fun W M=>lS _ _ p q _ (R1.later M.below) (R2.later M.below) z1 z2) ?_;exact Fx.Vf [] [] (fun W M=>⟨rfl,(Bt Ug M.below)⟩)
end Go.Proofs.aH
namespace Go.Proofs.aQ
open Go Go.RowKit Go.SW Go.Num Go.Mem Go.Proofs Go.gB Go.Fx Go.Proofs.aH Go.Proofs.aP Go.Proofs.lab
def k4:Fr:=⟨⟨#[52]⟩,⟨#[50,57]⟩⟩
theorem ab9:nk 4 29=(k4,0):=by decide+kernel
theorem aC4 (W:World):Calls Tryz.prog 40 #[Z I 4,Z I 29] W (fun e w'=>e= ah (au #[O ⟨#[52]⟩,O ⟨#[50,57]⟩])∧Below W.heap.size W w'):=by
 have:=aP.mE 4 29 zo zo zo zo W;rw [ab9] at this;exact this
theorem Zr:Fits k4:=⟨by decide,by decide⟩
def k6:Fr:=⟨⟨#[54]⟩,⟨#[50,57]⟩⟩
theorem ab8:nk 6 29=(k6,0):=by decide+kernel
theorem ad5 (W:World):Calls Tryz.prog 40 #[Z I 6,Z I 29] W (fun e w'=>e= ah (au #[O ⟨#[54]⟩,O ⟨#[50,57]⟩])∧Below W.heap.size W w'):=by
 have:=aP.mE 6 29 zo zo zo zo W;rw [ab8] at this;exact this
theorem PV:Fits k6:=⟨by decide,by decide⟩
def Bl:Fr:=⟨⟨#[49,48,56]⟩,⟨#[56,52,49]⟩⟩
theorem Pv:nk 108 841=(Bl,0):=by decide+kernel
theorem Z8 (W:World):Calls Tryz.prog 40 #[Z I 108,Z I 841] W (fun e w'=>e= ah (au #[O ⟨#[49,48,56]⟩,O ⟨#[56,52,49]⟩])∧Below W.heap.size W w'):=by
 have:=aP.mE 108 841 zo zo zo zo W;rw [Pv] at this;exact this
theorem SA:Fits Bl:=⟨by decide,by decide⟩
def k16:Fr:=⟨⟨#[49,54]⟩,⟨#[49]⟩⟩
theorem Vy:nk 16 1=(k16,0):=by decide+kernel
theorem ap5 (W:World):Calls Tryz.prog 40 #[Z I 16,Z I 1] W (fun e w'=>e= ah (au #[O ⟨#[49,54]⟩,O ⟨#[49]⟩])∧Below W.heap.size W w'):=by
 have:=aP.mE 16 1 zo zo zo zo W;rw [Vy] at this;exact this
theorem WI:Fits k16:=⟨by decide,by decide⟩
def Y6:Fr:=⟨⟨#[49,49,54]⟩,⟨#[49]⟩⟩
theorem Pt:nk 116 1=(Y6,0):=by decide+kernel
theorem Z7 (W:World):Calls Tryz.prog 40 #[Z I 116,Z I 1] W (fun e w'=>e= ah (au #[O ⟨#[49,49,54]⟩,O ⟨#[49]⟩])∧Below W.heap.size W w'):=by
 have:=aP.mE 116 1 zo zo zo zo W;rw [Pt] at this;exact this
theorem Sz:Fits Y6:=⟨by decide,by decide⟩
def Y3:Fr:=⟨⟨#[53,48,48]⟩,⟨#[49]⟩⟩
theorem Pp:nk 500 1=(Y3,0):=by decide+kernel
theorem Z5 (W:World):Calls Tryz.prog 40 #[Z I 500,Z I 1] W (fun e w'=>e= ah (au #[O ⟨#[53,48,48]⟩,O ⟨#[49]⟩])∧Below W.heap.size W w'):=by
 have:=aP.mE 500 1 zo zo zo zo W;rw [Pp] at this;exact this
theorem Sw:Fits Y3:=⟨by decide,by decide⟩
def Y4:Fr:=⟨⟨#[50,48,48]⟩,⟨#[49]⟩⟩
theorem Pq:nk 200 1=(Y4,0):=by decide+kernel
theorem Z6 (W:World):Calls Tryz.prog 40 #[Z I 200,Z I 1] W (fun e w'=>e= ah (au #[O ⟨#[50,48,48]⟩,O ⟨#[49]⟩])∧Below W.heap.size W w'):=by
 have:=aP.mE 200 1 zo zo zo zo W;rw [Pq] at this;exact this
theorem Sy:Fits Y4:=⟨by decide,by decide⟩
theorem BN {r:(Int × Int) × Int} {x:(Int × Int)} {k:Int} (h:got 0 r=(x,k)):r.2=k∧(k=0→r.1=x)∧(k≠0→x=(0,0)):=by
 unfold got at h;rw [if_pos rfl] at h;split at h<;>cases h
 ·rename_i h0;exact ⟨h0,fun _=>rfl,fun h=>absurd rfl h⟩
 ·rename_i h0;exact ⟨rfl,fun h=>absurd h h0,fun _=>rfl⟩
theorem yO {r:Fr × Int} {x:Fr} {k:Int} (h:gu 0 r=(x,k)):r.2=k∧(k=0→r.1=x)∧(k≠0→x=zF):=by
 unfold gu at h;rw [if_pos rfl] at h;split at h<;>cases h
 ·rename_i h0;exact ⟨h0,fun _=>rfl,fun h=>absurd rfl h⟩
 ·rename_i h0;exact ⟨rfl,fun h=>absurd h h0,fun _=>rfl⟩
theorem vW {E:Int} (h:E≠0) (r:(Int × Int) × Int):got E r=((0,0),E):=by unfold got;rw [if_neg h]
theorem jm {E:Int} (h:E≠0) (r:Fr × Int):gu E r=(zF,E):=by unfold gu;rw [if_neg h]
theorem Kw {α:Type} (r:α × Int) (f:α→(Int × Int) × Int):got 0 (bL (0,0) r f)=if r.2=0 then got 0 (f r.1) else ((0,0),r.2):=by
 unfold bL;split
 ·rfl
 ·rename_i h;unfold got;rw [if_pos rfl,if_neg h]
theorem jY (r:Fr × Int):gu 0 r=if r.2=0 then (r.1,0) else (zF,r.2):=by unfold gu;rw [if_pos rfl]
end Go.Proofs.aQ
namespace Go.Proofs.aP
open Go Go.RowKit Go.SW Go.Num Go.Mem Go.Proofs Go.Dec Go.gB Go.Proofs.aH Go.Proofs.light
theorem nV (a:Fr) (w:World) (hf:Fits a):Calls Tryz.prog 107 #[a.v] w (fun e w'=>e= ah (Z I (iK a).1)∧Below w.heap.size w w'):=by
 have H1:=zh (fun W=>aH.nV a W hf);obtain ⟨⟨k,j⟩,E⟩:∃ y,iK a=y:=⟨_,rfl⟩;rw [E] at H1 ⊢;obtain ⟨s,t⟩:=a;unfold Fr.v at *;clear E hf;go_enter Tryz.func107,Tryz.ntmps107
 go_wp2_with fail
 obtain ⟨oC,EW,hz,X1⟩:=zD w #[O s,O t] 32;rw [EW];have hk2:=Bt (Below.refl _ _) hz;clear EW hz;refine (H1.out _).mono ?_;rintro e pG ⟨rfl,hb3⟩;replace X1:=X1.bl hb3;have hk5:=Bt hk2 hb3;clear hk2;clear hb3;go_wp2_with fail
 go_ret
 exact ⟨rfl,hk5⟩
theorem Lr (v:Value) (l:List Fr) (T:TypeId) (w:World) (h:Uz w T v l) (hf:∀ x∈l,Fits x) :
  Calls Tryz.prog 85 #[v] w (fun e w'=>e= ah (Z I (rF l))∧Below w.heap.size w w'):=by
 obtain ⟨a,cap,rfl,hc1,hc2,hread⟩:=h.read;have H:=zh hread;have HF:=zh hf;clear h hread hf;go_enter Tryz.func85,Tryz.ntmps85
 go_wp2_with fail
 go_loopw [3] (fun iv wr=>∃ k:Nat,iv= Z I (k:Int)∧k≤l.length∧Hid (∀ j (h:j<l.length),j<k→(rd l[j]).isSome=true)∧Below w.heap.size w wr) (fun iv _=>l.length - (intOf iv).toNat)
 case atStart=>exact ⟨0,rfl,by omega,zh (fun j _ h=>by omega),Below.refl _ _⟩
 case round =>
  obtain ⟨k,rfl,hk,HK,hb⟩:=hrel
  rcases aR k l.length with hlt|hge
  ·obtain ⟨b,off,rfl,hbl,hx1,hx2⟩:=H.out k hlt;have hc1:=(hb.cell (p:=⟨b,off+k*2,none⟩) hbl).trans hx1;have hc2:=(hb.cell (p:=⟨b,off+k*2+1,none⟩) hbl).trans hx2;clear hx1 hx2;have hck:=fun W=>iT l[k] W (HF.out _ (fq hlt));generalize hlk:l[k]=lk at *;obtain ⟨s,t⟩:=lk;cases hv:(rd ⟨s,t⟩).isSome with
   | true =>
    rw [KV hv] at hck;have HCK:Hid (∀ w,Calls Tryz.prog 169 #[au #[O s,O t]] w (fun e w'=>e= ah (Z I 0)∧Below w.heap.size w w')):=zh hck;have HLK:=zh hlk;have HV:=zh hv;clear hck hlk hv;go_wp2_with fail
    refine (HCK.out _).mono ?_;rintro e v1 ⟨rfl,hc1⟩;go_wp2_with fail
    go_roundw
    case rel =>
     refine ⟨k+1,by go_num,by omega,zh fun j hj hjk=>?_,Bt hb aJ⟩
     rcases aR j k with h|h
     ·exact HK.out j hj h
     ·obtain rfl:j=k:=by omega
      rw [HLK.out];exact HV.out
    case measure=>exact zM
   | false =>
    rw [WZ hv] at hck;have HCK:Hid (∀ w,Calls Tryz.prog 169 #[au #[O s,O t]] w (fun e w'=>e= ah (Z I 20)∧Below w.heap.size w w')):=zh hck
    have hno:rF l=20:=by
     unfold rF;rw [if_neg];intro h;have:=List.all_eq_true.1 h l[k] (fq _);rw [hlk,hv] at this;cases this
    have HNO:=zh hno;clear hck hlk hv hno;go_wp2_with fail
    refine (HCK.out _).mono ?_;rintro e v1 ⟨rfl,hc1⟩;go_wp2_with fail
    go_ret
    exact ⟨by rw [HNO.out];rfl,Bt hb aJ⟩
  ·have hyes:rF l=0:=by
    unfold rF;rw [if_pos];rw [eZ];intro x hx;obtain ⟨j,hj,rfl⟩:=List.getElem_of_mem hx;exact HK.out j hj zo
   have aq1:=zh hyes;clear hyes;obtain rfl:k=l.length:=by omega
   go_wp2_with fail
   go_ret
   exact ⟨by rw [aq1.out];rfl,hb⟩
def lZ (t:iC):Prop:=∀ i,i<3→Fits (t.get i)
theorem lZ.mem {t:iC} (h:lZ t):∀ x∈t.list,Fits x:=fun x hx=>by
 simp only [iC.list,dR,jP,or_false] at hx
 rcases hx with rfl|rfl|rfl
 ·exact h 0 zo
 ·exact h 1 zo
 ·exact h 2 zo
theorem iC.at {w:World} {b:Nat} {t:iC} {T:TypeId} (h:aB w b t.cells T) {k:Nat} (hk:k<3):w.cell? ⟨b,k*2,none⟩=some (.string (t.get k).n)∧w.cell? ⟨b,k*2+1,none⟩=some (.string (t.get k).d):=by
 have hc:k=0∨k=1∨k=2:=by omega
 rcases hc with rfl|rfl|rfl<;>exact ⟨h.cell _,h.cell _⟩
theorem Uo {t:iC} (h:∀ i,i<3→decide ((fun f:Fr=>0≤(iK f).1) (t.get i))=true):t.list.all (fun f=>decide (0≤(iK f).1))=true:=by
 have h0:=h 0 zo;have h1:=h 1 zo;have h2:=h 2 zo;simp only [iC.list,fO,List.all_nil,Bool.and_true,aG];exact ⟨h0,h1,h2⟩
theorem XR {t:iC} {i:Nat} (hi:i<3) (h:decide ((fun f:Fr=>0≤(iK f).1) (t.get i))=false):t.list.all (fun f=>decide (0≤(iK f).1))=false:=by
 have hc:i=0∨i=1∨i=2:=by omega
 simp only [iC.list,fO,List.all_nil,Bool.and_true]
 rcases hc with rfl|rfl|rfl
 ·have h:decide ((fun f:Fr=>0≤(iK f).1) t.x)=false:=h;simp only at h;rw [h];rfl
 ·have h:decide ((fun f:Fr=>0≤(iK f).1) t.y)=false:=h;simp only at h;rw [h];simp
 ·have h:decide ((fun f:Fr=>0≤(iK f).1) t.z)=false:=h;simp only at h;rw [h];simp
theorem TT {t:iC} (h:∀ i,i<3→decide ((fun f:Fr=>(iK f).1≠0) (t.get i))=true):t.list.all (fun f=>decide ((iK f).1≠0))=true:=by
 have h0:=h 0 zo;have h1:=h 1 zo;have h2:=h 2 zo;simp only [iC.list,fO,List.all_nil,Bool.and_true,aG];exact ⟨h0,h1,h2⟩
theorem Xv {t:iC} {i:Nat} (hi:i<3) (h:decide ((fun f:Fr=>(iK f).1≠0) (t.get i))=false):t.list.all (fun f=>decide ((iK f).1≠0))=false:=by
 have hc:i=0∨i=1∨i=2:=by omega
 simp only [iC.list,fO,List.all_nil,Bool.and_true]
 rcases hc with rfl|rfl|rfl
 ·have h:decide ((fun f:Fr=>(iK f).1≠0) t.x)=false:=h;simp only at h;rw [h];rfl
 ·have h:decide ((fun f:Fr=>(iK f).1≠0) t.y)=false:=h;simp only at h;rw [h];simp
 ·have h:decide ((fun f:Fr=>(iK f).1≠0) t.z)=false:=h;simp only at h;rw [h];simp
theorem P5 {t:iC} (h:rF t.list≠0):pW t=20∧rF t.list=20:=by
 unfold pW;rw [if_neg h];refine ⟨rfl,?_⟩;unfold rF at *;split at h
 ·exact absurd rfl h
 ·rename_i h2;rw [if_neg h2]
def Lv (t:iC):Prop:=rF t.list=0
def Lu (t:iC):Prop:=pW t=0
theorem ab1 {t:iC} (h0:Lv t) {G:Nat→Fr} (hG:∀ k,k<3→t.get k=G k):(∀ k,k<3→decide ((fun f:Fr=>0≤(iK f).1) (G k))=false→pW t=2)∧((∀ k,k<3→decide ((fun f:Fr=>0≤(iK f).1) (G k))=true)→pW t=0):=by
 unfold pW;unfold Lv at h0;rw [if_pos h0];refine ⟨fun k hk h=>?_,fun h=>?_⟩
 ·rw [if_neg];rw [XR hk (by rw [hG k hk];exact h)];simp
 ·rw [if_pos];exact Uo fun i hi=>by rw [hG i hi];exact h i hi
theorem ZW {t:iC} (h0:Lu t) {G:Nat→Fr} (hG:∀ k,k<3→t.get k=G k):(∀ k,k<3→decide ((fun f:Fr=>(iK f).1≠0) (G k))=false→mF t=2)∧((∀ k,k<3→decide ((fun f:Fr=>(iK f).1≠0) (G k))=true)→mF t=0):=by
 unfold mF;unfold Lu at h0;rw [if_pos h0];refine ⟨fun k hk h=>?_,fun h=>?_⟩
 ·rw [if_neg];rw [Xv hk (by rw [hG k hk];exact h)];simp
 ·rw [if_pos];exact TT fun i hi=>by rw [hG i hi];exact h i hi
theorem iT (t:iC) (w:World) (hf:lZ t):Calls Tryz.prog 53 #[t.v] w (fun e w'=>e= ah (Z I (pW t))∧Below w.heap.size w w'):=by
 have FR:=zh (fun W b (h:aB W b t.cells 32)=>Lr _ _ _ W (iC.frs h) hf.mem)
 by_cases hc:rF t.list=0
 rotate_left
 ·rw [(P5 hc).1];rw [(P5 hc).2] at FR;obtain ⟨⟨x1,x2⟩,⟨x3,x4⟩,⟨x5,x6⟩⟩:=t;unfold iC.cells at FR;unfold iC.v iC.cells;clear hc hf;go_enter Tryz.func53,Tryz.ntmps53
  go_wp2_with fail
  refine (FR.out _ _ (aB.qM _ _ _ _)).mono ?_;rintro e w1 ⟨rfl,hb⟩;go_wp2_with fail
  go_ret
  exact ⟨rfl,Bt aJ hb⟩
 rw [hc] at FR;obtain ⟨G,eG⟩:∃ G,t.get=G:=⟨_,rfl⟩;have hG:∀ k,k<3→t.get k=G k:=fun k _=>by rw [eG]
 obtain ⟨h2,h0⟩:=ab1 hc hG;have H2:=zh h2;have H0:=zh h0;have SG:Hid (∀ k,k<3→∀ W,Calls Tryz.prog 107 #[(G k).v] W (fun e w'=>e= ah (Z I (iK (G k)).1)∧Below W.heap.size W w')):=zh fun k hk W=>by rw [← hG k hk];exact nV _ W (hf k hk)
 have AT:Hid (∀ (W:World) b,aB W b t.cells 34→∀ k,k<3→W.cell? ⟨b,k*2,none⟩=some (.string (G k).n)∧W.cell? ⟨b,k*2+1,none⟩=some (.string (G k).d)):=zh fun W b h k hk=>by rw [← hG k hk];exact iC.at h hk
 generalize pW t=z at *;obtain ⟨⟨x1,x2⟩,⟨x3,x4⟩,⟨x5,x6⟩⟩:=t;unfold iC.cells at FR AT;unfold iC.v iC.cells;clear hc hf hG eG h2 h0;have X:=zh (aB.new w #[O x1,O x2,O x3,O x4,O x5,O x6] 34);go_enter Tryz.func53,Tryz.ntmps53
 go_wp2_with fail
 refine (FR.out _ _ (aB.qM _ _ _ _)).mono ?_;rintro e wl ⟨rfl,hb⟩;have HB:=zh (Bt (w:=w) aJ hb);replace X:=zh ((X.out.alloc _).later hb);generalize w.heap.size=p at X;clear hb;go_wp2_with fail
 go_loopw [4] (fun iv wr=>∃ k:Nat,iv= Z I (k:Int)∧k≤3∧Hid (∀ j,j<k→decide ((fun f:Fr=>0≤(iK f).1) (G j))=true)∧Below wl.heap.size wl wr) (fun iv _=>3 - (intOf iv).toNat)
 case atStart=>exact ⟨0,rfl,by omega,zh (fun j h=>by omega),Below.refl _ _⟩
 case round =>
  obtain ⟨k,rfl,hk,HK,hb⟩:=hrel
  rcases aR k 3 with hlt|hge
  ·obtain ⟨c1,c2⟩:=AT.out wr p (X.out.later hb) k hlt;have l1:=(X.out.later hb).lt;have hs:=SG.out k hlt;have H2K:=zh (H2.out k hlt);generalize hgk:G k=g at *;have HGK:=zh hgk;obtain ⟨s,t⟩:=g;generalize hsg:(iK ⟨s,t⟩).1=sg at *;have Ov:=zh hsg;have S:Hid (∀ W,Calls Tryz.prog 107 #[au #[O s,O t]] W (fun e w'=>e= ah (Z I sg)∧Below W.heap.size W w')):=zh hs;clear hs hsg hgk
   by_cases hn:sg<0
   ·have HN:=zh hn;clear hn;have hn1:decide (sg<0)=true:=decide_eq_true HN.out;go_wp2_with fail
    refine (S.out _).mono ?_;rintro e v1 ⟨rfl,hc1⟩;go_wp2_with fail
    go_ret
    exact ⟨by rw [H2K.out (by rw [decide_eq_false_iff_not];have:=HN.out;have:=Ov.out;omega)];rfl,Bt HB.out (Bt hb aJ)⟩
   ·have HN:=zh hn;clear hn;have hn1:decide (sg<0)=false:=decide_eq_false HN.out;go_wp2_with fail
    refine (S.out _).mono ?_;rintro e v1 ⟨rfl,hc1⟩;go_wp2_with fail
    go_roundw
    case rel =>
     refine ⟨k+1,by go_num,by omega,zh fun j hj=>?_,Bt hb aJ⟩
     rcases aR j k with h|h
     ·exact HK.out j h
     ·obtain rfl:j=k:=by omega
      rw [HGK.out,decide_eq_true_iff];have:=HN.out;have:=Ov.out;omega
    case measure=>exact zM
  ·obtain rfl:k=3:=by omega
   have HZ:=zh (H0.out HK.out);go_wp2_with fail
   go_ret
   exact ⟨by rw [HZ.out];rfl,Bt HB.out hb⟩
theorem oU (t:iC) (w:World) (hf:lZ t):Calls Tryz.prog 54 #[t.v] w (fun e w'=>e= ah (Z I (mF t))∧Below w.heap.size w w'):=by
 have CK:=zh (fun W=>iT t W hf)
 by_cases hc:pW t=0
 rotate_left
 ·rw [show mF t=pW t by unfold mF;rw [if_neg hc]];have hz:(pW t == 0)=false:=beq_eq_false_iff_ne.2 hc;obtain ⟨⟨x1,x2⟩,⟨x3,x4⟩,⟨x5,x6⟩⟩:=t;unfold iC.v iC.cells at *;generalize pW ⟨⟨x1,x2⟩,⟨x3,x4⟩,⟨x5,x6⟩⟩=z at *;have HC:=zh hc;clear hc hf;go_enter Tryz.func54,Tryz.ntmps54
  go_wp2_with fail
  refine (CK.out _).mono ?_;rintro e w1 ⟨rfl,hb⟩;go_wp2_with fail
  go_ret
  exact ⟨rfl,Bt aJ hb⟩
 rw [hc] at CK;obtain ⟨G,eG⟩:∃ G,t.get=G:=⟨_,rfl⟩;have hG:∀ k,k<3→t.get k=G k:=fun k _=>by rw [eG]
 obtain ⟨h2,h0⟩:=ZW hc hG;have H2:=zh h2;have H0:=zh h0;have SG:Hid (∀ k,k<3→∀ W,Calls Tryz.prog 107 #[(G k).v] W (fun e w'=>e= ah (Z I (iK (G k)).1)∧Below W.heap.size W w')):=zh fun k hk W=>by rw [← hG k hk];exact nV _ W (hf k hk)
 have AT:Hid (∀ (W:World) b,aB W b t.cells 34→∀ k,k<3→W.cell? ⟨b,k*2,none⟩=some (.string (G k).n)∧W.cell? ⟨b,k*2+1,none⟩=some (.string (G k).d)):=zh fun W b h k hk=>by rw [← hG k hk];exact iC.at h hk
 generalize mF t=z at *;obtain ⟨⟨x1,x2⟩,⟨x3,x4⟩,⟨x5,x6⟩⟩:=t;unfold iC.cells at AT;unfold iC.v iC.cells at *;clear hc hf hG eG h2 h0;have X:=zh (aB.new w #[O x1,O x2,O x3,O x4,O x5,O x6] 34);go_enter Tryz.func54,Tryz.ntmps54
 go_wp2_with fail
 refine (CK.out _).mono ?_;rintro e wl ⟨rfl,hb⟩;have HB:=zh (Bt (w:=w) aJ hb);replace X:=zh (X.out.later hb);generalize w.heap.size=p at X;clear hb CK;go_wp2_with fail
 go_loopw [4] (fun iv wr=>∃ k:Nat,iv= Z I (k:Int)∧k≤3∧Hid (∀ j,j<k→decide ((fun f:Fr=>(iK f).1≠0) (G j))=true)∧Below wl.heap.size wl wr) (fun iv _=>3 - (intOf iv).toNat)
 case atStart=>exact ⟨0,rfl,by omega,zh (fun j h=>by omega),Below.refl _ _⟩
 case round =>
  obtain ⟨k,rfl,hk,HK,hb⟩:=hrel
  rcases aR k 3 with hlt|hge
  ·obtain ⟨c1,c2⟩:=AT.out wr p (X.out.later hb) k hlt;have l1:=(X.out.later hb).lt;have hs:=SG.out k hlt;have H2K:=zh (H2.out k hlt);generalize hgk:G k=g at *;have HGK:=zh hgk;obtain ⟨s,t⟩:=g;generalize hsg:(iK ⟨s,t⟩).1=sg at *;have Ov:=zh hsg;have S:Hid (∀ W,Calls Tryz.prog 107 #[au #[O s,O t]] W (fun e w'=>e= ah (Z I sg)∧Below W.heap.size W w')):=zh hs;clear hs hsg hgk
   by_cases hn:sg=0
   ·have HN:=zh hn;clear hn;have hn1:(sg == 0)=true:=beq_iff_eq.2 HN.out;go_wp2_with fail
    refine (S.out _).mono ?_;rintro e v1 ⟨rfl,hc1⟩;go_wp2_with fail
    go_ret
    exact ⟨by rw [H2K.out (by rw [decide_eq_false_iff_not];have:=HN.out;have:=Ov.out;omega)];rfl,Bt HB.out (Bt hb aJ)⟩
   ·have HN:=zh hn;clear hn;have hn1:(sg == 0)=false:=beq_eq_false_iff_ne.2 HN.out;go_wp2_with fail
    refine (S.out _).mono ?_;rintro e v1 ⟨rfl,hc1⟩;go_wp2_with fail
    go_roundw
    case rel =>
     refine ⟨k+1,by go_num,by omega,zh fun j hj=>?_,Bt hb aJ⟩
     rcases aR j k with h|h
     ·exact HK.out j h
     ·obtain rfl:j=k:=by omega
      rw [HGK.out,decide_eq_true_iff];have:=HN.out;have:=Ov.out;omega
    case measure=>exact zM
  ·obtain rfl:k=3:=by omega
   have HZ:=zh (H0.out HK.out);go_wp2_with fail
   go_ret
   exact ⟨by rw [HZ.out];rfl,Bt HB.out hb⟩
end Go.Proofs.aP
namespace Go.Proofs.aQ
open Go Go.RowKit Go.SW Go.Num Go.Mem Go.Proofs Go.gB Go.Fx Go.Proofs.aH Go.Proofs.aP Go.Proofs.lab
theorem IY {E p q n d u v F:Int} (h:got E (aW.qw (p,q) n d)=((u,v),F)) {b:Nat} {w:World} (X:aB w b #[.int .i64 E] 100) (hn1: -9223372036854775808≤n:=by omega) (hn2:n≤9223372036854775807:=by omega) (hd1: -9223372036854775808≤d:=by omega) (hd2:d≤9223372036854775807:=by omega) :
  Calls Tryz.prog 59 #[.pointer (some ⟨b,0,none⟩),.agg #[.int .i64 p,.int .i64 q],.int .i64 n,.int .i64 d] w (fun e w'=>e= .returned (.agg #[.int .i64 u,.int .i64 v])∧nW [b] w w'∧aB w' b #[.int .i64 F] 100):=by
 obtain ⟨⟨⟨x,y⟩,k⟩,hr⟩:∃ z,aW.qw (p,q) n d=z:=⟨_,rfl⟩;have C:=fun W=>aS.EM p q n d W hn1 hn2 hd1 hd2;rw [hr] at C h;refine Fx.door Tryz.func59 rfl (.one X) ?_;refine Fx.new [] 5 #[.int .i64 p,.int .i64 q] 40 [] [] fun fT=>?_;refine Fx.aV [] 8 40 [] [] fun fJ=>?_;refine Fx.bJ [4] 15 [] [] C ?_;refine Fx.aV [] 9 40 [(16,.agg #[.int .i64 x,.int .i64 y]),(17,.int .i64 k)] [] fun fF=>?_;refine Fx.gK [6,6] 21 0 [] [(3,#[.int .i64 x,.int .i64 y])] (fun W M=>E5 h (M.box (b:=b) 0)) ?_;exact Fx.iy 2 fJ [5] [(2,#[.int .i64 u,.int .i64 v])] (fun W M=>⟨rfl,M.vH,M.box (b:=b) 0⟩)
theorem Xq (w:World):Calls Tryz.prog 60 #[Z I 16] w (fun e w'=>e= ah (au #[Z I 16000000000000,Z I 16000000000000])∧Below w.heap.size w w'):=by
 refine Fx.door Tryz.func60 rfl (.nil w []) ?_;refine Fx.aV [] 2 40 [] [] fun fT=>?_;exact Fx.iy 0 fT [3] [(0,#[Z I 16000000000000,Z I 16000000000000])] (fun W M=>⟨rfl,M.below⟩)
theorem jX {α:Type} {z:α} {E F:Int} {r:(Int × Int) × Int} {v:Int × Int} {k:Int × Int→α × Int} {R:α × Int} (e:got E r=(v,F)) (hk:(F=0→R=k v)∧(F≠0→R=(z,F))):(E=0→R=bL z r k)∧(E≠0→R=(z,E)):=by
 refine ⟨fun h=>?_,fun h=>?_⟩
 ·subst h;obtain ⟨g1,g2,g3⟩:=BN e;unfold bL;rw [g1]
  by_cases hF:F=0
  ·rw [if_pos hF,g2 hF];exact hk.1 hF
  ·rw [if_neg hF];exact hk.2 hF
 ·rw [vW h] at e;cases e
  exact hk.2 h
theorem jF {α:Type} {z:α} {E F:Int} {r:Fr × Int} {v:Fr} {k:Fr→α × Int} {R:α × Int} (e:gu E r=(v,F)) (hk:(F=0→R=k v)∧(F≠0→R=(z,F))):(E=0→R=bL z r k)∧(E≠0→R=(z,E)):=by
 refine ⟨fun h=>?_,fun h=>?_⟩
 ·subst h;obtain ⟨g1,g2,g3⟩:=yO e;unfold bL;rw [g1]
  by_cases hF:F=0
  ·rw [if_pos hF,g2 hF];exact hk.1 hF
  ·rw [if_neg hF];exact hk.2 hF
 ·rw [jm h] at e;cases e
  exact hk.2 h
theorem Zl {α:Type} {z x:α} (F:Int):(F=0→(if F=0 then ((x,0):α × Int) else (z,F))=qx x)∧(F≠0→(if F=0 then (x,0) else (z,F))=(z,F)):=⟨fun h=>if_pos h,fun h=>if_neg h⟩
theorem av8:aW.Ut (16*1000000000000)=((16000000000000,16000000000000),0):=by decide+kernel
theorem EA {α β:Type} {z v:β} {r:α × Int} {f:α→β × Int} {k:Int} (h:bL z r f=(v,k)):v=z∨∃ x,f x=(v,k):=by
 unfold bL at h;split at h
 ·exact .inr ⟨_,h⟩
 ·cases h;exact .inl rfl
theorem BQ {α β:Type} (z:β) (x:α) (f:α→β × Int):bL z (x,0) f=f x:=rfl
end Go.Proofs.aQ
