/- Lemmas for the proof. No condition. -/
import Derived.Test.YtlpjmogillpnbaaGreatDoorMK01
import Derived.Test.YtlpjmogillpnbaaGreatDoorProg
import Derived.ChangeKeysEq
import Derived.KernelRfl
import Derived.ChangeSame
import Derived.ChangeVars
import Derived.Below
set_option linter.unusedVariables false
set_option linter.unusedSimpArgs false
set_option maxRecDepth 100000
set_option maxHeartbeats 16000000
namespace Go.Proofs
open Go Go.RowKit Go.SW Go.Num Go.Mem
theorem run_eqTri (w:World) (a1 a2 a3 a4 a5 a6 b1 b2 b3 b4 b5 b6:ByteArray) :
  (Op.equalIn 10000 32 (.agg #[.string a1,.string a2,.string a3,.string a4,.string a5,.string a6]) (.agg #[.string b1,.string b2,.string b3,.string b4,.string b5,.string b6])).run Tryz.prog w
   = .ok (((a1 == b1)&&(a2 == b2))&&((a3 == b3)&&(a4 == b4))&&((a5 == b5)&&(a6 == b6))) w:=by
 obtain ⟨i0,hi⟩:=Option.isSome_iff_exists.1 (show (Tryz.prog.info? 29).isSome=true by kernel_rfl);rw [run_equalIn_array w 9999 _ _ Tryz.underlying32 hi];have hc:Tryz.prog.cellsOf 29=2:=by kernel_rfl
 rw [hc];go_simp;simp only [Op.eqItems];go_simp;simp only [beq_toListBytes]
 by_cases h1:a1.toList=b1.toList<;>by_cases h2:a2.toList=b2.toList<;>by_cases h3:a3.toList=b3.toList<;>by_cases h4:a4.toList=b4.toList<;>by_cases h5:a5.toList=b5.toList<;>by_cases h6:a6.toList=b6.toList<;>simp [h1,h2,h3,h4,h5,h6]
theorem run_eqTri_same (a1 a2 a3 a4 a5 a6:ByteArray) (w:World) :
  (Op.equalIn 10000 32 (.agg #[.string a1,.string a2,.string a3,.string a4,.string a5,.string a6]) (.agg #[.string a1,.string a2,.string a3,.string a4,.string a5,.string a6])).run Tryz.prog w= .ok true w:=by
 rw [run_eqTri];simp [beq_toListBytes]
end Go.Proofs
namespace Go.Proofs.verdigrislaw27
open Go Go.RowKit Go.SW Go.Num Go.Mem Go.Proofs Go.Dec Go.gW Go.Fx Go.Proofs.iR
theorem metric_same {la aa ba lb ab bb lc ac bc s kd p1 p2 q1 q2 o1 o2:Int} {x1 x2 x3 x4 x5 x6 z1 z2 z3 z4 z5 z6 w1 w2:ByteArray} (hk:1+Int.tmod s 4=kd) (hs:0≤Int.tmod s 4∧Int.tmod s 4≤3) (g1:¬ 0<0) (g2: -4000000000000000000≤0+p2∧0+p2≤4000000000000000000) (g3:¬ 0+p2<q1) (g4:o1≤0) (g5:0≤o2)
  (O1:Hd (∀ W,gJ.Pow W→whole.Er W→Calls Tryz.prog 9 #[.int .i64 1,.int .i64 1] W (fun e w'=>e= .returned (.agg #[.string w1,.string w2])∧Below W.heap.size W w')))
  (T1:Hd (∀ W,gJ.Pow W→whole.Er W→Calls Tryz.prog 10 #[.agg #[.int .u16 la,.int .i16 aa,.int .i16 ba]] W (fun e w'=>e= .returned (.agg #[.string x1,.string x2,.string x3,.string x4,.string x5,.string x6])∧Below W.heap.size W w')))
  (T2:Hd (∀ W,gJ.Pow W→whole.Er W→Calls Tryz.prog 10 #[.agg #[.int .u16 lb,.int .i16 ab,.int .i16 bb]] W (fun e w'=>e= .returned (.agg #[.string x1,.string x2,.string x3,.string x4,.string x5,.string x6])∧Below W.heap.size W w')))
  (T3:Hd (∀ W,gJ.Pow W→whole.Er W→Calls Tryz.prog 10 #[.agg #[.int .u16 lc,.int .i16 ac,.int .i16 bc]] W (fun e w'=>e= .returned (.agg #[.string z1,.string z2,.string z3,.string z4,.string z5,.string z6])∧Below W.heap.size W w')))
  (D1:Hd (∀ W,gJ.Pow W→whole.Er W→Calls Tryz.prog 11 #[.int .i64 1,.agg #[.string x1,.string x2,.string x3,.string x4,.string x5,.string x6],.agg #[.string x1,.string x2,.string x3,.string x4,.string x5,.string x6],.agg #[.string w1,.string w2],.agg #[.string w1,.string w2]] W (fun e w'=>e= .returned (.tuple #[.agg #[.int .i64 0,.int .i64 0],.int .i64 0])∧Below W.heap.size W w')))
  (D2:Hd (∀ W,gJ.Pow W→whole.Er W→Calls Tryz.prog 11 #[.int .i64 1,.agg #[.string x1,.string x2,.string x3,.string x4,.string x5,.string x6],.agg #[.string x1,.string x2,.string x3,.string x4,.string x5,.string x6],.agg #[.string w1,.string w2],.agg #[.string w1,.string w2]] W (fun e w'=>e= .returned (.tuple #[.agg #[.int .i64 0,.int .i64 0],.int .i64 0])∧Below W.heap.size W w')))
  (D3:Hd (∀ W,gJ.Pow W→whole.Er W→Calls Tryz.prog 11 #[.int .i64 1,.agg #[.string x1,.string x2,.string x3,.string x4,.string x5,.string x6],.agg #[.string z1,.string z2,.string z3,.string z4,.string z5,.string z6],.agg #[.string w1,.string w2],.agg #[.string w1,.string w2]] W (fun e w'=>e= .returned (.tuple #[.agg #[.int .i64 p1,.int .i64 p2],.int .i64 0])∧Below W.heap.size W w')))
  (D4:Hd (∀ W,gJ.Pow W→whole.Er W→Calls Tryz.prog 11 #[.int .i64 1,.agg #[.string x1,.string x2,.string x3,.string x4,.string x5,.string x6],.agg #[.string z1,.string z2,.string z3,.string z4,.string z5,.string z6],.agg #[.string w1,.string w2],.agg #[.string w1,.string w2]] W (fun e w'=>e= .returned (.tuple #[.agg #[.int .i64 q1,.int .i64 q2],.int .i64 0])∧Below W.heap.size W w')))
  (D5:Hd (∀ W,gJ.Pow W→whole.Er W→Calls Tryz.prog 11 #[.int .i64 kd,.agg #[.string x1,.string x2,.string x3,.string x4,.string x5,.string x6],.agg #[.string x1,.string x2,.string x3,.string x4,.string x5,.string x6],.agg #[.string w1,.string w2],.agg #[.string w1,.string w2]] W (fun e w'=>e= .returned (.tuple #[.agg #[.int .i64 o1,.int .i64 o2],.int .i64 0])∧Below W.heap.size W w')))
  (w:World) (ht:gJ.Pow w) (he:whole.Er w) :
  Calls Tryz.prog 3 #[.agg #[.int .u16 la,.int .i16 aa,.int .i16 ba],.agg #[.int .u16 lb,.int .i16 ab,.int .i16 bb],.agg #[.int .u16 lc,.int .i16 ac,.int .i16 bc],.int .u8 s] w (fun e w'=>e= .returned (.bool true)∧Below w.heap.size w w'):=by
 have hs1:=hs.1;have hs2:=hs.2
 have hk1:Value.int .i64 (IntKind.i64.wrap (1+IntKind.i64.wrap (Int.tmod s 4)))= .int .i64 kd:=by
  rw [show IntKind.i64.wrap (Int.tmod s 4)=Int.tmod s 4 by rw [IntKind.wrap_i64];omega,hk,show IntKind.i64.wrap kd=kd by rw [IntKind.wrap_i64];omega]
 have eb:∀ (a b:Int) W,(Op.equalIn 10000 35 (.agg #[.int .i64 a,.int .i64 b]) (.agg #[.int .i64 a,.int .i64 b])).run Tryz.prog W= .ok true W:=fun a b W=>by
  rw [aQ.nH];simp
 refine Fx.door Tryz.func3 rfl (.nil w []) ?_;refine Fx.new [] 4 #[.int .u16 la,.int .i16 aa,.int .i16 ba] 25 [] [] fun gV=>?_;refine Fx.new [] 5 #[.int .u16 lb,.int .i16 ab,.int .i16 bb] 25 [] [] fun iD=>?_;refine Fx.new [] 6 #[.int .u16 lc,.int .i16 ac,.int .i16 bc] 25 [] [] fun iL=>?_;refine Fx.call [] 22 [] [] (fun W M=>wV _ (ht.later M.below) (he.later M.below)) ?_;refine Fx.draw [2] [1,3,5,0,2,4,6,7,8,9,10,11,12,13,14] [] [] [] ?_;refine Fx.call [3,4,5] 24 [(25,.agg #[.int .u16 la,.int .i16 aa,.int .i16 ba]),(27,.agg #[.int .u16 lb,.int .i16 ab,.int .i16 bb]),(29,.agg #[.int .u16 lc,.int .i16 ac,.int .i16 bc])] [] (fun W M=>O1.out _ (ht.later M.below) (he.later M.below)) ?_;refine Fx.call [] 26 [] [] (fun W M=>T1.out _ (ht.later M.below) (he.later M.below)) ?_;refine Fx.call [] 28 [] [] (fun W M=>T2.out _ (ht.later M.below) (he.later M.below)) ?_
 refine Fx.call [] 30 [] [] (fun W M=>T3.out _ (ht.later M.below) (he.later M.below)) ?_;refine Fx.cK [] 9 29 [] [] fun vo=>?_;refine Fx.cK [] 10 32 [] [] fun rz=>?_;refine Fx.cK [] 11 32 [] [] fun Ja=>?_;refine Fx.cK [] 12 32 [] [] fun Aq=>?_;refine Fx.call [6,7,8,9,7,8,6,6] 36 [] [(3,#[.string w1,.string w2]),(4,#[.string x1,.string x2,.string x3,.string x4,.string x5,.string x6]),(5,#[.string x1,.string x2,.string x3,.string x4,.string x5,.string x6]),(6,#[.string z1,.string z2,.string z3,.string z4,.string z5,.string z6])] (fun W M=>D1.out _ (ht.later M.below) (he.later M.below)) ?_;refine Fx.bq [] 13 35 [(37,.agg #[.int .i64 0,.int .i64 0]),(38,.int .i64 0)] [] fun Le=>?_;refine Fx.call [10,8,7,6,6] 44 [(14,.int .i64 0)] [(7,#[.int .i64 0,.int .i64 0])] (fun W M=>D2.out _ (ht.later M.below) (he.later M.below)) ?_
 refine Fx.bq [] 15 35 [(45,.agg #[.int .i64 0,.int .i64 0]),(46,.int .i64 0)] [] fun YI=>?_;refine Fx.call [11,8,9,6,6] 52 [(16,.int .i64 0)] [(8,#[.int .i64 0,.int .i64 0])] (fun W M=>D3.out _ (ht.later M.below) (he.later M.below)) ?_;refine Fx.bq [] 17 35 [(53,.agg #[.int .i64 p1,.int .i64 p2]),(54,.int .i64 0)] [] fun Ov=>?_;refine Fx.call [12,7,9,6,6] 60 [(18,.int .i64 0)] [(9,#[.int .i64 p1,.int .i64 p2])] (fun W M=>D4.out _ (ht.later M.below) (he.later M.below)) ?_;refine Fx.bq [] 19 35 [(61,.agg #[.int .i64 q1,.int .i64 q2]),(62,.int .i64 0)] [] fun Kk=>?_;refine Fx.draw [13] (List.range 43) [] [(20,.int .i64 0)] [(10,#[.int .i64 q1,.int .i64 q2])] ?_
 refine Fx.eql 22 [10,11,7,8] 85 true true 32 (.agg #[.string x1,.string x2,.string x3,.string x4,.string x5,.string x6]) (.agg #[.string x1,.string x2,.string x3,.string x4,.string x5,.string x6]) [(82,.bool false)] [] (fun W=>run_eqTri_same _ _ _ _ _ _ W) ?_;refine Fx.part 9 [10,10] [(94,.bool false),(91,.bool false)] [] ?_;refine Fx.uO (.bool false) (congrArg Value.bool (decide_eq_false g1)) ?_;refine Fx.part 9 [13,10,12] [(103,.int .i64 (IntKind.i64.wrap (0+p2))),(96,.bool false),(98,.int .i64 q1)] [] ?_;refine Fx.uO (.int .i64 (0+p2)) (Fx.wrap_i64 zo zo) ?_;refine Fx.part 1 [] [(104,.bool (decide ((0+p2)<q1)))] [] ?_;refine Fx.uO (.bool false) (by rw [decide_eq_false g3]) ?_;refine Fx.part 12 [2] [(110,.int .i64 (IntKind.i64.wrap (1+(IntKind.i64.wrap (Int.tmod s 4)))))] [] ?_;refine Fx.uO (.int .i64 kd) (hk1) ?_
 refine Fx.call [7,7,6,6] 115 [] [] (fun W M=>D5.out _ (ht.later M.below) (he.later M.below)) ?_;refine Fx.bq [] 21 35 [(116,.agg #[.int .i64 o1,.int .i64 o2]),(117,.int .i64 0)] [] fun Kj=>?_;refine Fx.part 12 [14,14] [(123,.bool (decide (o1≤0))),(14,.int .i64 0),(120,.bool true)] [(11,#[.int .i64 o1,.int .i64 o2])] ?_;refine Fx.uO (.bool true) (by rw [decide_eq_true g4]) ?_;refine Fx.part 5 [14] [(128,.bool (decide (0≤o2))),(125,.bool true)] [] ?_;refine Fx.uO (.bool true) (by rw [decide_eq_true g5]) ?_;exact Fx.jU [] [] (fun W M=>⟨rfl,M.below⟩)
theorem metric_diff {la aa ba lb ab bb lc ac bc s kd d1 d2 p1 p2 q1 q2 o1 o2:Int} {x1 x2 x3 x4 x5 x6 y1 y2 y3 y4 y5 y6 z1 z2 z3 z4 z5 z6 w1 w2:ByteArray} (hk:1+Int.tmod s 4=kd) (hs:0≤Int.tmod s 4∧Int.tmod s 4≤3) (g1:¬ d1<0) (g2: -4000000000000000000≤d2+p2∧d2+p2≤4000000000000000000) (g3:¬ d2+p2<q1) (g4:o1≤0) (g5:0≤o2)
  (n1:Hd (∀ W,(Op.equalIn 10000 32 (.agg #[.string x1,.string x2,.string x3,.string x4,.string x5,.string x6]) (.agg #[.string y1,.string y2,.string y3,.string y4,.string y5,.string y6])).run Tryz.prog W= .ok false W)) (n2:Hd (∀ W,(Op.equalIn 10000 35 (.agg #[.int .i64 d1,.int .i64 d2]) (.agg #[.int .i64 0,.int .i64 0])).run Tryz.prog W= .ok false W))
  (O1:Hd (∀ W,gJ.Pow W→whole.Er W→Calls Tryz.prog 9 #[.int .i64 1,.int .i64 1] W (fun e w'=>e= .returned (.agg #[.string w1,.string w2])∧Below W.heap.size W w')))
  (T1:Hd (∀ W,gJ.Pow W→whole.Er W→Calls Tryz.prog 10 #[.agg #[.int .u16 la,.int .i16 aa,.int .i16 ba]] W (fun e w'=>e= .returned (.agg #[.string x1,.string x2,.string x3,.string x4,.string x5,.string x6])∧Below W.heap.size W w')))
  (T2:Hd (∀ W,gJ.Pow W→whole.Er W→Calls Tryz.prog 10 #[.agg #[.int .u16 lb,.int .i16 ab,.int .i16 bb]] W (fun e w'=>e= .returned (.agg #[.string y1,.string y2,.string y3,.string y4,.string y5,.string y6])∧Below W.heap.size W w')))
  (T3:Hd (∀ W,gJ.Pow W→whole.Er W→Calls Tryz.prog 10 #[.agg #[.int .u16 lc,.int .i16 ac,.int .i16 bc]] W (fun e w'=>e= .returned (.agg #[.string z1,.string z2,.string z3,.string z4,.string z5,.string z6])∧Below W.heap.size W w')))
  (D1:Hd (∀ W,gJ.Pow W→whole.Er W→Calls Tryz.prog 11 #[.int .i64 1,.agg #[.string x1,.string x2,.string x3,.string x4,.string x5,.string x6],.agg #[.string y1,.string y2,.string y3,.string y4,.string y5,.string y6],.agg #[.string w1,.string w2],.agg #[.string w1,.string w2]] W (fun e w'=>e= .returned (.tuple #[.agg #[.int .i64 d1,.int .i64 d2],.int .i64 0])∧Below W.heap.size W w')))
  (D2:Hd (∀ W,gJ.Pow W→whole.Er W→Calls Tryz.prog 11 #[.int .i64 1,.agg #[.string y1,.string y2,.string y3,.string y4,.string y5,.string y6],.agg #[.string x1,.string x2,.string x3,.string x4,.string x5,.string x6],.agg #[.string w1,.string w2],.agg #[.string w1,.string w2]] W (fun e w'=>e= .returned (.tuple #[.agg #[.int .i64 d1,.int .i64 d2],.int .i64 0])∧Below W.heap.size W w')))
  (D3:Hd (∀ W,gJ.Pow W→whole.Er W→Calls Tryz.prog 11 #[.int .i64 1,.agg #[.string y1,.string y2,.string y3,.string y4,.string y5,.string y6],.agg #[.string z1,.string z2,.string z3,.string z4,.string z5,.string z6],.agg #[.string w1,.string w2],.agg #[.string w1,.string w2]] W (fun e w'=>e= .returned (.tuple #[.agg #[.int .i64 p1,.int .i64 p2],.int .i64 0])∧Below W.heap.size W w')))
  (D4:Hd (∀ W,gJ.Pow W→whole.Er W→Calls Tryz.prog 11 #[.int .i64 1,.agg #[.string x1,.string x2,.string x3,.string x4,.string x5,.string x6],.agg #[.string z1,.string z2,.string z3,.string z4,.string z5,.string z6],.agg #[.string w1,.string w2],.agg #[.string w1,.string w2]] W (fun e w'=>e= .returned (.tuple #[.agg #[.int .i64 q1,.int .i64 q2],.int .i64 0])∧Below W.heap.size W w')))
  (D5:Hd (∀ W,gJ.Pow W→whole.Er W→Calls Tryz.prog 11 #[.int .i64 kd,.agg #[.string x1,.string x2,.string x3,.string x4,.string x5,.string x6],.agg #[.string x1,.string x2,.string x3,.string x4,.string x5,.string x6],.agg #[.string w1,.string w2],.agg #[.string w1,.string w2]] W (fun e w'=>e= .returned (.tuple #[.agg #[.int .i64 o1,.int .i64 o2],.int .i64 0])∧Below W.heap.size W w')))
  (w:World) (ht:gJ.Pow w) (he:whole.Er w) :
  Calls Tryz.prog 3 #[.agg #[.int .u16 la,.int .i16 aa,.int .i16 ba],.agg #[.int .u16 lb,.int .i16 ab,.int .i16 bb],.agg #[.int .u16 lc,.int .i16 ac,.int .i16 bc],.int .u8 s] w (fun e w'=>e= .returned (.bool true)∧Below w.heap.size w w'):=by
 have hs1:=hs.1;have hs2:=hs.2
 have hk1:Value.int .i64 (IntKind.i64.wrap (1+IntKind.i64.wrap (Int.tmod s 4)))= .int .i64 kd:=by
  rw [show IntKind.i64.wrap (Int.tmod s 4)=Int.tmod s 4 by rw [IntKind.wrap_i64];omega,hk,show IntKind.i64.wrap kd=kd by rw [IntKind.wrap_i64];omega]
 have eb:∀ (a b:Int) W,(Op.equalIn 10000 35 (.agg #[.int .i64 a,.int .i64 b]) (.agg #[.int .i64 a,.int .i64 b])).run Tryz.prog W= .ok true W:=fun a b W=>by
  rw [aQ.nH];simp
 refine Fx.door Tryz.func3 rfl (.nil w []) ?_;refine Fx.new [] 4 #[.int .u16 la,.int .i16 aa,.int .i16 ba] 25 [] [] fun gV=>?_;refine Fx.new [] 5 #[.int .u16 lb,.int .i16 ab,.int .i16 bb] 25 [] [] fun iD=>?_;refine Fx.new [] 6 #[.int .u16 lc,.int .i16 ac,.int .i16 bc] 25 [] [] fun iL=>?_;refine Fx.call [] 22 [] [] (fun W M=>wV _ (ht.later M.below) (he.later M.below)) ?_;refine Fx.draw [2] [1,3,5,0,2,4,6,7,8,9,10,11,12,13,14] [] [] [] ?_;refine Fx.call [3,4,5] 24 [(25,.agg #[.int .u16 la,.int .i16 aa,.int .i16 ba]),(27,.agg #[.int .u16 lb,.int .i16 ab,.int .i16 bb]),(29,.agg #[.int .u16 lc,.int .i16 ac,.int .i16 bc])] [] (fun W M=>O1.out _ (ht.later M.below) (he.later M.below)) ?_;refine Fx.call [] 26 [] [] (fun W M=>T1.out _ (ht.later M.below) (he.later M.below)) ?_;refine Fx.call [] 28 [] [] (fun W M=>T2.out _ (ht.later M.below) (he.later M.below)) ?_
 refine Fx.call [] 30 [] [] (fun W M=>T3.out _ (ht.later M.below) (he.later M.below)) ?_;refine Fx.cK [] 9 29 [] [] fun vo=>?_;refine Fx.cK [] 10 32 [] [] fun rz=>?_;refine Fx.cK [] 11 32 [] [] fun Ja=>?_;refine Fx.cK [] 12 32 [] [] fun Aq=>?_;refine Fx.call [6,7,8,9,7,8,6,6] 36 [] [(3,#[.string w1,.string w2]),(4,#[.string x1,.string x2,.string x3,.string x4,.string x5,.string x6]),(5,#[.string y1,.string y2,.string y3,.string y4,.string y5,.string y6]),(6,#[.string z1,.string z2,.string z3,.string z4,.string z5,.string z6])] (fun W M=>D1.out _ (ht.later M.below) (he.later M.below)) ?_;refine Fx.bq [] 13 35 [(37,.agg #[.int .i64 d1,.int .i64 d2]),(38,.int .i64 0)] [] fun Le=>?_;refine Fx.call [10,8,7,6,6] 44 [(14,.int .i64 0)] [(7,#[.int .i64 d1,.int .i64 d2])] (fun W M=>D2.out _ (ht.later M.below) (he.later M.below)) ?_
 refine Fx.bq [] 15 35 [(45,.agg #[.int .i64 d1,.int .i64 d2]),(46,.int .i64 0)] [] fun YI=>?_;refine Fx.call [11,8,9,6,6] 52 [(16,.int .i64 0)] [(8,#[.int .i64 d1,.int .i64 d2])] (fun W M=>D3.out _ (ht.later M.below) (he.later M.below)) ?_;refine Fx.bq [] 17 35 [(53,.agg #[.int .i64 p1,.int .i64 p2]),(54,.int .i64 0)] [] fun Ov=>?_;refine Fx.call [12,7,9,6,6] 60 [(18,.int .i64 0)] [(9,#[.int .i64 p1,.int .i64 p2])] (fun W M=>D4.out _ (ht.later M.below) (he.later M.below)) ?_;refine Fx.bq [] 19 35 [(61,.agg #[.int .i64 q1,.int .i64 q2]),(62,.int .i64 0)] [] fun Kk=>?_;refine Fx.draw [13] (List.range 43) [] [(20,.int .i64 0)] [(10,#[.int .i64 q1,.int .i64 q2])] ?_;refine Fx.eql 17 [10,11] 80 false true 35 (.agg #[.int .i64 d1,.int .i64 d2]) (.agg #[.int .i64 d1,.int .i64 d2]) [(77,.bool false)] [] (fun W=>eb _ _ W) ?_
 refine Fx.eql 4 [7,8] 85 true false 32 (.agg #[.string x1,.string x2,.string x3,.string x4,.string x5,.string x6]) (.agg #[.string y1,.string y2,.string y3,.string y4,.string y5,.string y6]) [(82,.bool false)] [] (fun W=>n1.out W) ?_;refine Fx.eql 2 [10] 88 true false 35 (.agg #[.int .i64 d1,.int .i64 d2]) (.agg #[.int .i64 0,.int .i64 0]) [] [] (fun W=>n2.out W) ?_;refine Fx.part 6 [10] [(94,.bool (decide (d1<0))),(91,.bool false)] [] ?_;refine Fx.uO (.bool false) (congrArg Value.bool (decide_eq_false g1)) ?_;refine Fx.part 9 [13,10,12] [(103,.int .i64 (IntKind.i64.wrap (d2+p2))),(96,.bool false),(98,.int .i64 q1)] [] ?_;refine Fx.uO (.int .i64 (d2+p2)) (Fx.wrap_i64 zo zo) ?_;refine Fx.part 1 [] [(104,.bool (decide ((d2+p2)<q1)))] [] ?_;refine Fx.uO (.bool false) (by rw [decide_eq_false g3]) ?_
 refine Fx.part 12 [2] [(110,.int .i64 (IntKind.i64.wrap (1+(IntKind.i64.wrap (Int.tmod s 4)))))] [] ?_;refine Fx.uO (.int .i64 kd) (hk1) ?_;refine Fx.call [7,7,6,6] 115 [] [] (fun W M=>D5.out _ (ht.later M.below) (he.later M.below)) ?_;refine Fx.bq [] 21 35 [(116,.agg #[.int .i64 o1,.int .i64 o2]),(117,.int .i64 0)] [] fun Kj=>?_;refine Fx.part 12 [14,14] [(123,.bool (decide (o1≤0))),(14,.int .i64 0),(120,.bool true)] [(11,#[.int .i64 o1,.int .i64 o2])] ?_;refine Fx.uO (.bool true) (by rw [decide_eq_true g4]) ?_;refine Fx.part 5 [14] [(128,.bool (decide (0≤o2))),(125,.bool true)] [] ?_;refine Fx.uO (.bool true) (by rw [decide_eq_true g5]) ?_;exact Fx.jU [] [] (fun W M=>⟨rfl,M.below⟩)
end Go.Proofs.verdigrislaw27
namespace Go.Proofs.verdigrislaw27
open Go Go.RowKit Go.Num Go.Mem Go.Proofs Go.gW Go.Proofs.aQ Go.Proofs.mO Go.Proofs.iq Go.Proofs.iR Go.Proofs.differ
theorem lh_of {l a b:Int} (hl:0≤l∧l≤65535) (ha: -32768≤a∧a≤32767) (hb: -32768≤b∧b≤32767):Lh (l.tmod 10001) (a.tmod 12801) (b.tmod 12801):=by
 have l1:=Int.tmod_lt_of_pos l (show 0<10001 by omega);have l2:=Int.tmod_nonneg (10001:Int) hl.1;have m1:=Int.tmod_lt_of_pos a (show 0<12801 by omega);have m2:=Int.lt_tmod_of_pos a (show 0<12801 by omega);have n1:=Int.tmod_lt_of_pos b (show 0<12801 by omega);have n2:=Int.lt_tmod_of_pos b (show 0<12801 by omega);exact ⟨l2,by omega,by omega,by omega⟩
theorem lq_of {l a b:Int} (h:Lh l a b):Vm (qy l) (qy a) (qy b):=by
 obtain ⟨l0,l1,ha,hb⟩:=h
 have low:∀ {n k:Int}, -(k*100)≤n→ -(k:Rat)≤qy n:=fun {n k} h=>by
  have:=Gm (m:= -n) (n:=k) zo;have e:qy (-n)= -qy n:=by unfold qy;rw [Rat.intCast_neg];grind
  rw [e] at this
  grind
 have z:((0:Int):Rat)=0:=rfl;have z1:((128:Int):Rat)=128:=rfl;have p0:=low (n:=l) (k:=0) zo;have a0:=low (n:=a) (k:=128) zo;have b0:=low (n:=b) (k:=128) zo;rw [z] at p0;rw [z1] at a0 b0;exact ⟨Bl zo,Bl ha,Bl hb,by grind,Gm (n:=100) zo,a0,Gm (n:=128) zo,b0,Gm (n:=128) zo⟩
theorem hun_inj {m n:Int} (hm:m.natAbs≤12800) (hn:n.natAbs≤12800) (h:Fr.of (qy m)=Fr.of (qy n)):m=n:=by
 have h1:=xM ((Bl hm).ok zo);rw [h,xM ((Bl hn).ok zo)] at h1;have h2:qy n=qy m:=Option.some.inj h1;unfold qy at h2;have i:(((100:Int):Rat))≠0:=by decide+kernel
 have h3:(n:Rat)=(m:Rat):=by grind
 exact (Rat.intCast_inj.1 h3).symm
theorem metric_ok (la aa ba lb' ab bb lc ac bc s:Int) (hla:0≤la∧la≤65535) (haa: -32768≤aa∧aa≤32767) (hba: -32768≤ba∧ba≤32767) (hlb:0≤lb'∧lb'≤65535) (hab: -32768≤ab∧ab≤32767) (hbb: -32768≤bb∧bb≤32767) (hlc:0≤lc∧lc≤65535) (hac: -32768≤ac∧ac≤32767) (hbc: -32768≤bc∧bc≤32767) (hs:0≤s∧s≤255) (w:World) (ht:gJ.Pow w) (he:whole.Er w) :
  Calls Tryz.prog 3 #[.agg #[.int .u16 la,.int .i16 aa,.int .i16 ba],.agg #[.int .u16 lb',.int .i16 ab,.int .i16 bb],.agg #[.int .u16 lc,.int .i16 ac,.int .i16 bc],.int .u8 s] w (fun e w'=>e= .returned (.bool true)∧Below w.heap.size w w'):=by
 have R1:=fun W=>KF la aa ba hla haa hba W;have R2:=fun W=>KF lb' ab bb hlb hab hbb W;have R3:=fun W=>KF lc ac bc hlc hac hbc W;have X:=lh_of hla haa hba;have Y:=lh_of hlb hab hbb;have Z:=lh_of hlc hac hbc;generalize la.tmod 10001=x1 at *;generalize aa.tmod 12801=x2 at *;generalize ba.tmod 12801=x3 at *;generalize lb'.tmod 10001=y1 at *;generalize ab.tmod 12801=y2 at *;generalize bb.tmod 12801=y3 at *;generalize lc.tmod 10001=z1 at *;generalize ac.tmod 12801=z2 at *;generalize bc.tmod 12801=z3 at *;have t1:=Int.tmod_nonneg (4:Int) hs.1;have t2:=Int.tmod_lt_of_pos s (show (0:Int)<4 by omega);obtain ⟨o,eo,o1,o2⟩:=own_ok (kd:=1+Int.tmod s 4) zo zo X;have cO:=QS (kd:=1+Int.tmod s 4) zo zo (lq_of X) (lq_of X) Ls Ls;generalize hk0:1+Int.tmod s 4=kd at *;obtain ⟨eXY,bXY⟩:=old_hun X Y (Fr.of 1) (Fr.of 1);obtain ⟨eYX,bYX⟩:=old_hun Y X (Fr.of 1) (Fr.of 1)
 obtain ⟨eYZ,bYZ⟩:=old_hun Y Z (Fr.of 1) (Fr.of 1);obtain ⟨eXZ,bXZ⟩:=old_hun X Z (Fr.of 1) (Fr.of 1);have s1:((y1 - x1)*10000000000).natAbs=((x1 - y1)*10000000000).natAbs:=by omega
 have s2:((y2 - x2)*10000000000).natAbs=((x2 - y2)*10000000000).natAbs:=by omega
 have s3:((y3 - x3)*10000000000).natAbs=((x3 - y3)*10000000000).natAbs:=by omega
 rw [s1,s2,s3] at eYX;have tri:=tri3 (u:=((x1 - z1)*10000000000).natAbs) (v:=((x2 - z2)*10000000000).natAbs) (w:=((x3 - z3)*10000000000).natAbs) (a:=((x1 - y1)*10000000000).natAbs) (b:=((x2 - y2)*10000000000).natAbs) (c:=((x3 - y3)*10000000000).natAbs) (x:=((y1 - z1)*10000000000).natAbs) (y:=((y2 - z2)*10000000000).natAbs) (z:=((y3 - z3)*10000000000).natAbs) zo zo zo;have c1:=QS (kd:=1) zo zo (lq_of X) (lq_of Y) Ls Ls;have c2:=QS (kd:=1) zo zo (lq_of Y) (lq_of X) Ls Ls;have c3:=QS (kd:=1) zo zo (lq_of Y) (lq_of Z) Ls Ls;have c4:=QS (kd:=1) zo zo (lq_of X) (lq_of Z) Ls Ls;have D1:=fun W ht he=>dO (J6 c1 eXY) W ht he;have D2:=fun W ht he=>dO (J6 c2 eYX) W ht he;have D3:=fun W ht he=>dO (J6 c3 eYZ) W ht he;have D4:=fun W ht he=>dO (J6 c4 eXZ) W ht he
 have D5:=fun W ht he=>dO (J6 cO eo) W ht he
 by_cases hxy:x1=y1∧x2=y2∧x3=y3
 ·obtain ⟨rfl,rfl,rfl⟩:=hxy;simp only [Int.sub_self,Int.zero_mul,Int.natAbs_zero] at *;have n0:nlo [0,0,0]=0:=by decide+kernel
  have m0:nhi [0,0,0]=0:=by decide+kernel
  rw [m0] at tri;simp only [n0,m0] at D1 D2;exact metric_same hk0 ⟨t1,by omega⟩ zd zo zo o1 o2 (hd fun W ht _=>MH W ht) (hd fun W _ _=>R1 W) (hd fun W _ _=>R2 W) (hd fun W _ _=>R3 W) (hd D1) (hd D2) (hd D3) (hd D4) (hd D5) w ht he
 ·have hpos:nhi [((x1 - y1)*10000000000).natAbs,((x2 - y2)*10000000000).natAbs,((x3 - y3)*10000000000).natAbs]≠0:=fun h=>by
   have h2:=nhi_spec [((x1 - y1)*10000000000).natAbs,((x2 - y2)*10000000000).natAbs,((x3 - y3)*10000000000).natAbs];rw [h,sq3] at h2
   have z:∀ n:Nat,n^2≤0→n=0:=fun n h=>by
    rcases Nat.eq_zero_or_pos n with h1|h1
    ·exact h1
    ·have:=Nat.pow_pos (n:=2) h1;omega
   have k1:=z _ (show ((x1 - y1)*10000000000).natAbs^2≤0 by omega);have k2:=z _ (show ((x2 - y2)*10000000000).natAbs^2≤0 by omega);have k3:=z _ (show ((x3 - y3)*10000000000).natAbs^2≤0 by omega);exact hxy ⟨by omega,by omega,by omega⟩
  refine metric_diff hk0 ⟨t1,by omega⟩ zo zo zo o1 o2 (hd fun W=>?_) (hd fun W=>?_) (hd fun W ht _=>MH W ht) (hd fun W _ _=>R1 W) (hd fun W _ _=>R2 W) (hd fun W _ _=>R3 W) (hd D1) (hd D2) (hd D3) (hd D4) (hd D5) w ht he
  ·rw [run_eqTri]
   congr 1
   refine Bool.eq_false_iff.2 fun h=>hxy ?_;simp only [Bool.and_eq_true,beq_toListBytes,beq_iff_eq] at h;obtain ⟨⟨⟨h1,h2⟩,h3,h4⟩,h5,h6⟩:=h
   have bl:∀ {a b:ByteArray},a.toList=b.toList→a=b:=fun {a b} h=>by
    rw [ByteArray.toList_eq,ByteArray.toList_eq] at h;cases a;cases b;congr 1;exact Array.toList_inj.1 h
   have ext:∀ {p q:Fr},p.n.toList=q.n.toList→p.d.toList=q.d.toList→p=q:=fun {p q} h1 h2=>by cases p;cases q;simp only at*; rw [bl h1,bl h2]
   have lx:=X.l0;have lx1:=X.l1;have ly:=Y.l0;have ly1:=Y.l1;exact ⟨hun_inj zo zo (ext h1 h2),hun_inj X.a Y.a (ext h3 h4),hun_inj X.b Y.b (ext h5 h6)⟩
  ·rw [nH]
   congr 1
   refine Bool.eq_false_iff.2 fun h=>?_;simp only [Bool.and_eq_true,decide_eq_true_eq] at h;omega
end Go.Proofs.verdigrislaw27
namespace Go.Proofs.YtlpjmogillpnbaaGreatDoor
open Go Go.ChangeShapes Go.WideShapes Go.RowKit Go.Proofs
theorem oq {P:Program} {w:World} {r:Reach} {b:Nat} {u:TypeId} {k:IntKind} {v:Value} (hu:P.underlying u=some (.int k)) (h:Cell.okWide P w r b u v):∃ n,v= .int k n∧k.has n:=by
 unfold Cell.okWide at h;simp only [hu] at h;unfold Cell.ok at h;simp only [hu] at h;cases v<;>simp at h
 obtain ⟨rfl,h⟩:=h;exact ⟨_,rfl,h⟩
theorem RZ {α:Type} {l:List α} (h:l.length=3):∃ x0 x1 x2,l=[x0,x1,x2]:=by
 match l,h with
 | [x0,x1,x2],_=>exact ⟨x0,x1,x2,rfl⟩
theorem Ao {P:Program} {w:World} {r:Reach} {b:Nat} {T:TypeId} {d:TypeDesc} {ts:List TypeId} {v:Value} (hu:P.underlying T=some d) (hd:(match d with| .struct _| .array _ _=>true| _=>false)=true)
  {n:Nat} (hc:P.cellTypes P.depth T=some ts) (hn:P.cellsOf T=n) (hl:ts.length=n) (h:Value.okWide P w r b T v):∃ l:List Value,v= .agg ⟨l⟩∧l.length=n∧∀ (i:Nat) x u,l[i]? =some x→ts[i]? =some u→Cell.okWide P w r b u x:=by
 have h':∃ cs,v= .agg cs∧cs.size=P.cellsOf T∧Row.okWide P w r b T cs:=by
  unfold Value.okWide at h;rw [hu] at h;cases d<;>simp at hd<;>exact h
 obtain ⟨⟨l⟩,rfl,hs,ts',ht, -, hx⟩:=h';rw [hc] at ht;cases ht
 refine ⟨l,rfl,by rw [← hn];exact hs,fun i x u hi hui=>?_⟩;obtain ⟨u',h1,h2⟩:=hx i x (by simpa using hi);have hlt:i<ts.length:=(List.getElem?_eq_some_iff.1 hui).1;rw [Nat.mod_eq_of_lt hlt,hui] at h1;cases h1
 exact h2
theorem IY {n:Int} (h:IntKind.u16.has n):0≤n∧n≤65535:=by
 simpa [IntKind.has,IntKind.min,IntKind.max,IntKind.signed,IntKind.bits] using h
theorem wL {n:Int} (h:IntKind.i16.has n):(-32768)≤n∧n≤32767:=by
 simpa [IntKind.has,IntKind.min,IntKind.max,IntKind.signed,IntKind.bits] using h
theorem Dl:laidOutB Tryz.prog=true:=by kernel_rfl
end Go.Proofs.YtlpjmogillpnbaaGreatDoor
