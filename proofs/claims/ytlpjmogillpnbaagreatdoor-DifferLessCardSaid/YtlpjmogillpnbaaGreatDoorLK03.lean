/- Lemmas for the proof. No condition. -/
import Derived.Test.YtlpjmogillpnbaaGreatDoorLK01
import Derived.Test.YtlpjmogillpnbaaGreatDoorLK02
import Derived.Test.YtlpjmogillpnbaaGreatDoorProg
import Derived.ChangeSame
import Derived.ChangeVars
import Derived.Below
set_option linter.unusedVariables false
set_option linter.unusedSimpArgs false
set_option maxRecDepth 100000
set_option maxHeartbeats 16000000
namespace Go.Proofs.verdigrislaw27
open Go Go.RowKit Go.SW Go.Num Go.Mem Go.Proofs Go.Dec Go.gW Go.Fx Go.Proofs.iR
theorem less_a {la aa ba lb ab bb na da nb db sm kd d1 d2 n1 n2 p1 p2 eh r1 r2 q1 q2 ek fk:Int} {x1 x2 x3 x4 x5 x6 y1 y2 y3 y4 y5 y6 w1 w2 s1 s2 o1 o2 u1 u2 t1 t2 v1 v2:ByteArray} (hk:1+Int.tmod sm 4=kd) (hs:0≤Int.tmod sm 4∧Int.tmod sm 4≤3) (g1:¬ d2<n1) (g2:ek≠0)
  (O1:Hd (∀ W,gJ.Pow W→whole.Er W→Calls Tryz.prog 9 #[.int .i64 1,.int .i64 1] W (fun e w'=>e= .returned (.agg #[.string w1,.string w2])∧Below W.heap.size W w')))
  (T1:Hd (∀ W,gJ.Pow W→whole.Er W→Calls Tryz.prog 10 #[.agg #[.int .u16 la,.int .i16 aa,.int .i16 ba]] W (fun e w'=>e= .returned (.agg #[.string x1,.string x2,.string x3,.string x4,.string x5,.string x6])∧Below W.heap.size W w')))
  (T2:Hd (∀ W,gJ.Pow W→whole.Er W→Calls Tryz.prog 10 #[.agg #[.int .u16 lb,.int .i16 ab,.int .i16 bb]] W (fun e w'=>e= .returned (.agg #[.string y1,.string y2,.string y3,.string y4,.string y5,.string y6])∧Below W.heap.size W w')))
  (D1:Hd (∀ W,gJ.Pow W→whole.Er W→Calls Tryz.prog 11 #[.int .i64 1,.agg #[.string x1,.string x2,.string x3,.string x4,.string x5,.string x6],.agg #[.string y1,.string y2,.string y3,.string y4,.string y5,.string y6],.agg #[.string w1,.string w2],.agg #[.string w1,.string w2]] W (fun e w'=>e= .returned (.tuple #[.agg #[.int .i64 d1,.int .i64 d2],.int .i64 0])∧Below W.heap.size W w')))
  (D2:Hd (∀ W,gJ.Pow W→whole.Er W→Calls Tryz.prog 11 #[.int .i64 2,.agg #[.string x1,.string x2,.string x3,.string x4,.string x5,.string x6],.agg #[.string y1,.string y2,.string y3,.string y4,.string y5,.string y6],.agg #[.string w1,.string w2],.agg #[.string w1,.string w2]] W (fun e w'=>e= .returned (.tuple #[.agg #[.int .i64 n1,.int .i64 n2],.int .i64 0])∧Below W.heap.size W w')))
  (D3:Hd (∀ W,gJ.Pow W→whole.Er W→Calls Tryz.prog 11 #[.int .i64 4,.agg #[.string x1,.string x2,.string x3,.string x4,.string x5,.string x6],.agg #[.string y1,.string y2,.string y3,.string y4,.string y5,.string y6],.agg #[.string w1,.string w2],.agg #[.string w1,.string w2]] W (fun e w'=>e= .returned (.tuple #[.agg #[.int .i64 p1,.int .i64 p2],.int .i64 eh])∧Below W.heap.size W w')))
  (D4:Hd (∀ W,gJ.Pow W→whole.Er W→Calls Tryz.prog 11 #[.int .i64 4,.agg #[.string y1,.string y2,.string y3,.string y4,.string y5,.string y6],.agg #[.string x1,.string x2,.string x3,.string x4,.string x5,.string x6],.agg #[.string w1,.string w2],.agg #[.string w1,.string w2]] W (fun e w'=>e= .returned (.tuple #[.agg #[.int .i64 p1,.int .i64 p2],.int .i64 eh])∧Below W.heap.size W w')))
  (S1:Hd (∀ W,gJ.Pow W→whole.Er W→Calls Tryz.prog 13 #[.agg #[.int .i16 na,.int .u8 da]] W (fun e w'=>e= .returned (.agg #[.string s1,.string s2])∧Below W.heap.size W w')))
  (O2:Hd (∀ W,gJ.Pow W→whole.Er W→Calls Tryz.prog 9 #[.int .i64 1,.int .i64 9] W (fun e w'=>e= .returned (.agg #[.string o1,.string o2])∧Below W.heap.size W w')))
  (A1:Hd (∀ W,gJ.Pow W→whole.Er W→Calls Tryz.prog 12 #[.agg #[.string s1,.string s2],.agg #[.string o1,.string o2]] W (fun e w'=>e= .returned (.tuple #[.agg #[.string u1,.string u2],.int .i64 0])∧Below W.heap.size W w')))
  (S2:Hd (∀ W,gJ.Pow W→whole.Er W→Calls Tryz.prog 13 #[.agg #[.int .i16 nb,.int .u8 db]] W (fun e w'=>e= .returned (.agg #[.string t1,.string t2])∧Below W.heap.size W w')))
  (A2:Hd (∀ W,gJ.Pow W→whole.Er W→Calls Tryz.prog 12 #[.agg #[.string u1,.string u2],.agg #[.string t1,.string t2]] W (fun e w'=>e= .returned (.tuple #[.agg #[.string v1,.string v2],.int .i64 0])∧Below W.heap.size W w')))
  (D5:Hd (∀ W,gJ.Pow W→whole.Er W→Calls Tryz.prog 11 #[.int .i64 kd,.agg #[.string x1,.string x2,.string x3,.string x4,.string x5,.string x6],.agg #[.string y1,.string y2,.string y3,.string y4,.string y5,.string y6],.agg #[.string u1,.string u2],.agg #[.string u1,.string u2]] W (fun e w'=>e= .returned (.tuple #[.agg #[.int .i64 r1,.int .i64 r2],.int .i64 ek])∧Below W.heap.size W w')))
  (D6:Hd (∀ W,gJ.Pow W→whole.Er W→Calls Tryz.prog 11 #[.int .i64 kd,.agg #[.string x1,.string x2,.string x3,.string x4,.string x5,.string x6],.agg #[.string y1,.string y2,.string y3,.string y4,.string y5,.string y6],.agg #[.string v1,.string v2],.agg #[.string v1,.string v2]] W (fun e w'=>e= .returned (.tuple #[.agg #[.int .i64 q1,.int .i64 q2],.int .i64 fk])∧Below W.heap.size W w')))
  (w:World) (ht:gJ.Pow w) (he:whole.Er w) :
  Calls Tryz.prog 4 #[.agg #[.int .u16 la,.int .i16 aa,.int .i16 ba],.agg #[.int .u16 lb,.int .i16 ab,.int .i16 bb],.agg #[.int .i16 na,.int .u8 da],.agg #[.int .i16 nb,.int .u8 db],.int .u8 sm] w (fun e w'=>e= .returned (.bool true)∧Below w.heap.size w w'):=by
 have hs1:=hs.1;have hs2:=hs.2
 have hk1:Value.int .i64 (IntKind.i64.wrap (1+IntKind.i64.wrap (Int.tmod sm 4)))= .int .i64 kd:=by
  rw [show IntKind.i64.wrap (Int.tmod sm 4)=Int.tmod sm 4 by rw [IntKind.wrap_i64];omega,hk,show IntKind.i64.wrap kd=kd by rw [IntKind.wrap_i64];omega]
 have eb:∀ (a b:Int) W,(Op.equalIn 10000 35 (.agg #[.int .i64 a,.int .i64 b]) (.agg #[.int .i64 a,.int .i64 b])).run Tryz.prog W= .ok true W:=fun a b W=>by
  rw [aQ.nH];simp
 refine Fx.door Tryz.func4 rfl (.nil w []) ?_;refine Fx.new [] 5 #[.int .u16 la,.int .i16 aa,.int .i16 ba] 25 [] [] fun gV=>?_;refine Fx.new [] 6 #[.int .u16 lb,.int .i16 ab,.int .i16 bb] 25 [] [] fun iD=>?_;refine Fx.new [] 7 #[.int .i16 na,.int .u8 da] 41 [] [] fun iL=>?_;refine Fx.new [] 8 #[.int .i16 nb,.int .u8 db] 41 [] [] fun vo=>?_;refine Fx.call [] 25 [] [] (fun W M=>wV _ (ht.later M.below) (he.later M.below)) ?_;refine Fx.draw [2] [1,3,0,2,4,5,6,7,8,9,10] [] [] [] ?_;refine Fx.call [3,4] 27 [(28,.agg #[.int .u16 la,.int .i16 aa,.int .i16 ba]),(30,.agg #[.int .u16 lb,.int .i16 ab,.int .i16 bb])] [] (fun W M=>O1.out _ (ht.later M.below) (he.later M.below)) ?_;refine Fx.call [] 29 [] [] (fun W M=>T1.out _ (ht.later M.below) (he.later M.below)) ?_;refine Fx.call [] 31 [] [] (fun W M=>T2.out _ (ht.later M.below) (he.later M.below)) ?_
 refine Fx.cK [] 11 29 [] [] fun rz=>?_;refine Fx.cK [] 12 32 [] [] fun Ja=>?_;refine Fx.cK [] 13 32 [] [] fun Aq=>?_;refine Fx.call [7,8,9,8,9,7,7] 37 [] [(4,#[.string w1,.string w2]),(5,#[.string x1,.string x2,.string x3,.string x4,.string x5,.string x6]),(6,#[.string y1,.string y2,.string y3,.string y4,.string y5,.string y6])] (fun W M=>D1.out _ (ht.later M.below) (he.later M.below)) ?_;refine Fx.bq [] 14 35 [(38,.agg #[.int .i64 d1,.int .i64 d2]),(39,.int .i64 0)] [] fun Le=>?_;refine Fx.call [10,8,9,7,7] 45 [(15,.int .i64 0)] [(7,#[.int .i64 d1,.int .i64 d2])] (fun W M=>D2.out _ (ht.later M.below) (he.later M.below)) ?_;refine Fx.bq [] 16 35 [(46,.agg #[.int .i64 n1,.int .i64 n2]),(47,.int .i64 0)] [] fun YI=>?_;refine Fx.part 19 [11,11,10] [(59,.bool (decide (d2<n1))),(54,.bool false)] [(8,#[.int .i64 n1,.int .i64 n2])] ?_
 refine Fx.uO (.bool false) (by rw [decide_eq_false g1]) ?_;refine Fx.call [2,8,9,7,7] 66 [] [] (fun W M=>D3.out _ (ht.later M.below) (he.later M.below)) ?_;refine Fx.bq [] 18 35 [(67,.agg #[.int .i64 p1,.int .i64 p2]),(68,.int .i64 eh)] [] fun Ov=>?_;refine Fx.call [12,9,8,7,7] 74 [(15,.int .i64 eh)] [(9,#[.int .i64 p1,.int .i64 p2])] (fun W M=>D4.out _ (ht.later M.below) (he.later M.below)) ?_;refine Fx.bq [] 19 35 [(75,.agg #[.int .i64 p1,.int .i64 p2]),(76,.int .i64 eh)] [] fun Kk=>?_;refine Fx.eql 9 [13,12,13] 79 false true 35 (.agg #[.int .i64 p1,.int .i64 p2]) (.agg #[.int .i64 p1,.int .i64 p2]) [(17,.int .i64 eh)] [(10,#[.int .i64 p1,.int .i64 p2])] (fun W=>eb _ _ W) ?_;refine Fx.part 4 [] [(83,.bool (!(eh == eh))),(80,.bool false)] [] ?_;refine Fx.uO (.bool false) zi ?_
 refine Fx.part 12 [2] [(88,.int .i64 (IntKind.i64.wrap (1+(IntKind.i64.wrap (Int.tmod sm 4)))))] [] ?_;refine Fx.uO (.int .i64 kd) (hk1) ?_;refine Fx.call [5] 91 [(20,.int .i64 kd)] [] (fun W M=>S1.out _ (ht.later M.below) (he.later M.below)) ?_;refine Fx.call [] 92 [] [] (fun W M=>O2.out _ (ht.later M.below) (he.later M.below)) ?_;refine Fx.call [] 93 [] [] (fun W M=>A1.out _ (ht.later M.below) (he.later M.below)) ?_;refine Fx.bq [] 21 29 [(94,.agg #[.string u1,.string u2]),(95,.int .i64 0)] [] fun Kj=>?_;refine Fx.draw [14] [0,1,2,3,4,5,6,7,8,5009] [] [(22,.int .i64 0)] [(11,#[.string u1,.string u2])] ?_;refine Fx.call [14,6] 99 [(97,.agg #[.string u1,.string u2])] [] (fun W M=>S2.out _ (ht.later M.below) (he.later M.below)) ?_;refine Fx.call [] 100 [] [] (fun W M=>A2.out _ (ht.later M.below) (he.later M.below)) ?_
 refine Fx.cK [] 23 29 [(101,.agg #[.string v1,.string v2]),(102,.int .i64 0)] [] fun Gy=>?_;refine Fx.call [15,8,9,14,14] 109 [(24,.int .i64 0)] [(12,#[.string v1,.string v2])] (fun W M=>D5.out _ (ht.later M.below) (he.later M.below)) ?_;refine Fx.call [12,8,9,15,15] 118 [(15,.int .i64 ek)] [(9,#[.int .i64 r1,.int .i64 r2])] (fun W M=>D6.out _ (ht.later M.below) (he.later M.below)) ?_;refine Fx.part 18 [13] [(129,.bool (!(ek == 0))),(17,.int .i64 fk),(127,.bool true)] [(10,#[.int .i64 q1,.int .i64 q2])] ?_;refine Fx.uO (.bool true) (by simp [g2]) ?_;exact Fx.jU [0,0] [] (fun W M=>⟨rfl,M.below⟩)
theorem less_b {la aa ba lb ab bb na da nb db sm kd d1 d2 n1 n2 p1 p2 eh r1 r2 q1 q2 fk:Int} {x1 x2 x3 x4 x5 x6 y1 y2 y3 y4 y5 y6 w1 w2 s1 s2 o1 o2 u1 u2 t1 t2 v1 v2:ByteArray} (hk:1+Int.tmod sm 4=kd) (hs:0≤Int.tmod sm 4∧Int.tmod sm 4≤3) (g1:¬ d2<n1) (g2:fk≠0)
  (O1:Hd (∀ W,gJ.Pow W→whole.Er W→Calls Tryz.prog 9 #[.int .i64 1,.int .i64 1] W (fun e w'=>e= .returned (.agg #[.string w1,.string w2])∧Below W.heap.size W w')))
  (T1:Hd (∀ W,gJ.Pow W→whole.Er W→Calls Tryz.prog 10 #[.agg #[.int .u16 la,.int .i16 aa,.int .i16 ba]] W (fun e w'=>e= .returned (.agg #[.string x1,.string x2,.string x3,.string x4,.string x5,.string x6])∧Below W.heap.size W w')))
  (T2:Hd (∀ W,gJ.Pow W→whole.Er W→Calls Tryz.prog 10 #[.agg #[.int .u16 lb,.int .i16 ab,.int .i16 bb]] W (fun e w'=>e= .returned (.agg #[.string y1,.string y2,.string y3,.string y4,.string y5,.string y6])∧Below W.heap.size W w')))
  (D1:Hd (∀ W,gJ.Pow W→whole.Er W→Calls Tryz.prog 11 #[.int .i64 1,.agg #[.string x1,.string x2,.string x3,.string x4,.string x5,.string x6],.agg #[.string y1,.string y2,.string y3,.string y4,.string y5,.string y6],.agg #[.string w1,.string w2],.agg #[.string w1,.string w2]] W (fun e w'=>e= .returned (.tuple #[.agg #[.int .i64 d1,.int .i64 d2],.int .i64 0])∧Below W.heap.size W w')))
  (D2:Hd (∀ W,gJ.Pow W→whole.Er W→Calls Tryz.prog 11 #[.int .i64 2,.agg #[.string x1,.string x2,.string x3,.string x4,.string x5,.string x6],.agg #[.string y1,.string y2,.string y3,.string y4,.string y5,.string y6],.agg #[.string w1,.string w2],.agg #[.string w1,.string w2]] W (fun e w'=>e= .returned (.tuple #[.agg #[.int .i64 n1,.int .i64 n2],.int .i64 0])∧Below W.heap.size W w')))
  (D3:Hd (∀ W,gJ.Pow W→whole.Er W→Calls Tryz.prog 11 #[.int .i64 4,.agg #[.string x1,.string x2,.string x3,.string x4,.string x5,.string x6],.agg #[.string y1,.string y2,.string y3,.string y4,.string y5,.string y6],.agg #[.string w1,.string w2],.agg #[.string w1,.string w2]] W (fun e w'=>e= .returned (.tuple #[.agg #[.int .i64 p1,.int .i64 p2],.int .i64 eh])∧Below W.heap.size W w')))
  (D4:Hd (∀ W,gJ.Pow W→whole.Er W→Calls Tryz.prog 11 #[.int .i64 4,.agg #[.string y1,.string y2,.string y3,.string y4,.string y5,.string y6],.agg #[.string x1,.string x2,.string x3,.string x4,.string x5,.string x6],.agg #[.string w1,.string w2],.agg #[.string w1,.string w2]] W (fun e w'=>e= .returned (.tuple #[.agg #[.int .i64 p1,.int .i64 p2],.int .i64 eh])∧Below W.heap.size W w')))
  (S1:Hd (∀ W,gJ.Pow W→whole.Er W→Calls Tryz.prog 13 #[.agg #[.int .i16 na,.int .u8 da]] W (fun e w'=>e= .returned (.agg #[.string s1,.string s2])∧Below W.heap.size W w')))
  (O2:Hd (∀ W,gJ.Pow W→whole.Er W→Calls Tryz.prog 9 #[.int .i64 1,.int .i64 9] W (fun e w'=>e= .returned (.agg #[.string o1,.string o2])∧Below W.heap.size W w')))
  (A1:Hd (∀ W,gJ.Pow W→whole.Er W→Calls Tryz.prog 12 #[.agg #[.string s1,.string s2],.agg #[.string o1,.string o2]] W (fun e w'=>e= .returned (.tuple #[.agg #[.string u1,.string u2],.int .i64 0])∧Below W.heap.size W w')))
  (S2:Hd (∀ W,gJ.Pow W→whole.Er W→Calls Tryz.prog 13 #[.agg #[.int .i16 nb,.int .u8 db]] W (fun e w'=>e= .returned (.agg #[.string t1,.string t2])∧Below W.heap.size W w')))
  (A2:Hd (∀ W,gJ.Pow W→whole.Er W→Calls Tryz.prog 12 #[.agg #[.string u1,.string u2],.agg #[.string t1,.string t2]] W (fun e w'=>e= .returned (.tuple #[.agg #[.string v1,.string v2],.int .i64 0])∧Below W.heap.size W w')))
  (D5:Hd (∀ W,gJ.Pow W→whole.Er W→Calls Tryz.prog 11 #[.int .i64 kd,.agg #[.string x1,.string x2,.string x3,.string x4,.string x5,.string x6],.agg #[.string y1,.string y2,.string y3,.string y4,.string y5,.string y6],.agg #[.string u1,.string u2],.agg #[.string u1,.string u2]] W (fun e w'=>e= .returned (.tuple #[.agg #[.int .i64 r1,.int .i64 r2],.int .i64 0])∧Below W.heap.size W w')))
  (D6:Hd (∀ W,gJ.Pow W→whole.Er W→Calls Tryz.prog 11 #[.int .i64 kd,.agg #[.string x1,.string x2,.string x3,.string x4,.string x5,.string x6],.agg #[.string y1,.string y2,.string y3,.string y4,.string y5,.string y6],.agg #[.string v1,.string v2],.agg #[.string v1,.string v2]] W (fun e w'=>e= .returned (.tuple #[.agg #[.int .i64 q1,.int .i64 q2],.int .i64 fk])∧Below W.heap.size W w')))
  (w:World) (ht:gJ.Pow w) (he:whole.Er w) :
  Calls Tryz.prog 4 #[.agg #[.int .u16 la,.int .i16 aa,.int .i16 ba],.agg #[.int .u16 lb,.int .i16 ab,.int .i16 bb],.agg #[.int .i16 na,.int .u8 da],.agg #[.int .i16 nb,.int .u8 db],.int .u8 sm] w (fun e w'=>e= .returned (.bool true)∧Below w.heap.size w w'):=by
 have hs1:=hs.1;have hs2:=hs.2
 have hk1:Value.int .i64 (IntKind.i64.wrap (1+IntKind.i64.wrap (Int.tmod sm 4)))= .int .i64 kd:=by
  rw [show IntKind.i64.wrap (Int.tmod sm 4)=Int.tmod sm 4 by rw [IntKind.wrap_i64];omega,hk,show IntKind.i64.wrap kd=kd by rw [IntKind.wrap_i64];omega]
 have eb:∀ (a b:Int) W,(Op.equalIn 10000 35 (.agg #[.int .i64 a,.int .i64 b]) (.agg #[.int .i64 a,.int .i64 b])).run Tryz.prog W= .ok true W:=fun a b W=>by
  rw [aQ.nH];simp
 refine Fx.door Tryz.func4 rfl (.nil w []) ?_;refine Fx.new [] 5 #[.int .u16 la,.int .i16 aa,.int .i16 ba] 25 [] [] fun gV=>?_;refine Fx.new [] 6 #[.int .u16 lb,.int .i16 ab,.int .i16 bb] 25 [] [] fun iD=>?_;refine Fx.new [] 7 #[.int .i16 na,.int .u8 da] 41 [] [] fun iL=>?_;refine Fx.new [] 8 #[.int .i16 nb,.int .u8 db] 41 [] [] fun vo=>?_;refine Fx.call [] 25 [] [] (fun W M=>wV _ (ht.later M.below) (he.later M.below)) ?_;refine Fx.draw [2] [1,3,0,2,4,5,6,7,8,9,10] [] [] [] ?_;refine Fx.call [3,4] 27 [(28,.agg #[.int .u16 la,.int .i16 aa,.int .i16 ba]),(30,.agg #[.int .u16 lb,.int .i16 ab,.int .i16 bb])] [] (fun W M=>O1.out _ (ht.later M.below) (he.later M.below)) ?_;refine Fx.call [] 29 [] [] (fun W M=>T1.out _ (ht.later M.below) (he.later M.below)) ?_;refine Fx.call [] 31 [] [] (fun W M=>T2.out _ (ht.later M.below) (he.later M.below)) ?_
 refine Fx.cK [] 11 29 [] [] fun rz=>?_;refine Fx.cK [] 12 32 [] [] fun Ja=>?_;refine Fx.cK [] 13 32 [] [] fun Aq=>?_;refine Fx.call [7,8,9,8,9,7,7] 37 [] [(4,#[.string w1,.string w2]),(5,#[.string x1,.string x2,.string x3,.string x4,.string x5,.string x6]),(6,#[.string y1,.string y2,.string y3,.string y4,.string y5,.string y6])] (fun W M=>D1.out _ (ht.later M.below) (he.later M.below)) ?_;refine Fx.bq [] 14 35 [(38,.agg #[.int .i64 d1,.int .i64 d2]),(39,.int .i64 0)] [] fun Le=>?_;refine Fx.call [10,8,9,7,7] 45 [(15,.int .i64 0)] [(7,#[.int .i64 d1,.int .i64 d2])] (fun W M=>D2.out _ (ht.later M.below) (he.later M.below)) ?_;refine Fx.bq [] 16 35 [(46,.agg #[.int .i64 n1,.int .i64 n2]),(47,.int .i64 0)] [] fun YI=>?_;refine Fx.part 19 [11,11,10] [(59,.bool (decide (d2<n1))),(54,.bool false)] [(8,#[.int .i64 n1,.int .i64 n2])] ?_
 refine Fx.uO (.bool false) (by rw [decide_eq_false g1]) ?_;refine Fx.call [2,8,9,7,7] 66 [] [] (fun W M=>D3.out _ (ht.later M.below) (he.later M.below)) ?_;refine Fx.bq [] 18 35 [(67,.agg #[.int .i64 p1,.int .i64 p2]),(68,.int .i64 eh)] [] fun Ov=>?_;refine Fx.call [12,9,8,7,7] 74 [(15,.int .i64 eh)] [(9,#[.int .i64 p1,.int .i64 p2])] (fun W M=>D4.out _ (ht.later M.below) (he.later M.below)) ?_;refine Fx.bq [] 19 35 [(75,.agg #[.int .i64 p1,.int .i64 p2]),(76,.int .i64 eh)] [] fun Kk=>?_;refine Fx.eql 9 [13,12,13] 79 false true 35 (.agg #[.int .i64 p1,.int .i64 p2]) (.agg #[.int .i64 p1,.int .i64 p2]) [(17,.int .i64 eh)] [(10,#[.int .i64 p1,.int .i64 p2])] (fun W=>eb _ _ W) ?_;refine Fx.part 4 [] [(83,.bool (!(eh == eh))),(80,.bool false)] [] ?_;refine Fx.uO (.bool false) zi ?_
 refine Fx.part 12 [2] [(88,.int .i64 (IntKind.i64.wrap (1+(IntKind.i64.wrap (Int.tmod sm 4)))))] [] ?_;refine Fx.uO (.int .i64 kd) (hk1) ?_;refine Fx.call [5] 91 [(20,.int .i64 kd)] [] (fun W M=>S1.out _ (ht.later M.below) (he.later M.below)) ?_;refine Fx.call [] 92 [] [] (fun W M=>O2.out _ (ht.later M.below) (he.later M.below)) ?_;refine Fx.call [] 93 [] [] (fun W M=>A1.out _ (ht.later M.below) (he.later M.below)) ?_;refine Fx.bq [] 21 29 [(94,.agg #[.string u1,.string u2]),(95,.int .i64 0)] [] fun Kj=>?_;refine Fx.draw [14] [0,1,2,3,4,5,6,7,8,5009] [] [(22,.int .i64 0)] [(11,#[.string u1,.string u2])] ?_;refine Fx.call [14,6] 99 [(97,.agg #[.string u1,.string u2])] [] (fun W M=>S2.out _ (ht.later M.below) (he.later M.below)) ?_;refine Fx.call [] 100 [] [] (fun W M=>A2.out _ (ht.later M.below) (he.later M.below)) ?_
 refine Fx.cK [] 23 29 [(101,.agg #[.string v1,.string v2]),(102,.int .i64 0)] [] fun Gy=>?_;refine Fx.call [15,8,9,14,14] 109 [(24,.int .i64 0)] [(12,#[.string v1,.string v2])] (fun W M=>D5.out _ (ht.later M.below) (he.later M.below)) ?_;refine Fx.call [12,8,9,15,15] 118 [(15,.int .i64 0)] [(9,#[.int .i64 r1,.int .i64 r2])] (fun W M=>D6.out _ (ht.later M.below) (he.later M.below)) ?_;refine Fx.part 21 [13] [(132,.bool (!(fk == 0))),(17,.int .i64 fk),(127,.bool true),(130,.bool false)] [(10,#[.int .i64 q1,.int .i64 q2])] ?_;refine Fx.uO (.bool true) (by simp [g2]) ?_;exact Fx.jU [0,0] [] (fun W M=>⟨rfl,M.below⟩)
theorem less_c {la aa ba lb ab bb na da nb db sm kd d1 d2 n1 n2 p1 p2 eh r1 r2 q1 q2:Int} {x1 x2 x3 x4 x5 x6 y1 y2 y3 y4 y5 y6 w1 w2 s1 s2 o1 o2 u1 u2 t1 t2 v1 v2:ByteArray} (hk:1+Int.tmod sm 4=kd) (hs:0≤Int.tmod sm 4∧Int.tmod sm 4≤3) (g1:¬ d2<n1) (g2:q1≤r2)
  (O1:Hd (∀ W,gJ.Pow W→whole.Er W→Calls Tryz.prog 9 #[.int .i64 1,.int .i64 1] W (fun e w'=>e= .returned (.agg #[.string w1,.string w2])∧Below W.heap.size W w')))
  (T1:Hd (∀ W,gJ.Pow W→whole.Er W→Calls Tryz.prog 10 #[.agg #[.int .u16 la,.int .i16 aa,.int .i16 ba]] W (fun e w'=>e= .returned (.agg #[.string x1,.string x2,.string x3,.string x4,.string x5,.string x6])∧Below W.heap.size W w')))
  (T2:Hd (∀ W,gJ.Pow W→whole.Er W→Calls Tryz.prog 10 #[.agg #[.int .u16 lb,.int .i16 ab,.int .i16 bb]] W (fun e w'=>e= .returned (.agg #[.string y1,.string y2,.string y3,.string y4,.string y5,.string y6])∧Below W.heap.size W w')))
  (D1:Hd (∀ W,gJ.Pow W→whole.Er W→Calls Tryz.prog 11 #[.int .i64 1,.agg #[.string x1,.string x2,.string x3,.string x4,.string x5,.string x6],.agg #[.string y1,.string y2,.string y3,.string y4,.string y5,.string y6],.agg #[.string w1,.string w2],.agg #[.string w1,.string w2]] W (fun e w'=>e= .returned (.tuple #[.agg #[.int .i64 d1,.int .i64 d2],.int .i64 0])∧Below W.heap.size W w')))
  (D2:Hd (∀ W,gJ.Pow W→whole.Er W→Calls Tryz.prog 11 #[.int .i64 2,.agg #[.string x1,.string x2,.string x3,.string x4,.string x5,.string x6],.agg #[.string y1,.string y2,.string y3,.string y4,.string y5,.string y6],.agg #[.string w1,.string w2],.agg #[.string w1,.string w2]] W (fun e w'=>e= .returned (.tuple #[.agg #[.int .i64 n1,.int .i64 n2],.int .i64 0])∧Below W.heap.size W w')))
  (D3:Hd (∀ W,gJ.Pow W→whole.Er W→Calls Tryz.prog 11 #[.int .i64 4,.agg #[.string x1,.string x2,.string x3,.string x4,.string x5,.string x6],.agg #[.string y1,.string y2,.string y3,.string y4,.string y5,.string y6],.agg #[.string w1,.string w2],.agg #[.string w1,.string w2]] W (fun e w'=>e= .returned (.tuple #[.agg #[.int .i64 p1,.int .i64 p2],.int .i64 eh])∧Below W.heap.size W w')))
  (D4:Hd (∀ W,gJ.Pow W→whole.Er W→Calls Tryz.prog 11 #[.int .i64 4,.agg #[.string y1,.string y2,.string y3,.string y4,.string y5,.string y6],.agg #[.string x1,.string x2,.string x3,.string x4,.string x5,.string x6],.agg #[.string w1,.string w2],.agg #[.string w1,.string w2]] W (fun e w'=>e= .returned (.tuple #[.agg #[.int .i64 p1,.int .i64 p2],.int .i64 eh])∧Below W.heap.size W w')))
  (S1:Hd (∀ W,gJ.Pow W→whole.Er W→Calls Tryz.prog 13 #[.agg #[.int .i16 na,.int .u8 da]] W (fun e w'=>e= .returned (.agg #[.string s1,.string s2])∧Below W.heap.size W w')))
  (O2:Hd (∀ W,gJ.Pow W→whole.Er W→Calls Tryz.prog 9 #[.int .i64 1,.int .i64 9] W (fun e w'=>e= .returned (.agg #[.string o1,.string o2])∧Below W.heap.size W w')))
  (A1:Hd (∀ W,gJ.Pow W→whole.Er W→Calls Tryz.prog 12 #[.agg #[.string s1,.string s2],.agg #[.string o1,.string o2]] W (fun e w'=>e= .returned (.tuple #[.agg #[.string u1,.string u2],.int .i64 0])∧Below W.heap.size W w')))
  (S2:Hd (∀ W,gJ.Pow W→whole.Er W→Calls Tryz.prog 13 #[.agg #[.int .i16 nb,.int .u8 db]] W (fun e w'=>e= .returned (.agg #[.string t1,.string t2])∧Below W.heap.size W w')))
  (A2:Hd (∀ W,gJ.Pow W→whole.Er W→Calls Tryz.prog 12 #[.agg #[.string u1,.string u2],.agg #[.string t1,.string t2]] W (fun e w'=>e= .returned (.tuple #[.agg #[.string v1,.string v2],.int .i64 0])∧Below W.heap.size W w')))
  (D5:Hd (∀ W,gJ.Pow W→whole.Er W→Calls Tryz.prog 11 #[.int .i64 kd,.agg #[.string x1,.string x2,.string x3,.string x4,.string x5,.string x6],.agg #[.string y1,.string y2,.string y3,.string y4,.string y5,.string y6],.agg #[.string u1,.string u2],.agg #[.string u1,.string u2]] W (fun e w'=>e= .returned (.tuple #[.agg #[.int .i64 r1,.int .i64 r2],.int .i64 0])∧Below W.heap.size W w')))
  (D6:Hd (∀ W,gJ.Pow W→whole.Er W→Calls Tryz.prog 11 #[.int .i64 kd,.agg #[.string x1,.string x2,.string x3,.string x4,.string x5,.string x6],.agg #[.string y1,.string y2,.string y3,.string y4,.string y5,.string y6],.agg #[.string v1,.string v2],.agg #[.string v1,.string v2]] W (fun e w'=>e= .returned (.tuple #[.agg #[.int .i64 q1,.int .i64 q2],.int .i64 0])∧Below W.heap.size W w')))
  (w:World) (ht:gJ.Pow w) (he:whole.Er w) :
  Calls Tryz.prog 4 #[.agg #[.int .u16 la,.int .i16 aa,.int .i16 ba],.agg #[.int .u16 lb,.int .i16 ab,.int .i16 bb],.agg #[.int .i16 na,.int .u8 da],.agg #[.int .i16 nb,.int .u8 db],.int .u8 sm] w (fun e w'=>e= .returned (.bool true)∧Below w.heap.size w w'):=by
 have hs1:=hs.1;have hs2:=hs.2
 have hk1:Value.int .i64 (IntKind.i64.wrap (1+IntKind.i64.wrap (Int.tmod sm 4)))= .int .i64 kd:=by
  rw [show IntKind.i64.wrap (Int.tmod sm 4)=Int.tmod sm 4 by rw [IntKind.wrap_i64];omega,hk,show IntKind.i64.wrap kd=kd by rw [IntKind.wrap_i64];omega]
 have eb:∀ (a b:Int) W,(Op.equalIn 10000 35 (.agg #[.int .i64 a,.int .i64 b]) (.agg #[.int .i64 a,.int .i64 b])).run Tryz.prog W= .ok true W:=fun a b W=>by
  rw [aQ.nH];simp
 refine Fx.door Tryz.func4 rfl (.nil w []) ?_;refine Fx.new [] 5 #[.int .u16 la,.int .i16 aa,.int .i16 ba] 25 [] [] fun gV=>?_;refine Fx.new [] 6 #[.int .u16 lb,.int .i16 ab,.int .i16 bb] 25 [] [] fun iD=>?_;refine Fx.new [] 7 #[.int .i16 na,.int .u8 da] 41 [] [] fun iL=>?_;refine Fx.new [] 8 #[.int .i16 nb,.int .u8 db] 41 [] [] fun vo=>?_;refine Fx.call [] 25 [] [] (fun W M=>wV _ (ht.later M.below) (he.later M.below)) ?_;refine Fx.draw [2] [1,3,0,2,4,5,6,7,8,9,10] [] [] [] ?_;refine Fx.call [3,4] 27 [(28,.agg #[.int .u16 la,.int .i16 aa,.int .i16 ba]),(30,.agg #[.int .u16 lb,.int .i16 ab,.int .i16 bb])] [] (fun W M=>O1.out _ (ht.later M.below) (he.later M.below)) ?_;refine Fx.call [] 29 [] [] (fun W M=>T1.out _ (ht.later M.below) (he.later M.below)) ?_;refine Fx.call [] 31 [] [] (fun W M=>T2.out _ (ht.later M.below) (he.later M.below)) ?_
 refine Fx.cK [] 11 29 [] [] fun rz=>?_;refine Fx.cK [] 12 32 [] [] fun Ja=>?_;refine Fx.cK [] 13 32 [] [] fun Aq=>?_;refine Fx.call [7,8,9,8,9,7,7] 37 [] [(4,#[.string w1,.string w2]),(5,#[.string x1,.string x2,.string x3,.string x4,.string x5,.string x6]),(6,#[.string y1,.string y2,.string y3,.string y4,.string y5,.string y6])] (fun W M=>D1.out _ (ht.later M.below) (he.later M.below)) ?_;refine Fx.bq [] 14 35 [(38,.agg #[.int .i64 d1,.int .i64 d2]),(39,.int .i64 0)] [] fun Le=>?_;refine Fx.call [10,8,9,7,7] 45 [(15,.int .i64 0)] [(7,#[.int .i64 d1,.int .i64 d2])] (fun W M=>D2.out _ (ht.later M.below) (he.later M.below)) ?_;refine Fx.bq [] 16 35 [(46,.agg #[.int .i64 n1,.int .i64 n2]),(47,.int .i64 0)] [] fun YI=>?_;refine Fx.part 19 [11,11,10] [(59,.bool (decide (d2<n1))),(54,.bool false)] [(8,#[.int .i64 n1,.int .i64 n2])] ?_
 refine Fx.uO (.bool false) (by rw [decide_eq_false g1]) ?_;refine Fx.call [2,8,9,7,7] 66 [] [] (fun W M=>D3.out _ (ht.later M.below) (he.later M.below)) ?_;refine Fx.bq [] 18 35 [(67,.agg #[.int .i64 p1,.int .i64 p2]),(68,.int .i64 eh)] [] fun Ov=>?_;refine Fx.call [12,9,8,7,7] 74 [(15,.int .i64 eh)] [(9,#[.int .i64 p1,.int .i64 p2])] (fun W M=>D4.out _ (ht.later M.below) (he.later M.below)) ?_;refine Fx.bq [] 19 35 [(75,.agg #[.int .i64 p1,.int .i64 p2]),(76,.int .i64 eh)] [] fun Kk=>?_;refine Fx.eql 9 [13,12,13] 79 false true 35 (.agg #[.int .i64 p1,.int .i64 p2]) (.agg #[.int .i64 p1,.int .i64 p2]) [(17,.int .i64 eh)] [(10,#[.int .i64 p1,.int .i64 p2])] (fun W=>eb _ _ W) ?_;refine Fx.part 4 [] [(83,.bool (!(eh == eh))),(80,.bool false)] [] ?_;refine Fx.uO (.bool false) zi ?_
 refine Fx.part 12 [2] [(88,.int .i64 (IntKind.i64.wrap (1+(IntKind.i64.wrap (Int.tmod sm 4)))))] [] ?_;refine Fx.uO (.int .i64 kd) (hk1) ?_;refine Fx.call [5] 91 [(20,.int .i64 kd)] [] (fun W M=>S1.out _ (ht.later M.below) (he.later M.below)) ?_;refine Fx.call [] 92 [] [] (fun W M=>O2.out _ (ht.later M.below) (he.later M.below)) ?_;refine Fx.call [] 93 [] [] (fun W M=>A1.out _ (ht.later M.below) (he.later M.below)) ?_;refine Fx.bq [] 21 29 [(94,.agg #[.string u1,.string u2]),(95,.int .i64 0)] [] fun Kj=>?_;refine Fx.draw [14] [0,1,2,3,4,5,6,7,8,5009] [] [(22,.int .i64 0)] [(11,#[.string u1,.string u2])] ?_;refine Fx.call [14,6] 99 [(97,.agg #[.string u1,.string u2])] [] (fun W M=>S2.out _ (ht.later M.below) (he.later M.below)) ?_;refine Fx.call [] 100 [] [] (fun W M=>A2.out _ (ht.later M.below) (he.later M.below)) ?_
 refine Fx.cK [] 23 29 [(101,.agg #[.string v1,.string v2]),(102,.int .i64 0)] [] fun Gy=>?_;refine Fx.call [15,8,9,14,14] 109 [(24,.int .i64 0)] [(12,#[.string v1,.string v2])] (fun W M=>D5.out _ (ht.later M.below) (he.later M.below)) ?_;refine Fx.call [12,8,9,15,15] 118 [(15,.int .i64 0)] [(9,#[.int .i64 r1,.int .i64 r2])] (fun W M=>D6.out _ (ht.later M.below) (he.later M.below)) ?_;refine Fx.part 28 [13,13,12] [(139,.bool (decide (q1≤r2))),(17,.int .i64 0),(127,.bool true),(134,.bool false)] [(10,#[.int .i64 q1,.int .i64 q2])] ?_;refine Fx.uO (.bool true) (by rw [decide_eq_true g2]) ?_;exact Fx.jU [] [] (fun W M=>⟨rfl,M.below⟩)
end Go.Proofs.verdigrislaw27
namespace Go.Proofs.pY
open Go Go.RowKit Go.SW Go.Num Go.Mem Go.Proofs Go.Dec Go.gW
theorem share_q {n d:Int} (h0:0≤n) (h1:n≤d) (hd:0<d) (h2:d≤1000):∃ q:Rat,(tH n d).1=Fr.of q∧0≤q∧q≤1∧Hq 10 q:=by
 have ht:(1000:Nat)≤jN 10:=by decide
 have hq:Hq 10 ((n:Rat) / (d:Rat)):=⟨n,d,hd,by omega,by omega,rfl⟩;have hd':(0:Rat)<(d:Rat):=Rat.intCast_pos.2 hd;have hn':(0:Rat)≤(n:Rat):=Rat.intCast_nonneg.2 h0;have hnd:(n:Rat)≤(d:Rat):=Rat.intCast_le_intCast.2 h1;refine ⟨(n:Rat) / (d:Rat),?_,?_,?_,hq⟩
 ·unfold tH wr;rw [if_neg zo,if_pos (hq.ok zo)]
 ·rw [Rat.div_def];exact Rat.mul_nonneg hn' (Rat.le_of_lt (Rat.inv_pos.2 hd'))
 ·rw [Rat.div_def];have h:=Rat.mul_le_mul_of_nonneg_right hnd (Rat.le_of_lt (Rat.inv_pos.2 hd'))
  rwa [Rat.mul_inv_cancel _ (fun e=>by rw [e] at hd';exact absurd hd' zd)] at h
theorem Share_ok (a b:Int) (ha: -32768≤a∧a≤32767) (hb:0≤b∧b≤255):∃ q:Rat,0≤q∧q≤1∧Hq 10 q∧∀ w:World,
  Calls Tryz.prog 13 #[.agg #[.int .i16 a,.int .u8 b]] w (fun e w'=>e= .returned (Fr.of q).v∧Below w.heap.size w w'):=by
 have W0:∀ z:Int, -32768≤z∧z≤65535→IntKind.i64.wrap z=z:=fun z h=>by unfold IntKind.wrap;simp [IntKind.bits,IntKind.signed];split<;>omega
 have hz:1+b+1≠0:=by omega
 have e1:=Int.tmod_lt_of_pos a (show 0<1+b+1 by omega);have e2:=Int.lt_tmod_of_pos a (show 0<1+b+1 by omega);obtain ⟨t,Et⟩:∃ t,a.tmod (1+b+1)=t:=⟨_,rfl⟩;rw [Et] at e1 e2;have wa:=W0 a zo;have wb:=W0 b zo;have wb1:=W0 (1+b) zo;have wb2:=W0 (1+b+1) zo;have wt:=W0 t zo;have wn:=W0 (-t) zo;obtain ⟨q,eq,q0,q1,qh⟩:=share_q (n:=if t<0 then -t else t) (d:=1+b) (by split<;>omega) (by split<;>omega) zo zo;refine ⟨q,q0,q1,qh,fun w=>?_⟩;have H1:=zh (fun W=>qI (if t<0 then -t else t) (1+b) (by split<;>omega) (by split<;>omega) zo zo W);rw [eq] at H1;obtain ⟨⟨s1,s2⟩,E⟩:∃ y,Fr.of q=y:=⟨_,rfl⟩;rw [E] at H1 ⊢;unfold Fr.v at H1;clear E eq q0 q1 qh W0 ha hb e1 e2
 by_cases ht:t<0
 ·rw [if_pos ht] at H1;go_enter Tryz.func13,Tryz.ntmps13
  go_wp2_with fail
  obtain ⟨Te,EW,hz, -, X2⟩:=Sz w #[.int .i16 a,.int .u8 b] 41 #[.string ⟨#[]⟩,.string ⟨#[]⟩] 29;rw [EW];have hk2:=Bt (Below.refl _ _) hz;clear EW hz;refine (H1.out _).mono ?_;rintro e Co ⟨rfl,hb3⟩;replace X2:=X2.bl hb3;have hk5:=Bt hk2 hb3;clear hk2;clear hb3;obtain ⟨Ld,Lb,Wh⟩:=X2.clf;have hres:=X2.out;have Oe:=hres.cell;have NI:=hres.free;go_wp2_with fail
  refine iT rfl rfl bf Tryz.underlying29 rfl zk ?_;exact ⟨rfl,aN⟩
 ·rw [if_neg ht] at H1;go_enter Tryz.func13,Tryz.ntmps13
  go_wp2_with fail
  obtain ⟨Te,EW,hz, -, X2⟩:=Sz w #[.int .i16 a,.int .u8 b] 41 #[.string ⟨#[]⟩,.string ⟨#[]⟩] 29;rw [EW];have hk2:=Bt (Below.refl _ _) hz;clear EW hz;refine (H1.out _).mono ?_;rintro e Co ⟨rfl,hb3⟩;replace X2:=X2.bl hb3;have hk5:=Bt hk2 hb3;clear hk2;clear hb3;obtain ⟨Ld,Lb,Wh⟩:=X2.clf;have hres:=X2.out;have Oe:=hres.cell;have NI:=hres.free;go_wp2_with fail
  refine iT rfl rfl bf Tryz.underlying29 rfl zk ?_;exact ⟨rfl,aN⟩
end Go.Proofs.pY
namespace Go.Proofs.differ
open Go Go.RowKit Go.Num Go.Mem Go.Proofs Go.gW Go.Proofs.aQ Go.Proofs.matrix Go.Proofs.lab Go.Proofs.mO Go.Proofs.iq
theorem e1_in:Sb E1 (250000000000,2000000000000):=⟨by decide,by decide,by decide⟩
theorem _root_.Go.Proofs.aQ.Sb.wide {a:Int × Int} {x y X Y:Int} (h:Sb a (x,y)) (h1:X≤x) (h2:y≤Y):Sb a (X,Y):=⟨Int.le_trans h1 h.lo,h.le,Int.le_trans h.hi h2⟩
theorem div_in {kd l a b m c d:Int} (h2:2≤kd) (h4:kd≤4) (h:Lh l a b) (k:Lh m c d) {D:B5} (e:(if kd=2 then plE (chN a b) (chN c d) else if kd=3 then txE (chN a b) (chN c d) (lh l a b) else mdE (chN a b) (chN c d) (lh l a b) (lh m c d))=(D,0)):Sb D.2.1 (250000000000,2000000000000)∧Sb D.2.2.1 (638000000000,12000000000000):=by
 obtain ⟨hf,hf2⟩:=ch_in h.a h.b;have l0:=h.l0;have l1:=h.l1;obtain rfl|rfl|rfl:kd=2∨kd=3∨kd=4:=by omega
 ·rw [if_pos rfl] at e;obtain ⟨C,H,e2,hC, -⟩:=pl_in (g:=chN c d) hf;rw [e] at e2;cases e2
  exact ⟨e1_in,hC.wide zd zd⟩
 ·rw [if_neg zd,if_pos rfl] at e
  obtain ⟨l',hl,hx⟩:=tx_l (p:=qy l) (Bl zo) (by
   have:=Gm (m:= -l) (n:=0) zo;have e:qy (-l)= -qy l:=by unfold qy;rw [Rat.intCast_neg];grind
   rw [e] at this;have h3:((0:Int):Rat)=0:=rfl;rw [h3] at this
   grind) (Gm (n:=100) zo)
  obtain ⟨u,eu,u1,u2⟩:=hue_any h
  have e1:Zw l' (chN a b) (chN c d) (lh l a b)=(D,0):=by
   have:=hx (chN a b) (chN c d) (qy a) (qy b);unfold lh at e ⊢;rw [← this];exact e
  by_cases hs:(chN a b).2≤5000000000000
  ·obtain ⟨C,H,e2,hC, -⟩:=txs_in (f:=chN a b) (g:=chN c d) (l:=l') (A:=lh l a b) ⟨hf.lo,hf.le,hs⟩ eu u1 u2;rw [e1] at e2;cases e2
   exact ⟨hl.wide zd zd,hC.wide zd zd⟩
  ·obtain ⟨C,H,e2,hC, -⟩:=txg_in (f:=chN a b) (g:=chN c d) (l:=l') (A:=lh l a b) ⟨by show 4000000000000≤(chN a b).1;omega,hf.le,hf.hi⟩ eu u1 u2;rw [e1] at e2;cases e2
   exact ⟨hl.wide zd zd,hC.wide zd zd⟩
 ·rw [if_neg zd,if_neg zd] at e;obtain ⟨q,hq,R⟩:=md_sym h k;rw [e] at R;obtain ⟨-, -, t3,t4⟩:=R.ok rfl;simp only at t3 t4;rw [t3,t4];exact ⟨e1_in,hq.wide zd zd⟩
theorem dst_mono {kd l a b m c d:Int} (h1:1≤kd) (h4:kd≤4) (h:Lh l a b) (k:Lh m c d) {u v:Rat} {i j:Nat} (hu:Hq i u) (hi:i<600) (hv:Hq j v) (hj:j<600) (u1:1 / 10≤u) (uv:u≤v) (v3:v≤3) {r q:Int × Int}
  (eu:dstE kd (lh l a b) (lh m c d) (Fr.of u) (Fr.of u)=(r,0)) (ev:dstE kd (lh l a b) (lh m c d) (Fr.of v) (Fr.of v)=(q,0)):q.1≤r.2:=by
 by_cases hk:kd=1
 ·subst hk;have e1:=(old_hun h k (Fr.of u) (Fr.of u)).1;have e2:=(old_hun h k (Fr.of v) (Fr.of v)).1;rw [eu] at e1;rw [ev] at e2;cases e1
  cases e2
  exact Int.ofNat_le.2 (nlo_le_nhi _)
 ·unfold dstE at eu ev;rw [jJ (pair_hun h k),if_neg hk] at eu ev;simp only at eu ev;obtain ⟨D,x1,eu⟩:=qF eu;rw [jJ x1] at ev;obtain ⟨hL,hC⟩:=div_in zo h4 h k x1;exact dsR_le (Int.le_refl _) hL hC hu hi hv hj u1 uv v3 eu ev
theorem dis_of {kd:Int} {a b:light.uF} {l c:Fr} (h:vk kd a b l c=0) {d:Int × Int} (e:oh kd a b l c=(d,0)):dstE kd a b l c=(d,0):=by
 obtain ⟨⟨x,k⟩,ex⟩:∃ r,dstE kd a b l c=r:=⟨_,rfl⟩
 by_cases hk:k=0
 ·subst hk;rw [J6 h ex] at e;rw [ex,e]
 ·rw [Oa h ex hk] at e;exact absurd (congrArg Prod.snd e) hk
end Go.Proofs.differ
namespace Go.Proofs.verdigrislaw27
open Go Go.RowKit Go.Num Go.Mem Go.Proofs Go.gW Go.Proofs.aQ Go.Proofs.mO Go.Proofs.iq Go.Proofs.iR Go.Proofs.differ
theorem less_ok (la aa ba lb' ab bb na da nb db s:Int) (hla:0≤la∧la≤65535) (haa: -32768≤aa∧aa≤32767) (hba: -32768≤ba∧ba≤32767) (hlb:0≤lb'∧lb'≤65535) (hab: -32768≤ab∧ab≤32767) (hbb: -32768≤bb∧bb≤32767) (hna: -32768≤na∧na≤32767) (hda:0≤da∧da≤255) (hnb: -32768≤nb∧nb≤32767) (hdb:0≤db∧db≤255) (hs:0≤s∧s≤255) (w:World) (ht:gJ.Pow w) (he:whole.Er w) :
  Calls Tryz.prog 4 #[.agg #[.int .u16 la,.int .i16 aa,.int .i16 ba],.agg #[.int .u16 lb',.int .i16 ab,.int .i16 bb],.agg #[.int .i16 na,.int .u8 da],.agg #[.int .i16 nb,.int .u8 db],.int .u8 s] w (fun e w'=>e= .returned (.bool true)∧Below w.heap.size w w'):=by
 have R1:=fun W=>KF la aa ba hla haa hba W;have R2:=fun W=>KF lb' ab bb hlb hab hbb W;obtain ⟨s1,s10,s11,hs1,S1⟩:=pY.Share_ok na da hna hda;obtain ⟨s2,s20,s21,hs2,S2⟩:=pY.Share_ok nb db hnb hdb;have X:=lh_of hla haa hba;have Y:=lh_of hlb hab hbb;generalize la.tmod 10001=x1 at *;generalize aa.tmod 12801=x2 at *;generalize ba.tmod 12801=x3 at *;generalize lb'.tmod 10001=y1 at *;generalize ab.tmod 12801=y2 at *;generalize bb.tmod 12801=y3 at *;have t1:=Int.tmod_nonneg (4:Int) hs.1;have t2:=Int.tmod_lt_of_pos s (show (0:Int)<4 by omega);have h9:Hq 1 ((1:Rat) / 9):=⟨1,9,by omega,by decide,by decide,by decide+kernel⟩;have hu:=hs1.add h9;have A1:=fun W ht=>af9 (add_f hs1 h9 zo) W ht;have u1:1 / 10≤s1+1 / 9:=by grind
 have u2:s1+1 / 9≤2:=by grind
 generalize s1+1 / 9=u at *;have hv:=hu.add hs2;have A2:=fun W ht=>af9 (add_f hu hs2 zo) W ht;have uv:u≤u+s2:=by grind
 have v3:u+s2≤3:=by grind
 generalize u+s2=v at *;have wu:Wt u:=⟨⟨_,hu,by omega⟩,by grind⟩;have wv:Wt v:=⟨⟨_,hv,by omega⟩,by grind⟩;have qX:=lq_of X;have qY:=lq_of Y;obtain ⟨eXY,bXY⟩:=old_hun X Y (Fr.of 1) (Fr.of 1);obtain ⟨⟨n1,n2⟩,en,hn⟩:=new_old X Y;have D1:=fun W ht he=>dO (J6 (QS (kd:=1) zo zo qX qY Ls Ls) eXY) W ht he;have D2:=fun W ht he=>dO (J6 (QS (kd:=2) zo zo qX qY Ls Ls) en) W ht he
 have sy:oh 4 (lh x1 x2 x3) (lh y1 y2 y3) (Fr.of 1) (Fr.of 1)=oh 4 (lh y1 y2 y3) (lh x1 x2 x3) (Fr.of 1) (Fr.of 1):=by
  unfold oh;have k1:=N9 (a:=lh x1 x2 x3) (b:=lh y1 y2 y3) (QS (kd:=4) zo zo qX qY Ls Ls);have k2:=N9 (a:=lh y1 y2 y3) (b:=lh x1 x2 x3) (QS (kd:=4) zo zo qY qX Ls Ls);rw [k1,k2,dst4_sym X Y]
 obtain ⟨⟨⟨p1,p2⟩,eh⟩,ep⟩:∃ r,oh 4 (lh x1 x2 x3) (lh y1 y2 y3) (Fr.of 1) (Fr.of 1)=r:=⟨_,rfl⟩;have ep2:=ep;rw [sy] at ep2;have D3:=fun W ht he=>dO ep W ht he;have D4:=fun W ht he=>dO ep2 W ht he;generalize hk0:1+Int.tmod s 4=kd at *;have ck1:=QS (kd:=kd) zo zo qX qY wu wu;have ck2:=QS (kd:=kd) zo zo qX qY wv wv;obtain ⟨⟨⟨r1,r2⟩,ek⟩,er⟩:∃ r,oh kd (lh x1 x2 x3) (lh y1 y2 y3) (Fr.of u) (Fr.of u)=r:=⟨_,rfl⟩;obtain ⟨⟨⟨q1,q2⟩,fk⟩,eq⟩:∃ r,oh kd (lh x1 x2 x3) (lh y1 y2 y3) (Fr.of v) (Fr.of v)=r:=⟨_,rfl⟩
 have O2:∀ W,gJ.Pow W→Calls Tryz.prog 9 #[.int .i64 1,.int .i64 9] W (fun e w'=>e= .returned (.agg #[.string (Fr.of ((1:Rat) / 9)).n,.string (Fr.of ((1:Rat) / 9)).d])∧Below W.heap.size W w'):=fun W ht =>
  nX (show Fr.of (iR.q2 1 9)=⟨(Fr.of ((1:Rat) / 9)).n,(Fr.of ((1:Rat) / 9)).d⟩ by rw [show iR.q2 1 9=(1:Rat) / 9 by decide+kernel]) (by decide+kernel) W ht
 have g1:¬ ((nhi [((x1 - y1)*10000000000).natAbs,((x2 - y2)*10000000000).natAbs,((x3 - y3)*10000000000).natAbs]:Nat):Int)<n1:=by
  have hn:n1≤_:=hn;omega
 by_cases h1:ek=0
 ·subst h1
  by_cases h2:fk=0
  ·subst h2;have hle:=dst_mono (kd:=kd) zo zo X Y hu zo hv zo u1 uv v3 (dis_of ck1 er) (dis_of ck2 eq);exact less_c hk0 ⟨t1,by omega⟩ g1 hle (hd fun W ht _=>MH W ht) (hd fun W _ _=>R1 W) (hd fun W _ _=>R2 W) (hd D1) (hd D2) (hd D3) (hd D4) (hd fun W _ _=>S1 W) (hd fun W ht _=>O2 W ht) (hd fun W ht _=>A1 W ht) (hd fun W _ _=>S2 W) (hd fun W ht _=>A2 W ht) (hd fun W ht he=>dO er W ht he) (hd fun W ht he=>dO eq W ht he) w ht he
  ·exact less_b hk0 ⟨t1,by omega⟩ g1 h2 (hd fun W ht _=>MH W ht) (hd fun W _ _=>R1 W) (hd fun W _ _=>R2 W) (hd D1) (hd D2) (hd D3) (hd D4) (hd fun W _ _=>S1 W) (hd fun W ht _=>O2 W ht) (hd fun W ht _=>A1 W ht) (hd fun W _ _=>S2 W) (hd fun W ht _=>A2 W ht) (hd fun W ht he=>dO er W ht he) (hd fun W ht he=>dO eq W ht he) w ht he
 ·exact less_a hk0 ⟨t1,by omega⟩ g1 h1 (hd fun W ht _=>MH W ht) (hd fun W _ _=>R1 W) (hd fun W _ _=>R2 W) (hd D1) (hd D2) (hd D3) (hd D4) (hd fun W _ _=>S1 W) (hd fun W ht _=>O2 W ht) (hd fun W ht _=>A1 W ht) (hd fun W _ _=>S2 W) (hd fun W ht _=>A2 W ht) (hd fun W ht he=>dO er W ht he) (hd fun W ht he=>dO eq W ht he) w ht he
end Go.Proofs.verdigrislaw27
namespace Go.Proofs.YtlpjmogillpnbaaGreatDoor
open Go Go.ChangeShapes Go.WideShapes Go.RowKit Go.Proofs
theorem oq {P:Program} {w:World} {r:Reach} {b:Nat} {u:TypeId} {k:IntKind} {v:Value} (hu:P.underlying u=some (.int k)) (h:Cell.okWide P w r b u v):∃ n,v= .int k n∧k.has n:=by
 unfold Cell.okWide at h;simp only [hu] at h;unfold Cell.ok at h;simp only [hu] at h;cases v<;>simp at h
 obtain ⟨rfl,h⟩:=h;exact ⟨_,rfl,h⟩
theorem list2 {α:Type} {l:List α} (h:l.length=2):∃ x0 x1,l=[x0,x1]:=by
 match l,h with
 | [x0,x1],_=>exact ⟨x0,x1,rfl⟩
theorem RZ {α:Type} {l:List α} (h:l.length=3):∃ x0 x1 x2,l=[x0,x1,x2]:=by
 match l,h with
 | [x0,x1,x2],_=>exact ⟨x0,x1,x2,rfl⟩
theorem Ao {P:Program} {w:World} {r:Reach} {b:Nat} {T:TypeId} {d:TypeDesc} {ts:List TypeId} {v:Value} (hu:P.underlying T=some d) (hd:(match d with| .struct _| .array _ _=>true| _=>false)=true)
  {n:Nat} (hc:P.cellTypes P.depth T=some ts) (hn:P.cellsOf T=n) (hl:ts.length=n) (h:Value.okWide P w r b T v):∃ l:List Value,v= .agg ⟨l⟩∧l.length=n∧∀ (i:Nat) x u,l[i]? =some x→ts[i]? =some u→Cell.okWide P w r b u x:=by
 have h':∃ cs,v= .agg cs∧cs.size=P.cellsOf T∧Row.okWide P w r b T cs:=by
  unfold Value.okWide at h;rw [hu] at h;cases d<;>simp at hd<;>exact h
 obtain ⟨⟨l⟩,rfl,hs,ts',ht, -, hx⟩:=h';rw [hc] at ht;cases ht
 refine ⟨l,rfl,by rw [← hn];exact hs,fun i x u hi hui=>?_⟩;obtain ⟨u',h1,h2⟩:=hx i x (by simpa using hi);have hlt:i<ts.length:=(List.getElem?_eq_some_iff.1 hui).1;rw [Nat.mod_eq_of_lt hlt,hui] at h1;cases h1
 exact h2
theorem has_u8 {n:Int} (h:IntKind.u8.has n):0≤n∧n≤255:=by
 simpa [IntKind.has,IntKind.min,IntKind.max,IntKind.signed,IntKind.bits] using h
theorem IY {n:Int} (h:IntKind.u16.has n):0≤n∧n≤65535:=by
 simpa [IntKind.has,IntKind.min,IntKind.max,IntKind.signed,IntKind.bits] using h
theorem wL {n:Int} (h:IntKind.i16.has n):(-32768)≤n∧n≤32767:=by
 simpa [IntKind.has,IntKind.min,IntKind.max,IntKind.signed,IntKind.bits] using h
theorem Dl:laidOutB Tryz.prog=true:=by kernel_rfl
end Go.Proofs.YtlpjmogillpnbaaGreatDoor
