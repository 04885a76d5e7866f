/- Lemmas for the proof. No condition. -/
import Derived.Test.YtddblpggomphpaaGreatDoorZB02
import Derived.Test.YtddblpggomphpaaGreatDoorZB04
import Derived.Test.YtddblpggomphpaaGreatDoorZB05
import Derived.Test.YtddblpggomphpaaGreatDoorZB08
import Derived.Test.YtddblpggomphpaaGreatDoorProg
import Derived.RangeFuncBox
import Derived.RangeFuncLeaves
import Derived.RangeFuncFrom
import Derived.Shelf.Abstract
import Derived.WalkKit
import Derived.OwnWalkIn
import Derived.TacticsInMore
import Derived.LoopNIn
import Derived.LoopIn
import Derived.RangeFuncNested
import Derived.RangeFuncBound
import Derived.RangeFuncCalls
import Derived.WalkMore
import Derived.Defers
import Derived.Recover
import Derived.Tactics2
set_option linter.unusedVariables false
set_option linter.unusedSimpArgs false
namespace Go.Proofs.light
open Go Go.RowKit Go.SW Go.Num Go.Mem Go.Proofs Go.Dec Go.Fra
set_option maxRecDepth 10000 in
set_option maxHeartbeats 400000 in
theorem fractions_ok (v : Value) (l : List Fr) (T : TypeId) (w : World) (h : Frs w T v l) :
  Calls Tryz.prog 113 #[v] w (fun e w' => e = .returned (.int .i64 (chkL l)) ∧ Below w.heap.size w w') := by
 obtain ⟨a, cap, rfl, hc1, hc2, hread⟩ := h.read
 have H := Lib.hid hread
 clear h hread
 go_enter Tryz.func113, Tryz.ntmps113
 go_wp2_with fail
 go_loopw [8] (fun iv wr => ∃ k : Nat, iv = .int .i64 (k : Int) ∧ k ≤ l.length ∧ Hid (∀ j (h : j < l.length), j < k → (rd l[j]).isSome = true) ∧ Below w.heap.size w wr) (fun iv _ => l.length - (intOf iv).toNat)
 case atStart => exact ⟨0, rfl, by omega, Lib.hid (fun j _ h => by omega), Below.refl _ _⟩
 case round =>
  obtain ⟨k, rfl, hk, HK, hb⟩ := hrel
  rcases Nat.lt_or_ge k l.length with hlt | hge
  ·obtain ⟨b, off, rfl, hbl, hx1, hx2⟩ := H.out k hlt
   have hc1 := (hb.cell (p := ⟨b, off + k * 2, none⟩) hbl).trans hx1
   have hc2 := (hb.cell (p := ⟨b, off + k * 2 + 1, none⟩) hbl).trans hx2
   clear hx1 hx2
   have hck := frac.check_ok l[k]
   generalize hlk : l[k] = lk at *
   obtain ⟨s, t⟩ := lk
   cases hv : (rd ⟨s, t⟩).isSome with
   | true =>
    rw [chk_zero hv] at hck
    have HCK : Hid (∀ w, Calls Tryz.prog 81 #[.agg #[.string s, .string t]] w (fun e w' => e = .returned (.int .i64 0) ∧ Below w.heap.size w w')) := Lib.hid hck
    have HLK := Lib.hid hlk
    have HV := Lib.hid hv
    clear hck hlk hv
    go_wp2_with fail
    refine (HCK.out _).mono ?_
    rintro e v1 ⟨rfl, hc1⟩
    go_wp2_with fail
    go_roundw
    case rel =>
     refine ⟨k + 1, by go_num, by omega, Lib.hid fun j hj hjk => ?_, Bt hb belA⟩
     rcases Nat.lt_or_ge j k with h | h
     ·exact HK.out j hj h
     ·obtain rfl : j = k := by omega
      rw [HLK.out]
      exact HV.out
    case measure => simp [intOf]; omega
   | false =>
    rw [chk_no hv] at hck
    have HCK : Hid (∀ w, Calls Tryz.prog 81 #[.agg #[.string s, .string t]] w (fun e w' => e = .returned (.int .i64 20) ∧ Below w.heap.size w w')) := Lib.hid hck
    have hno : chkL l = 20 := by
     unfold chkL
     rw [if_neg]
     intro h
     have := List.all_eq_true.1 h l[k] (List.getElem_mem _)
     rw [hlk, hv] at this
     cases this
    have HNO := Lib.hid hno
    clear hck hlk hv hno
    go_wp2_with fail
    refine (HCK.out _).mono ?_
    rintro e v1 ⟨rfl, hc1⟩
    go_wp2_with fail
    go_ret
    exact ⟨by rw [HNO.out]; rfl, Bt hb belA⟩
  ·have hyes : chkL l = 0 := by
    unfold chkL
    rw [if_pos]
    rw [List.all_eq_true]
    intro x hx
    obtain ⟨j, hj, rfl⟩ := List.getElem_of_mem hx
    exact HK.out j hj (by omega)
   have HYES := Lib.hid hyes
   clear hyes
   obtain rfl : k = l.length := by omega
   go_wp2_with fail
   go_ret
   exact ⟨by rw [HYES.out]; rfl, hb⟩
end Go.Proofs.light
namespace Go.Proofs.light
open Go Go.RowKit Go.Shelf Go.SW Go.Num Go.Mem Go.Proofs Go.Dec Go.Fra
attribute [local go_sem] Oper.semAt_some
/-- A colour. -/
structure Tri where
 x : Fr
 y : Fr
 z : Fr
deriving DecidableEq
def Tri.cells (t : Tri) : Array Value := #[.string t.x.n, .string t.x.d, .string t.y.n, .string t.y.d, .string t.z.n, .string t.z.d]
def Tri.v (t : Tri) : Value := .agg t.cells
def Tri.get (t : Tri) (i : Nat) : Fr := if i = 0 then t.x else if i = 1 then t.y else t.z
def Tri.list (t : Tri) : List Fr := [t.x, t.y, t.z]
def enc (t : Tri) (k : Fin 3) : Array Value := #[.int .i64 (k.1 : Int), (t.get k.1).v]
def upto (k : Nat) (h : k ≤ 3) : List (Fin 3) := List.ofFn (n := k) fun i => ⟨i.1, Nat.lt_of_lt_of_le i.2 h⟩
theorem upto_succ {k : Nat} (h : k + 1 ≤ 3) : upto (k + 1) h = upto k (by omega) ++ [⟨k, h⟩] := by
 unfold upto
 rw [List.ofFn_succ_last]
 rfl
theorem upto_length {k : Nat} (h : k ≤ 3) : (upto k h).length = k := by simp [upto]
theorem index0 (a b c d e f : ByteArray) (w : World) : (Instr.index 38 (.agg #[.string a, .string b, .string c, .string d, .string e, .string f]) (.int .i64 0)).run Tryz.prog w = .ok (.agg #[.string a, .string b]) w := by kernel_rfl
theorem index1 (a b c d e f : ByteArray) (w : World) : (Instr.index 38 (.agg #[.string a, .string b, .string c, .string d, .string e, .string f]) (.int .i64 1)).run Tryz.prog w = .ok (.agg #[.string c, .string d]) w := by kernel_rfl
theorem index2 (a b c d e f : ByteArray) (w : World) : (Instr.index 38 (.agg #[.string a, .string b, .string c, .string d, .string e, .string f]) (.int .i64 2)).run Tryz.prog w = .ok (.agg #[.string e, .string f]) w := by kernel_rfl
set_option maxRecDepth 100000 in
set_option maxHeartbeats 2000000 in
theorem numbers1_in (F : Fence) (n : Nat) (hf : F.fn 165) (hro : F.round = none) (hn : 1 ≤ n) (l Bs n₀ : Nat) (a b c d e f : ByteArray) (J Jx : List (Fin 3) → World → Prop) (B₀ : Nat) (hJ0 : AbidesFrom B₀ J)
  (hY : ∀ pre x W, J pre W → pre.length < 3 → YieldAt F (n - 1) Tryz.prog l (enc ⟨⟨a, b⟩, ⟨c, d⟩, ⟨e, f⟩⟩ x) W fun en W' =>
   (en = .returned (.bool true) ∧ J (pre ++ [x]) W' ∧ Below n₀ W W') ∨ (en = .returned (.bool false) ∧ Jx (pre ++ [x]) W'))
  (W : World) (hn₀ : n₀ ≤ W.heap.size) (hBs : ∀ o, W.cell? ⟨Bs, o, none⟩ = #[Value.string a, .string b, .string c, .string d, .string e, .string f][o]?) (h0 : J [] W) :
  CallsIn F n Tryz.prog 165 #[.func (.yield l) #[] #[], .pointer (some ⟨Bs, 0, none⟩)] W fun en W' => (∃ v, en = .returned v) ∧
   ((∃ ys, ys = upto 3 (Nat.le_refl _) ∧ J ys W') ∨ (∃ pre, True ∧ Jx pre W')) := by
 have i0 := index0 a b c d e f
 have i1 := index1 a b c d e f
 have i2 := index2 a b c d e f
 refine callsIn_of_wp Tryz.func165 rfl hf ?_ hro
 simp only [Tryz.ntmps165, List.size_toArray, List.length_cons, List.length_nil, Nat.reduceAdd, Nat.reduceSub, Array.replicate_succ, Array.replicate_zero, List.push_toArray, List.append_toArray, List.nil_append, List.cons_append]
 gi_wp2
 gi_loopw [6] (fun i wr => ∃ (k : Nat) (hk : k ≤ 3), i = .int .i64 k ∧ J (upto k hk) wr ∧ Below n₀ W wr)
  (fun i _ => 3 - (intOf i).toNat)
 case atStart => exact ⟨0, Nat.zero_le _, rfl, h0, Below.refl _ _⟩
 case round =>
  obtain ⟨k, hk, rfl, hJs, hnx⟩ := hrel
  by_cases hlt : k < 3
  ·have hkk : k = 0 ∨ k = 1 ∨ k = 2 := by omega
   rcases hkk with rfl | rfl | rfl
   ·have hJ1 : J (upto 0 hk) (wr.alloc (.cells #[.string a, .string b] 36)) := hJ0 _ _ _ none hJs (World.grownBy_alloc _ _ none) (fun r e => by cases e)
    have hB1 : Below n₀ W (wr.alloc (.cells #[.string a, .string b] 36)) := hnx.alloc (Nat.le_trans hn₀ hnx.size) _
    obtain ⟨fn, tmps, assign, body, hy, hR⟩ := hY _ ⟨0, hlt⟩ _ hJ1 (by rw [upto_length]; exact hlt)
    have hy2 : (Instr.yield l #[Value.int IntKind.i64 0, Value.agg #[Value.string a, Value.string b]]).run Tryz.prog (wr.alloc (.cells #[.string a, .string b] 36)) = _ := hy
    clear hy hY
    gi_wp2
    refine hR.mono ?_
    rintro e W3 (⟨rfl, hJ3, hk3⟩ | ⟨rfl, hJx3⟩)
    ·gi_wp2
     go_roundw
     case rel => exact ⟨0 + 1, hlt, by simp, by rw [upto_succ]; exact hJ3, hB1.trans hk3⟩
     case measure => simp [intOf]
    ·gi_wp2
     refine bodyPost_ret (results_none rfl _ _ _) rfl ?_
     exact ⟨⟨_, rfl⟩, .inr ⟨_, trivial, hJx3⟩⟩
   ·have hJ1 : J (upto 1 hk) (wr.alloc (.cells #[.string c, .string d] 36)) := hJ0 _ _ _ none hJs (World.grownBy_alloc _ _ none) (fun r e => by cases e)
    have hB1 : Below n₀ W (wr.alloc (.cells #[.string c, .string d] 36)) := hnx.alloc (Nat.le_trans hn₀ hnx.size) _
    obtain ⟨fn, tmps, assign, body, hy, hR⟩ := hY _ ⟨1, hlt⟩ _ hJ1 (by rw [upto_length]; exact hlt)
    have hy2 : (Instr.yield l #[Value.int IntKind.i64 1, Value.agg #[Value.string c, Value.string d]]).run Tryz.prog (wr.alloc (.cells #[.string c, .string d] 36)) = _ := hy
    clear hy hY
    gi_wp2
    refine hR.mono ?_
    rintro e W3 (⟨rfl, hJ3, hk3⟩ | ⟨rfl, hJx3⟩)
    ·gi_wp2
     go_roundw
     case rel => exact ⟨1 + 1, hlt, by simp, by rw [upto_succ]; exact hJ3, hB1.trans hk3⟩
     case measure => simp [intOf]
    ·gi_wp2
     refine bodyPost_ret (results_none rfl _ _ _) rfl ?_
     exact ⟨⟨_, rfl⟩, .inr ⟨_, trivial, hJx3⟩⟩
   ·have hJ1 : J (upto 2 hk) (wr.alloc (.cells #[.string e, .string f] 36)) := hJ0 _ _ _ none hJs (World.grownBy_alloc _ _ none) (fun r e => by cases e)
    have hB1 : Below n₀ W (wr.alloc (.cells #[.string e, .string f] 36)) := hnx.alloc (Nat.le_trans hn₀ hnx.size) _
    obtain ⟨fn, tmps, assign, body, hy, hR⟩ := hY _ ⟨2, hlt⟩ _ hJ1 (by rw [upto_length]; exact hlt)
    have hy2 : (Instr.yield l #[Value.int IntKind.i64 2, Value.agg #[Value.string e, Value.string f]]).run Tryz.prog (wr.alloc (.cells #[.string e, .string f] 36)) = _ := hy
    clear hy hY
    gi_wp2
    refine hR.mono ?_
    rintro e W3 (⟨rfl, hJ3, hk3⟩ | ⟨rfl, hJx3⟩)
    ·gi_wp2
     go_roundw
     case rel => exact ⟨2 + 1, hlt, by simp, by rw [upto_succ]; exact hJ3, hB1.trans hk3⟩
     case measure => simp [intOf]
    ·gi_wp2
     refine bodyPost_ret (results_none rfl _ _ _) rfl ?_
     exact ⟨⟨_, rfl⟩, .inr ⟨_, trivial, hJx3⟩⟩
  ·obtain rfl : k = 3 := by omega
   clear hY
   gi_wp2
   go_end0
   exact ⟨⟨_, rfl⟩, .inl ⟨_, rfl, hJs⟩⟩
set_option maxHeartbeats 1000000 in
theorem numbers_in (F : Fence) (n : Nat) (hf : F.fn 114) (hro : F.round = none) (t : Tri) (w : World) :
  CallsIn F n Tryz.prog 114 #[t.v] w fun e w' => e = .returned (.func (.func 165) #[] #[.pointer (some ⟨w.heap.size, 0, none⟩)]) ∧ w' = w.alloc (.cells t.cells 38) := by
 obtain ⟨⟨a, b⟩, ⟨c, d⟩, ⟨e, f⟩⟩ := t
 simp only [Tri.v, Tri.cells]
 refine callsIn_of_wp Tryz.func114 rfl hf ?_ hro
 simp only [Tryz.ntmps114, List.size_toArray, List.length_cons, List.length_nil, Nat.reduceAdd, Nat.reduceSub, Array.replicate_succ, Array.replicate_zero, List.push_toArray, List.append_toArray, List.nil_append, List.cons_append]
 gi_wp2
 go_ret
 exact ⟨rfl, rfl⟩
/-- **numbers(t) hands back a value that yields the three numbers with their indices, in order.** -/
theorem numbers_stops (F : Fence) (n : Nat) (hf : F.fn 165) (hro : F.round = none) (hn : 1 ≤ n) (Bs n₀ : Nat) (t : Tri) (w : World) (hn₀ : n₀ ≤ w.heap.size) (hx : Box w Bs t.cells 38) :
  SeqStopsK F n Tryz.prog 165 #[.pointer (some ⟨Bs, 0, none⟩)] (enc t) (Below n₀) (fun ys => ys = upto 3 (Nat.le_refl _)) (fun _ => True) 3 w := fun l J Jx W hW hJ _ hY hJ0 => by
 obtain ⟨⟨a, b⟩, ⟨c, d⟩, ⟨e, f⟩⟩ := t
 exact numbers1_in F n hf hro hn l Bs n₀ a b c d e f J Jx _ hJ hY W (Nat.le_trans hn₀ hW.size) (fun o => (hx.later hW).cell o) hJ0
end Go.Proofs.light
namespace Go.Proofs.light
open Go Go.RowKit Go.Shelf Go.SW Go.Num Go.Mem Go.Proofs Go.Dec Go.Fra
attribute [local go_sem] Oper.semAt_some
theorem keeps_of_below {W W' : World} (h : Below W.heap.size W W') : KeepsOthers W W' :=
 ⟨h.size, fun k o hk _ => (h.block k (Array.getElem?_eq_some_iff.1 hk).1).trans hk⟩
theorem box_kept {W W' : World} {row : Option Nat} {b : Nat} {cs : Array Value} {T : TypeId} (h : Box W b cs T) (hg : W.grownBy W' row) (hr : ∀ r, row = some r → ∃ o : Obj, W.heap[r]? = some o ∧ o.isCells = false) : Box W' b cs T := by
 unfold Box at *
 rw [hg.block b (Array.getElem?_eq_some_iff.1 h).1 ?_]
 ·exact h
 ·intro e
  obtain ⟨o, ho, hc⟩ := hr b e.symm
  rw [h] at ho
  cases ho
  cases hc
/-- The error of a colour. -/
def chkT (t : Tri) : Int := if chkL t.list = 0 then (if t.list.all (fun f => decide (0 ≤ (sgnF f).1)) then 0 else 2) else 20
theorem Tri.frs {w : World} {b : Nat} {t : Tri} {T : TypeId} (h : Box w b t.cells T) : Frs w T (.slice (some ⟨b, 0, none⟩) 3 3) t.list := by
 refine ⟨some ⟨b, 0, none⟩, 3, rfl, Nat.le_refl _, by omega, (fun h => by cases h), fun ad h' => ?_⟩
 cases h'
 refine ⟨rfl, t.cells, h, fun i hi => ?_⟩
 have : i < 3 := hi
 have hc : i = 0 ∨ i = 1 ∨ i = 2 := by omega
 rcases hc with rfl | rfl | rfl <;> exact ⟨rfl, rfl⟩
set_option maxRecDepth 100000 in
set_option maxHeartbeats 2000000 in
theorem Check_ok (t : Tri) (w : World) : Calls Tryz.prog 51 #[t.v] w fun e w' => e = .returned (.int .i64 (chkT t)) ∧ Below w.heap.size w w' := by
 have HFR : Hid (∀ W b, Box W b t.cells 38 → Calls Tryz.prog 113 #[.slice (some ⟨b, 0, none⟩) 3 3] W (fun e w' => e = .returned (.int .i64 (chkL t.list)) ∧ Below W.heap.size W w')) := Lib.hid fun W b h => fractions_ok (.slice (some ⟨b, 0, none⟩) 3 3) t.list 38 W (Tri.frs h)
 have HNU : Hid (∀ w, CallsIn Fence.wide 2 Tryz.prog 114 #[t.v] w fun e w' => e = .returned (.func (.func 165) #[] #[.pointer (some ⟨w.heap.size, 0, none⟩)]) ∧ w' = w.alloc (.cells t.cells 38)) := Lib.hid (numbers_in Fence.wide 2 trivial rfl t)
 have HSG : Hid (∀ x : Fin 3, ∀ w, Calls Tryz.prog 83 #[(t.get x.1).v] w (fun e w' => e = .returned (frac.pair (sgnF (t.get x.1))) ∧ Below w.heap.size w w')) := Lib.hid fun x => frac.Sign_ok _
 unfold chkT
 generalize hckl : chkL t.list = ck at *
 have hck : ck = 0 ∨ ck = 20 := by rw [← hckl]; unfold chkL; split <;> simp
 obtain ⟨z, Ez⟩ : ∃ y : Int, Hid ((if t.list.all (fun f => decide (0 ≤ (sgnF f).1)) then 0 else 2) = y) := ⟨_, Lib.hid rfl⟩
 rw [Ez.out]
 refine (callsIn_wide (n := 3)).1 ?_
 refine callsIn_of_wp_marks Tryz.func51 rfl trivial ?_ rfl
 simp only [Tryz.ntmps51, List.size_toArray, List.length_cons, List.length_nil, Nat.reduceAdd, Nat.reduceSub, Array.replicate_succ, Array.replicate_zero, List.push_toArray, List.append_toArray, List.nil_append, List.cons_append]
 obtain ⟨⟨a, b⟩, ⟨c, d⟩, ⟨e, f⟩⟩ := t
 simp only [Tri.v, Tri.cells] at *
 obtain ⟨wa, Ewa⟩ : ∃ y : World, Hid ((w.alloc (.cells #[.string a, .string b, .string c, .string d, .string e, .string f] 38)).alloc (.cells #[.int .i64 0] 45) = y) := ⟨_, Lib.hid rfl⟩
 have hba : Box wa w.heap.size #[.string a, .string b, .string c, .string d, .string e, .string f] 38 := by rw [← Ewa.out]; exact boxA
 have hbr : Box wa (w.heap.size + 1) #[.int .i64 0] 45 := by rw [← Ewa.out]; exact boxA
 have hB1 : Below w.heap.size w wa := by rw [← Ewa.out]; exact belA
 have HBA := Lib.hid hba
 have HBR := Lib.hid hbr
 have HB1 := Lib.hid hB1
 clear hba hbr hB1
 rcases hck with rfl | rfl
 ·rw [if_pos rfl]
  clear hckl
  gi_wp2_with (refine ⟨trivial, ?_⟩; gi_at_call 113; rw [Ewa.out]; refine (callsIn_wide.2 (HFR.out _ _ HBA.out)).mono ?_; rintro e w1 ⟨rfl, hc1⟩; have hb0 := HBA.out.later hc1; have c0 := hb0.cell; have hb1 := HBR.out.later hc1; have c1 := hb1.cell; have f1 := hb1.free)
  gi_wp2_with (refine ⟨trivial, ?_⟩; gi_at_call 114; refine (HNU.out _).mono ?_; rintro e w' ⟨rfl, rfl⟩)
  have hB2 : Below w.heap.size w w1 := HB1.out.trans (hc1.mono HB1.out.size)
  obtain ⟨w2, Ew2⟩ : ∃ y : World, Hid (w1.alloc (.cells #[.string a, .string b, .string c, .string d, .string e, .string f] 38) = y) := ⟨_, Lib.hid rfl⟩
  rw [Ew2.out]
  have hbx : Box w2 w1.heap.size #[.string a, .string b, .string c, .string d, .string e, .string f] 38 := by rw [← Ew2.out]; exact boxA
  have hb1' : Box w2 (w.heap.size + 1) #[.int .i64 0] 45 := by rw [← Ew2.out]; exact boxA
  have hB0 : Below w.heap.size w w2 := by rw [← Ew2.out]; exact hB2.alloc hB2.size _
  refine wpIn_rangeFunc_ownH (α := Fin 3) rfl (by omega) (gf := 165) (lb := #[.pointer (some ⟨w1.heap.size, 0, none⟩)]) rfl trivial (enters_of Tryz.func165 (by kernel_rfl) rfl)
   (numbers_stops Fence.wide 2 trivial rfl (by omega) w1.heap.size w.heap.size ⟨⟨a, b⟩, ⟨c, d⟩, ⟨e, f⟩⟩ w2 hB0.size hbx) belowK_t (belowK_b hB0.size) (Below.refl _ _) (fun _ => rfl)
   (fun pre W => (Hid (∀ x ∈ pre, decide (0 ≤ (sgnF (Tri.get ⟨⟨a, b⟩, ⟨c, d⟩, ⟨e, f⟩⟩ x.1)).1) = true) ∧ Box W (w.heap.size + 1) #[.int .i64 0] 45) ∧ Below w.heap.size w W)
   (fun c' pre W => (c' = .ret ∧ Hid (∃ x : Fin 3, decide (0 ≤ (sgnF (Tri.get ⟨⟨a, b⟩, ⟨c, d⟩, ⟨e, f⟩⟩ x.1)).1) = false) ∧ Box W (w.heap.size + 1) #[.int .i64 2] 45) ∧ Below w.heap.size w W)
   (OwnFrom.and (Own.from (fun s A B row hs hg hr => ⟨hs.1, box_kept hs.2 hg hr⟩) _) (ownFrom_below (Nat.le_refl _) hB0.size))
   (fun c => OwnFrom.and (Own.from (fun s A B row hs hg hr => ⟨hs.1, hs.2.1, box_kept hs.2.2 hg hr⟩) _) (ownFrom_below (Nat.le_refl _) hB0.size))
   ⟨⟨Lib.hid (by simp), hb1'⟩, hB0⟩ (fun x a' W => ∃ u15 u16 B, a' = { tmps := #[Value.agg #[Value.string a, Value.string b, Value.string c, Value.string d, Value.string e, Value.string f],
        Value.pointer (some { block := w.heap.size, off := 0 }),
        Value.pointer (some { block := w.heap.size + 1, off := 0 }), Value.int IntKind.i64 0, undef, .pointer (some ⟨B, 0, none⟩),
        undef, undef, Value.slice (some { block := w.heap.size, off := 0 }) 3 3, Value.int IntKind.i64 0,
        Value.int IntKind.i64 0, Value.bool false, undef,
        Value.agg
         #[Value.string a, Value.string b, Value.string c, Value.string d, Value.string e, Value.string f],
        .func (.func 165) #[] #[.pointer (some ⟨w1.heap.size, 0, none⟩)], u15, u16, undef, undef, undef, undef, undef, undef, undef], defers := [] } ∧ Box W B #[.string (Tri.get ⟨⟨a, b⟩, ⟨c, d⟩, ⟨e, f⟩⟩ x.1).n, .string (Tri.get ⟨⟨a, b⟩, ⟨c, d⟩, ⟨e, f⟩⟩ x.1).d] 36) ?hAx ?assign ?body ?done ?stop
  case hAx =>
   intro x a'
   exact Own.from (fun s A B row hs hg hr => by
    obtain ⟨u1, u2, B', h1, h2⟩ := hs
    exact ⟨u1, u2, B', h1, box_kept h2 hg hr⟩) _
  case assign =>
   intro l pre x W K hI hK
   unfold enc Fr.v
   gi_wp2
   exact hK _ _ ((keeps_of_below belA).from _) ((Below.refl _ W).alloc hI.2.size _) ⟨⟨hI.1.1, hI.1.2.later belA⟩, hI.2.alloc hI.2.size _⟩ ⟨_, _, _, rfl, boxA⟩
  case body =>
   rintro l pre x a' W hl hr ⟨⟨hp, hb2⟩, hB⟩ ⟨u1, u2, B', rfl, hbB⟩ _
   have hsx := HSG.out x
   obtain ⟨y, Ey⟩ : ∃ y : Fr, Hid (Tri.get ⟨⟨a, b⟩, ⟨c, d⟩, ⟨e, f⟩⟩ x.1 = y) := ⟨_, Lib.hid rfl⟩
   rw [Ey.out] at hbB hsx
   obtain ⟨s, t⟩ := y
   obtain ⟨q, Eq⟩ : ∃ q : Int × Int, Hid (sgnF ⟨s, t⟩ = q) := ⟨_, Lib.hid rfl⟩
   rw [Eq.out] at hsx
   obtain ⟨q1, q2⟩ := q
   unfold frac.pair Fr.v at hsx
   dsimp only at hsx hbB
   have HSX := Lib.hid hsx
   clear hsx
   have c3 := hbB.cell
   by_cases hq : q1 < 0
   ·have HQ := Lib.hid hq
    have b1 : decide (q1 < 0) = true := decide_eq_true hq
    clear hq
    gi_wp2_with (refine ⟨trivial, ?_⟩; gi_at_call 83; refine (CallsIn.inRound l (callsIn_wide.2 (HSX.out _))).mono ?_; rintro e w1 ⟨rfl, hc1⟩; have hb3 := hb2.later hc1; have c2 := hb3.cell; have f2 := hb3.free)
    refine ⟨(((keeps_of_below hc1).trans (KeepsOthers.setCell _ _ _)).from _), ⟨⟨rfl, Lib.hid ⟨x, ?_⟩, hb3.set 0 _⟩, (hB.trans (hc1.mono hB.size)).setCell (by simp) _⟩⟩
    rw [Ey.out, Eq.out]
    simpa using HQ.out
   ·have HQ := Lib.hid hq
    have b1 : decide (q1 < 0) = false := decide_eq_false hq
    clear hq
    gi_wp2_with (refine ⟨trivial, ?_⟩; gi_at_call 83; refine (CallsIn.inRound l (callsIn_wide.2 (HSX.out _))).mono ?_; rintro e w1 ⟨rfl, hc1⟩; have hb3 := hb2.later hc1)
    refine ⟨(keeps_of_below hc1).from _, hc1.mono hB.size, ⟨⟨Lib.hid fun y hy => ?_, hb3⟩, hB.trans (hc1.mono hB.size)⟩⟩
    rcases List.mem_append.1 hy with h | h
    ·exact hp.out y h
    ·rw [List.mem_singleton] at h
     subst h
     rw [Ey.out, Eq.out]
     have := HQ.out
     simp
     omega
  case done =>
   rintro D ys W hD rfl ⟨⟨hp, hb1⟩, hB⟩ hK
   have c1 := hb1.cell
   have f1 := hb1.free
   have hz : z = 0 := by
    rw [← Ez.out, if_pos]
    rw [List.all_eq_true]
    intro r hr
    have h0 := hp.out ⟨0, by omega⟩ (by unfold upto; rw [List.mem_ofFn]; exact ⟨⟨0, by omega⟩, rfl⟩)
    have h1 := hp.out ⟨1, by omega⟩ (by unfold upto; rw [List.mem_ofFn]; exact ⟨⟨1, by omega⟩, rfl⟩)
    have h2 := hp.out ⟨2, by omega⟩ (by unfold upto; rw [List.mem_ofFn]; exact ⟨⟨2, by omega⟩, rfl⟩)
    simp only [Tri.list, List.mem_cons, List.not_mem_nil, or_false] at hr
    rcases hr with rfl | rfl | rfl
    ·exact h0
    ·exact h1
    ·exact h2
   have HZ := Lib.hid hz
   clear hz
   gi_wp2
   have hb2 := hb1.set 0 (.int .i64 0)
   have hK' := (KeepsOthers.setCell W ⟨w.heap.size + 1, 0, none⟩ (.int .i64 0)).same D _ hK rfl
   refine ⟨by simp, .inl ⟨_, _, rfl, run_takeDeferred hK', ?_⟩⟩
   have hb3 := box_kept hb2 (grownBy_putObj' _ D (.deferred none)) (fun r e => by cases e; exact ⟨_, hK', rfl⟩)
   have hc5 := hb3.cell 0
   refine ⟨.int .i64 0, ?_, by rw [HZ.out], (hB.setCell (p := ⟨w.heap.size + 1, 0, none⟩) (by simp) _).trans (belowK_b (w := w) (Nat.le_refl _) _ D _ _ (by have := hB0.size; omega) hK' rfl rfl)⟩
   simp [results, Tryz.f51, go_sem, hc5]
  case stop =>
   rintro D c' pre W hD hpre ⟨⟨rfl, hin, hb1⟩, hB⟩ hK
   have hz : z = 2 := by
    rw [← Ez.out, if_neg]
    intro h
    obtain ⟨x, hx⟩ := hin.out
    rw [List.all_eq_true] at h
    have hx3 : x.1 = 0 ∨ x.1 = 1 ∨ x.1 = 2 := by omega
    have := h (Tri.get ⟨⟨a, b⟩, ⟨c, d⟩, ⟨e, f⟩⟩ x.1) (by rcases hx3 with e | e | e <;> rw [e] <;> simp [Tri.list, Tri.get])
    rw [this] at hx
    cases hx
   have HZ := Lib.hid hz
   clear hz
   gi_wp2
   refine ⟨by simp, .inl ⟨_, _, rfl, run_takeDeferred hK, ?_⟩⟩
   have hb3 := box_kept hb1 (grownBy_putObj' _ D (.deferred none)) (fun r e => by cases e; exact ⟨_, hK, rfl⟩)
   have hc5 := hb3.cell 0
   refine ⟨.int .i64 2, ?_, by rw [HZ.out], hB.trans (belowK_b (w := w) (Nat.le_refl _) W D _ _ (by have := hB0.size; omega) hK rfl rfl)⟩
   simp [results, Tryz.f51, go_sem, hc5]
 ·rw [if_neg (by decide)]
  clear hckl
  gi_wp2_with (refine ⟨trivial, ?_⟩; gi_at_call 113; rw [Ewa.out]; refine (callsIn_wide.2 (HFR.out _ _ HBA.out)).mono ?_; rintro e w1 ⟨rfl, hc1⟩; have hb0 := HBA.out.later hc1; have c0 := hb0.cell; have hb1 := HBR.out.later hc1; have c1 := hb1.cell; have f1 := hb1.free)
  have c5 := (hb1.set 0 (.int .i64 20)).cell 0
  refine ⟨.int .i64 20, ?_, rfl, (HB1.out.trans (hc1.mono HB1.out.size)).setCell (by simp) _⟩
  simp [results, Tryz.f51, go_sem, c5]
end Go.Proofs.light
namespace Go.Proofs.light
open Go Go.RowKit Go.Shelf Go.SW Go.Num Go.Mem Go.Proofs Go.Dec Go.Fra
attribute [local go_sem] Oper.semAt_some
/-- The error of a white. -/
def sndT (t : Tri) : Int := if chkT t = 0 then (if t.list.all (fun f => decide ((sgnF f).1 ≠ 0)) then 0 else 2) else chkT t
set_option maxRecDepth 100000 in
set_option maxHeartbeats 2000000 in
theorem Sound_ok (t : Tri) (w : World) : Calls Tryz.prog 80 #[t.v] w fun e w' => e = .returned (.int .i64 (sndT t)) ∧ Below w.heap.size w w' := by
 have HFR : Hid (∀ W, Calls Tryz.prog 51 #[t.v] W (fun e w' => e = .returned (.int .i64 (chkT t)) ∧ Below W.heap.size W w')) := Lib.hid fun W => Check_ok t W
 have HNU : Hid (∀ w, CallsIn Fence.wide 2 Tryz.prog 114 #[t.v] w fun e w' => e = .returned (.func (.func 165) #[] #[.pointer (some ⟨w.heap.size, 0, none⟩)]) ∧ w' = w.alloc (.cells t.cells 38)) := Lib.hid (numbers_in Fence.wide 2 trivial rfl t)
 have HSG : Hid (∀ x : Fin 3, ∀ w, Calls Tryz.prog 83 #[(t.get x.1).v] w (fun e w' => e = .returned (frac.pair (sgnF (t.get x.1))) ∧ Below w.heap.size w w')) := Lib.hid fun x => frac.Sign_ok _
 unfold sndT
 generalize hckl : chkT t = ck at *
 have hck : ck = 0 ∨ ck ≠ 0 := by omega
 obtain ⟨z, Ez⟩ : ∃ y : Int, Hid ((if t.list.all (fun f => decide ((sgnF f).1 ≠ 0)) then 0 else 2) = y) := ⟨_, Lib.hid rfl⟩
 rw [Ez.out]
 refine (callsIn_wide (n := 3)).1 ?_
 refine callsIn_of_wp_marks Tryz.func80 rfl trivial ?_ rfl
 simp only [Tryz.ntmps80, List.size_toArray, List.length_cons, List.length_nil, Nat.reduceAdd, Nat.reduceSub, Array.replicate_succ, Array.replicate_zero, List.push_toArray, List.append_toArray, List.nil_append, List.cons_append]
 obtain ⟨⟨a, b⟩, ⟨c, d⟩, ⟨e, f⟩⟩ := t
 simp only [Tri.v, Tri.cells] at *
 obtain ⟨wa, Ewa⟩ : ∃ y : World, Hid ((w.alloc (.cells #[.string a, .string b, .string c, .string d, .string e, .string f] 38)).alloc (.cells #[.int .i64 0] 45) = y) := ⟨_, Lib.hid rfl⟩
 have hba : Box wa w.heap.size #[.string a, .string b, .string c, .string d, .string e, .string f] 38 := by rw [← Ewa.out]; exact boxA
 have hbr : Box wa (w.heap.size + 1) #[.int .i64 0] 45 := by rw [← Ewa.out]; exact boxA
 have hB1 : Below w.heap.size w wa := by rw [← Ewa.out]; exact belA
 have HBA := Lib.hid hba
 have c00 := hba.cell
 rw [← Ewa.out] at c00
 have HBR := Lib.hid hbr
 have HB1 := Lib.hid hB1
 clear hba hbr hB1
 rcases hck with rfl | hck
 ·rw [if_pos rfl]
  clear hckl
  gi_wp2_with (refine ⟨trivial, ?_⟩; gi_at_call 51; rw [Ewa.out]; refine (callsIn_wide.2 (HFR.out _)).mono ?_; rintro e w1 ⟨rfl, hc1⟩; have hb0 := HBA.out.later hc1; have c0 := hb0.cell; have hb1 := HBR.out.later hc1; have c1 := hb1.cell; have f1 := hb1.free)
  gi_wp2_with (refine ⟨trivial, ?_⟩; gi_at_call 114; refine (HNU.out _).mono ?_; rintro e w' ⟨rfl, rfl⟩)
  have hB2 : Below w.heap.size w w1 := HB1.out.trans (hc1.mono HB1.out.size)
  obtain ⟨w2, Ew2⟩ : ∃ y : World, Hid (w1.alloc (.cells #[.string a, .string b, .string c, .string d, .string e, .string f] 38) = y) := ⟨_, Lib.hid rfl⟩
  rw [Ew2.out]
  have hbx : Box w2 w1.heap.size #[.string a, .string b, .string c, .string d, .string e, .string f] 38 := by rw [← Ew2.out]; exact boxA
  have hb1' : Box w2 (w.heap.size + 1) #[.int .i64 0] 45 := by rw [← Ew2.out]; exact boxA
  have hB0 : Below w.heap.size w w2 := by rw [← Ew2.out]; exact hB2.alloc hB2.size _
  refine wpIn_rangeFunc_ownH (α := Fin 3) rfl (by omega) (gf := 165) (lb := #[.pointer (some ⟨w1.heap.size, 0, none⟩)]) rfl trivial (enters_of Tryz.func165 (by kernel_rfl) rfl)
   (numbers_stops Fence.wide 2 trivial rfl (by omega) w1.heap.size w.heap.size ⟨⟨a, b⟩, ⟨c, d⟩, ⟨e, f⟩⟩ w2 hB0.size hbx) belowK_t (belowK_b hB0.size) (Below.refl _ _) (fun _ => rfl)
   (fun pre W => (Hid (∀ x ∈ pre, decide ((sgnF (Tri.get ⟨⟨a, b⟩, ⟨c, d⟩, ⟨e, f⟩⟩ x.1)).1 ≠ 0) = true) ∧ Box W (w.heap.size + 1) #[.int .i64 0] 45) ∧ Below w.heap.size w W)
   (fun c' pre W => (c' = .ret ∧ Hid (∃ x : Fin 3, decide ((sgnF (Tri.get ⟨⟨a, b⟩, ⟨c, d⟩, ⟨e, f⟩⟩ x.1)).1 ≠ 0) = false) ∧ Box W (w.heap.size + 1) #[.int .i64 2] 45) ∧ Below w.heap.size w W)
   (OwnFrom.and (Own.from (fun s A B row hs hg hr => ⟨hs.1, box_kept hs.2 hg hr⟩) _) (ownFrom_below (Nat.le_refl _) hB0.size))
   (fun c => OwnFrom.and (Own.from (fun s A B row hs hg hr => ⟨hs.1, hs.2.1, box_kept hs.2.2 hg hr⟩) _) (ownFrom_below (Nat.le_refl _) hB0.size))
   ⟨⟨Lib.hid (by simp), hb1'⟩, hB0⟩ (fun x a' W => ∃ u15 u16 B, a' = { tmps := #[Value.agg #[Value.string a, Value.string b, Value.string c, Value.string d, Value.string e, Value.string f],
        Value.pointer (some { block := w.heap.size, off := 0 }),
        Value.pointer (some { block := w.heap.size + 1, off := 0 }), Value.int IntKind.i64 0, undef, .pointer (some ⟨B, 0, none⟩),
        undef, undef, Value.agg #[Value.string a, Value.string b, Value.string c, Value.string d, Value.string e, Value.string f], Value.int IntKind.i64 0,
        Value.int IntKind.i64 0, Value.bool false, undef,
        Value.agg
         #[Value.string a, Value.string b, Value.string c, Value.string d, Value.string e, Value.string f],
        .func (.func 165) #[] #[.pointer (some ⟨w1.heap.size, 0, none⟩)], u15, u16, undef, undef, undef, undef, undef, undef, undef], defers := [] } ∧ Box W B #[.string (Tri.get ⟨⟨a, b⟩, ⟨c, d⟩, ⟨e, f⟩⟩ x.1).n, .string (Tri.get ⟨⟨a, b⟩, ⟨c, d⟩, ⟨e, f⟩⟩ x.1).d] 36) ?hAx ?assign ?body ?done ?stop
  case hAx =>
   intro x a'
   exact Own.from (fun s A B row hs hg hr => by
    obtain ⟨u1, u2, B', h1, h2⟩ := hs
    exact ⟨u1, u2, B', h1, box_kept h2 hg hr⟩) _
  case assign =>
   intro l pre x W K hI hK
   unfold enc Fr.v
   gi_wp2
   exact hK _ _ ((keeps_of_below belA).from _) ((Below.refl _ W).alloc hI.2.size _) ⟨⟨hI.1.1, hI.1.2.later belA⟩, hI.2.alloc hI.2.size _⟩ ⟨_, _, _, rfl, boxA⟩
  case body =>
   rintro l pre x a' W hl hr ⟨⟨hp, hb2⟩, hB⟩ ⟨u1, u2, B', rfl, hbB⟩ _
   have hsx := HSG.out x
   obtain ⟨y, Ey⟩ : ∃ y : Fr, Hid (Tri.get ⟨⟨a, b⟩, ⟨c, d⟩, ⟨e, f⟩⟩ x.1 = y) := ⟨_, Lib.hid rfl⟩
   rw [Ey.out] at hbB hsx
   obtain ⟨s, t⟩ := y
   obtain ⟨q, Eq⟩ : ∃ q : Int × Int, Hid (sgnF ⟨s, t⟩ = q) := ⟨_, Lib.hid rfl⟩
   rw [Eq.out] at hsx
   obtain ⟨q1, q2⟩ := q
   unfold frac.pair Fr.v at hsx
   dsimp only at hsx hbB
   have HSX := Lib.hid hsx
   clear hsx
   have c3 := hbB.cell
   by_cases hq : q1 = 0
   ·have HQ := Lib.hid hq
    have b1 : (q1 == 0) = true := by simpa using hq
    clear hq
    gi_wp2_with (refine ⟨trivial, ?_⟩; gi_at_call 83; refine (CallsIn.inRound l (callsIn_wide.2 (HSX.out _))).mono ?_; rintro e w1 ⟨rfl, hc1⟩; have hb3 := hb2.later hc1; have c2 := hb3.cell; have f2 := hb3.free)
    refine ⟨(((keeps_of_below hc1).trans (KeepsOthers.setCell _ _ _)).from _), ⟨⟨rfl, Lib.hid ⟨x, ?_⟩, hb3.set 0 _⟩, (hB.trans (hc1.mono hB.size)).setCell (by simp) _⟩⟩
    rw [Ey.out, Eq.out]
    simpa using HQ.out
   ·have HQ := Lib.hid hq
    have b1 : (q1 == 0) = false := by simpa using hq
    clear hq
    gi_wp2_with (refine ⟨trivial, ?_⟩; gi_at_call 83; refine (CallsIn.inRound l (callsIn_wide.2 (HSX.out _))).mono ?_; rintro e w1 ⟨rfl, hc1⟩; have hb3 := hb2.later hc1)
    refine ⟨(keeps_of_below hc1).from _, hc1.mono hB.size, ⟨⟨Lib.hid fun y hy => ?_, hb3⟩, hB.trans (hc1.mono hB.size)⟩⟩
    rcases List.mem_append.1 hy with h | h
    ·exact hp.out y h
    ·rw [List.mem_singleton] at h
     subst h
     rw [Ey.out, Eq.out]
     simpa using HQ.out
  case done =>
   rintro D ys W hD rfl ⟨⟨hp, hb1⟩, hB⟩ hK
   have c1 := hb1.cell
   have f1 := hb1.free
   have hz : z = 0 := by
    rw [← Ez.out, if_pos]
    rw [List.all_eq_true]
    intro r hr
    have h0 := hp.out ⟨0, by omega⟩ (by unfold upto; rw [List.mem_ofFn]; exact ⟨⟨0, by omega⟩, rfl⟩)
    have h1 := hp.out ⟨1, by omega⟩ (by unfold upto; rw [List.mem_ofFn]; exact ⟨⟨1, by omega⟩, rfl⟩)
    have h2 := hp.out ⟨2, by omega⟩ (by unfold upto; rw [List.mem_ofFn]; exact ⟨⟨2, by omega⟩, rfl⟩)
    simp only [Tri.list, List.mem_cons, List.not_mem_nil, or_false] at hr
    rcases hr with rfl | rfl | rfl
    ·exact h0
    ·exact h1
    ·exact h2
   have HZ := Lib.hid hz
   clear hz
   gi_wp2
   have hb2 := hb1.set 0 (.int .i64 0)
   have hK' := (KeepsOthers.setCell W ⟨w.heap.size + 1, 0, none⟩ (.int .i64 0)).same D _ hK rfl
   refine ⟨by simp, .inl ⟨_, _, rfl, run_takeDeferred hK', ?_⟩⟩
   have hb3 := box_kept hb2 (grownBy_putObj' _ D (.deferred none)) (fun r e => by cases e; exact ⟨_, hK', rfl⟩)
   have hc5 := hb3.cell 0
   refine ⟨.int .i64 0, ?_, by rw [HZ.out], (hB.setCell (p := ⟨w.heap.size + 1, 0, none⟩) (by simp) _).trans (belowK_b (w := w) (Nat.le_refl _) _ D _ _ (by have := hB0.size; omega) hK' rfl rfl)⟩
   simp [results, Tryz.f80, go_sem, hc5]
  case stop =>
   rintro D c' pre W hD hpre ⟨⟨rfl, hin, hb1⟩, hB⟩ hK
   have hz : z = 2 := by
    rw [← Ez.out, if_neg]
    intro h
    obtain ⟨x, hx⟩ := hin.out
    rw [List.all_eq_true] at h
    have hx3 : x.1 = 0 ∨ x.1 = 1 ∨ x.1 = 2 := by omega
    have := h (Tri.get ⟨⟨a, b⟩, ⟨c, d⟩, ⟨e, f⟩⟩ x.1) (by rcases hx3 with e | e | e <;> rw [e] <;> simp [Tri.list, Tri.get])
    rw [this] at hx
    cases hx
   have HZ := Lib.hid hz
   clear hz
   gi_wp2
   refine ⟨by simp, .inl ⟨_, _, rfl, run_takeDeferred hK, ?_⟩⟩
   have hb3 := box_kept hb1 (grownBy_putObj' _ D (.deferred none)) (fun r e => by cases e; exact ⟨_, hK, rfl⟩)
   have hc5 := hb3.cell 0
   refine ⟨.int .i64 2, ?_, by rw [HZ.out], hB.trans (belowK_b (w := w) (Nat.le_refl _) W D _ _ (by have := hB0.size; omega) hK rfl rfl)⟩
   simp [results, Tryz.f80, go_sem, hc5]
 ·rw [if_neg hck]
  have b5 : (ck != 0) = true := by simpa using hck
  clear hckl
  gi_wp2_with (refine ⟨trivial, ?_⟩; gi_at_call 51; rw [Ewa.out]; refine (callsIn_wide.2 (HFR.out _)).mono ?_; rintro e w1 ⟨rfl, hc1⟩; have hb0 := HBA.out.later hc1; have c0 := hb0.cell; have hb1 := HBR.out.later hc1; have c1 := hb1.cell; have f1 := hb1.free)
  have c5 := (hb1.set 0 (.int .i64 ck)).cell 0
  refine ⟨.int .i64 ck, ?_, rfl, (HB1.out.trans (hc1.mono HB1.out.size)).setCell (by simp) _⟩
  simp [results, Tryz.f80, go_sem, c5]
end Go.Proofs.light
namespace Go.Proofs.adapt
open Go Go.RowKit Go.SW Go.Num Go.Mem Go.Proofs Go.Dec Go.Fra
/-- A thrown error. -/
def thrown (er : Int) : Ending := .panicked [{ v := .iface 130 (.agg #[.int .i64 er]), recovered := false }]
theorem stop_no (w : World) : Calls Tryz.prog 49 #[.int .i64 0] w (fun e w' => e = .returned (.tuple #[]) ∧ w' = w) := by
 go_enter Tryz.func49, Tryz.ntmps49
 go_wp2_with fail
 first | go_end0 | refine bodyPost_ret (results_none rfl _ _ _) rfl ?_
 exact ⟨rfl, rfl⟩
theorem stop_yes (er : Int) (h : er ≠ 0) (w : World) : Calls Tryz.prog 49 #[.int .i64 er] w (fun e w' => e = thrown er ∧ w' = w) := by
 have b1 : (er != 0) = true := by simp [h]
 clear h
 go_enter Tryz.func49, Tryz.ntmps49
 go_wp2_with fail
 exact ⟨rfl, rfl, rfl⟩
/-- A value or a thrown error. -/
def TryPost (w : World) (er : Int) (Rv : Value → World → Prop) (e : Ending) (w' : World) : Prop :=
 Below w.heap.size w w' ∧ ((er = 0 ∧ ∃ v, e = .returned v ∧ Rv v w') ∨ (er ≠ 0 ∧ e = thrown er))
theorem TryPost.no {w w' : World} {er : Int} {Rv : Value → World → Prop} (hb : Below w.heap.size w w') (h : er ≠ 0) : TryPost w er Rv (thrown er) w' := ⟨hb, .inr ⟨h, rfl⟩⟩
theorem TryPost.yes {w w' : World} {Rv : Value → World → Prop} {v : Value} (hb : Below w.heap.size w w') (h : Rv v w') : TryPost w 0 Rv (.returned v) w' := ⟨hb, .inl ⟨rfl, _, rfl, h⟩⟩
set_option maxRecDepth 10000 in
theorem needF_no (a : Fr) (w : World) : Calls Tryz.prog 74 #[a.v, .int .i64 0] w (fun e w' => e = .returned a.v ∧ Below w.heap.size w w') := by
 obtain ⟨s, t⟩ := a
 unfold Fr.v
 go_enter Tryz.func74, Tryz.ntmps74
 go_wp2_with fail
 refine (stop_no _).mono ?_
 rintro e w1 ⟨rfl, rfl⟩
 go_wp2_with fail
 refine ret_c rfl rfl boxA Tryz.underlying36 rfl (by kernel_rfl) ?_
 exact ⟨rfl, belA⟩
set_option maxRecDepth 10000 in
theorem needF_yes (a : Fr) (er : Int) (h : er ≠ 0) (w : World) : Calls Tryz.prog 74 #[a.v, .int .i64 er] w (fun e w' => e = thrown er ∧ Below w.heap.size w w') := by
 obtain ⟨s, t⟩ := a
 unfold Fr.v
 have H := Lib.hid h
 clear h
 go_enter Tryz.func74, Tryz.ntmps74
 go_wp2_with fail
 refine (stop_yes er H.out _).mono ?_
 rintro e w1 ⟨rfl, rfl⟩
 exact ⟨rfl, rfl, belA⟩
set_option maxRecDepth 10000 in
theorem needM_no (a : Option Addr) (n c : Nat) (w : World) : Calls Tryz.prog 37 #[.slice a n c, .int .i64 0] w (fun e w' => e = .returned (.slice a n c) ∧ w' = w) := by
 go_enter Tryz.func37, Tryz.ntmps37
 go_wp2_with fail
 refine (stop_no _).mono ?_
 rintro e w1 ⟨rfl, rfl⟩
 go_wp2_with fail
 go_ret
 exact ⟨rfl, rfl⟩
set_option maxRecDepth 10000 in
theorem needM_yes (a : Option Addr) (n c : Nat) (er : Int) (h : er ≠ 0) (w : World) : Calls Tryz.prog 37 #[.slice a n c, .int .i64 er] w (fun e w' => e = thrown er ∧ w' = w) := by
 have H := Lib.hid h
 clear h
 go_enter Tryz.func37, Tryz.ntmps37
 go_wp2_with fail
 refine (stop_yes er H.out _).mono ?_
 rintro e w1 ⟨rfl, rfl⟩
 exact ⟨rfl, rfl, rfl⟩
set_option maxRecDepth 10000 in
theorem needI_no (z : Int) (w : World) : Calls Tryz.prog 82 #[.int .i64 z, .int .i64 0] w (fun e w' => e = .returned (.int .i64 z) ∧ w' = w) := by
 go_enter Tryz.func82, Tryz.ntmps82
 go_wp2_with fail
 refine (stop_no _).mono ?_
 rintro e w1 ⟨rfl, rfl⟩
 go_wp2_with fail
 go_ret
 exact ⟨rfl, rfl⟩
set_option maxRecDepth 10000 in
theorem needL_no (a : Option Addr) (n c : Nat) (w : World) : Calls Tryz.prog 52 #[.slice a n c, .int .i64 0] w (fun e w' => e = .returned (.slice a n c) ∧ w' = w) := by
 go_enter Tryz.func52, Tryz.ntmps52
 go_wp2_with fail
 refine (stop_no _).mono ?_
 rintro e w1 ⟨rfl, rfl⟩
 go_wp2_with fail
 go_ret
 exact ⟨rfl, rfl⟩
set_option maxRecDepth 10000 in
theorem needL_yes (a : Option Addr) (n c : Nat) (er : Int) (h : er ≠ 0) (w : World) : Calls Tryz.prog 52 #[.slice a n c, .int .i64 er] w (fun e w' => e = thrown er ∧ w' = w) := by
 have H := Lib.hid h
 clear h
 go_enter Tryz.func52, Tryz.ntmps52
 go_wp2_with fail
 refine (stop_yes er H.out _).mono ?_
 rintro e w1 ⟨rfl, rfl⟩
 exact ⟨rfl, rfl, rfl⟩
end Go.Proofs.adapt
namespace Go.Proofs.adapt
open Go Go.RowKit Go.SW Go.Num Go.Mem Go.Proofs Go.Dec Go.Fra
theorem assert_ok (er : Int) (w : World) : (Instr.typeAssert (.iface 130 (.agg #[.int .i64 er])) 20 130 true).run Tryz.prog w = .ok (.tuple #[.agg #[.int .i64 er], .bool true]) w := by kernel_rfl
theorem box_cast {w : World} {b : Nat} {cs cs' : Array Value} {T : TypeId} (h : Box w b cs T) (e : cs = cs') : Box w b cs' T := e ▸ h
def caught (er : Int) (rec : Bool) : FrameMode := .panicking [{ v := .iface 130 (.agg #[.int .i64 er]), recovered := rec }]
set_option maxRecDepth 10000 in
theorem catchM_idle (p q : Addr) (w : World) :
  CallsD Tryz.prog 79 #[.pointer (some p), .pointer (some q)] .returning w fun e u' w' => e = .returned (.tuple #[]) ∧ u' = .returning ∧ w' = w := by
 refine callsD_of_wpS Tryz.func79 rfl fun c₀ cs hu => ?_
 simp only [Tryz.ntmps79, List.size_toArray, List.length_cons, List.length_nil, Nat.reduceAdd, Nat.reduceSub, Array.replicate_succ, Array.replicate_zero, List.push_toArray, List.append_toArray, List.nil_append, List.cons_append]
 refine wpS_seq (wpS_region ?_)
 generalize hQ : Exit.thenS _ _ = Q
 simp [wpOpsS, go_sem, recoverD, hu]
 rw [← hQ]
 clear hQ
 refine wpS_of_wp ?_
 go_wp2_with fail
 cases c₀
 simp_all [bodyPostS, results, Tryz.results79]
set_option maxRecDepth 10000 in
set_option maxHeartbeats 1000000 in
theorem catchM (b c : Nat) (v : Value) (z er : Int) (w : World) (hb : Box w b #[v] 44) (hc : Box w c #[.int .i64 z] 45) :
  CallsD Tryz.prog 79 #[.pointer (some ⟨b, 0, none⟩), .pointer (some ⟨c, 0, none⟩)] (caught er false) w fun e u' w' =>
   e = .returned (.tuple #[]) ∧ u' = caught er true ∧ Box w' b #[.slice none 0 0] 44 ∧ Box w' c #[.int .i64 er] 45 ∧ ∀ w0 : World, w0.heap.size ≤ b → w0.heap.size ≤ c → Below w0.heap.size w0 w → Below w0.heap.size w0 w' := by
 unfold caught
 refine callsD_of_wpS Tryz.func79 rfl fun c₀ cs hu => ?_
 simp only [Tryz.ntmps79, List.size_toArray, List.length_cons, List.length_nil, Nat.reduceAdd, Nat.reduceSub, Array.replicate_succ, Array.replicate_zero, List.push_toArray, List.append_toArray, List.nil_append, List.cons_append]
 refine wpS_seq (wpS_region ?_)
 generalize hQ : Exit.thenS _ _ = Q
 simp [wpOpsS, go_sem, recoverD, hu]
 rw [← hQ]
 clear hQ
 refine wpS_of_wp ?_
 have cb := hb.cell
 have fb := hb.free
 have cc := hc.cell
 have fc := hc.free
 have lb := hb.lt
 have lc := hc.lt
 have hne : b ≠ c := hb.ne hc (by decide)
 have hne2 : c ≠ b := fun e => hne e.symm
 have hta := assert_ok er
 obtain ⟨R, HR⟩ : ∃ R : Ending → FrameMode → World → Prop, Hid (R = fun e u' w' => e = .returned (.tuple #[]) ∧ u' = .panicking [{ v := .iface 130 (.agg #[.int .i64 er]), recovered := true }] ∧ Box w' b #[.slice none 0 0] 44 ∧ Box w' c #[.int .i64 er] 45 ∧ ∀ w0 : World, w0.heap.size ≤ b → w0.heap.size ≤ c → Below w0.heap.size w0 w → Below w0.heap.size w0 w') := ⟨_, Lib.hid rfl⟩
 rw [← HR.out]
 go_wp2_with fail
 simp only [bodyPostS]
 refine ⟨trivial, _, rfl, _, results_none rfl _ _ _, ?_⟩
 rw [HR.out]
 refine ⟨rfl, rfl, ?_, ?_, fun w0 h1 h2 h3 => ?_⟩
 ·apply box_cast
  ·exact boxA
  ·simp only [List.setIfInBounds_toArray, List.set_cons_zero, List.set_cons_succ]
 ·apply box_cast
  ·exact boxA
  ·simp only [List.setIfInBounds_toArray, List.set_cons_zero, List.set_cons_succ]
 ·exact belA
set_option maxRecDepth 10000 in
theorem catchG_idle (p q : Addr) (w : World) :
  CallsD Tryz.prog 133 #[.pointer (some p), .pointer (some q)] .returning w fun e u' w' => e = .returned (.tuple #[]) ∧ u' = .returning ∧ w' = w := by
 refine callsD_of_wpS Tryz.func133 rfl fun c₀ cs hu => ?_
 simp only [Tryz.ntmps133, List.size_toArray, List.length_cons, List.length_nil, Nat.reduceAdd, Nat.reduceSub, Array.replicate_succ, Array.replicate_zero, List.push_toArray, List.append_toArray, List.nil_append, List.cons_append]
 refine wpS_seq (wpS_region ?_)
 generalize hQ : Exit.thenS _ _ = Q
 simp [wpOpsS, go_sem, recoverD, hu]
 rw [← hQ]
 clear hQ
 refine wpS_of_wp ?_
 go_wp2_with fail
 cases c₀
 simp_all [bodyPostS, results, Tryz.results133]
set_option maxRecDepth 10000 in
set_option maxHeartbeats 1000000 in
theorem catchG (b c : Nat) (s1 s2 s3 s4 s5 s6 : ByteArray) (z er : Int) (w : World) (hb : Box w b #[.string s1, .string s2, .string s3, .string s4, .string s5, .string s6] 37) (hc : Box w c #[.int .i64 z] 45) :
  CallsD Tryz.prog 133 #[.pointer (some ⟨b, 0, none⟩), .pointer (some ⟨c, 0, none⟩)] (caught er false) w fun e u' w' =>
   e = .returned (.tuple #[]) ∧ u' = caught er true ∧ Box w' b #[.string ⟨#[]⟩, .string ⟨#[]⟩, .string ⟨#[]⟩, .string ⟨#[]⟩, .string ⟨#[]⟩, .string ⟨#[]⟩] 37 ∧ Box w' c #[.int .i64 er] 45 ∧ ∀ w0 : World, w0.heap.size ≤ b → w0.heap.size ≤ c → Below w0.heap.size w0 w → Below w0.heap.size w0 w' := by
 unfold caught
 refine callsD_of_wpS Tryz.func133 rfl fun c₀ cs hu => ?_
 simp only [Tryz.ntmps133, List.size_toArray, List.length_cons, List.length_nil, Nat.reduceAdd, Nat.reduceSub, Array.replicate_succ, Array.replicate_zero, List.push_toArray, List.append_toArray, List.nil_append, List.cons_append]
 refine wpS_seq (wpS_region ?_)
 generalize hQ : Exit.thenS _ _ = Q
 simp [wpOpsS, go_sem, recoverD, hu]
 rw [← hQ]
 clear hQ
 refine wpS_of_wp ?_
 have cb := hb.cell
 have fb := hb.free
 have cc := hc.cell
 have fc := hc.free
 have lb := hb.lt
 have lc := hc.lt
 have hne : b ≠ c := hb.ne hc (by decide)
 have hne2 : c ≠ b := fun e => hne e.symm
 have hta := assert_ok er
 obtain ⟨R, HR⟩ : ∃ R : Ending → FrameMode → World → Prop, Hid (R = fun e u' w' => e = .returned (.tuple #[]) ∧ u' = .panicking [{ v := .iface 130 (.agg #[.int .i64 er]), recovered := true }] ∧ Box w' b #[.string ⟨#[]⟩, .string ⟨#[]⟩, .string ⟨#[]⟩, .string ⟨#[]⟩, .string ⟨#[]⟩, .string ⟨#[]⟩] 37 ∧ Box w' c #[.int .i64 er] 45 ∧ ∀ w0 : World, w0.heap.size ≤ b → w0.heap.size ≤ c → Below w0.heap.size w0 w → Below w0.heap.size w0 w') := ⟨_, Lib.hid rfl⟩
 rw [← HR.out]
 go_wp2_with fail
 simp only [bodyPostS]
 refine ⟨trivial, _, rfl, _, results_none rfl _ _ _, ?_⟩
 rw [HR.out]
 refine ⟨rfl, rfl, ?_, ?_, fun w0 h1 h2 h3 => ?_⟩
 ·apply box_cast
  ·exact boxA
  ·simp only [List.setIfInBounds_toArray, List.set_cons_zero, List.set_cons_succ]
 ·apply box_cast
  ·exact boxA
  ·simp only [List.setIfInBounds_toArray, List.set_cons_zero, List.set_cons_succ]
 ·exact belA
set_option maxRecDepth 10000 in
theorem catchT_idle (p q : Addr) (w : World) :
  CallsD Tryz.prog 111 #[.pointer (some p), .pointer (some q)] .returning w fun e u' w' => e = .returned (.tuple #[]) ∧ u' = .returning ∧ w' = w := by
 refine callsD_of_wpS Tryz.func111 rfl fun c₀ cs hu => ?_
 simp only [Tryz.ntmps111, List.size_toArray, List.length_cons, List.length_nil, Nat.reduceAdd, Nat.reduceSub, Array.replicate_succ, Array.replicate_zero, List.push_toArray, List.append_toArray, List.nil_append, List.cons_append]
 refine wpS_seq (wpS_region ?_)
 generalize hQ : Exit.thenS _ _ = Q
 simp [wpOpsS, go_sem, recoverD, hu]
 rw [← hQ]
 clear hQ
 refine wpS_of_wp ?_
 go_wp2_with fail
 cases c₀
 simp_all [bodyPostS, results, Tryz.results111]
set_option maxRecDepth 10000 in
set_option maxHeartbeats 1000000 in
theorem catchT (b c : Nat) (s1 s2 s3 s4 s5 s6 : ByteArray) (z er : Int) (w : World) (hb : Box w b #[.string s1, .string s2, .string s3, .string s4, .string s5, .string s6] 38) (hc : Box w c #[.int .i64 z] 45) :
  CallsD Tryz.prog 111 #[.pointer (some ⟨b, 0, none⟩), .pointer (some ⟨c, 0, none⟩)] (caught er false) w fun e u' w' =>
   e = .returned (.tuple #[]) ∧ u' = caught er true ∧ Box w' b #[.string ⟨#[]⟩, .string ⟨#[]⟩, .string ⟨#[]⟩, .string ⟨#[]⟩, .string ⟨#[]⟩, .string ⟨#[]⟩] 38 ∧ Box w' c #[.int .i64 er] 45 ∧ ∀ w0 : World, w0.heap.size ≤ b → w0.heap.size ≤ c → Below w0.heap.size w0 w → Below w0.heap.size w0 w' := by
 unfold caught
 refine callsD_of_wpS Tryz.func111 rfl fun c₀ cs hu => ?_
 simp only [Tryz.ntmps111, List.size_toArray, List.length_cons, List.length_nil, Nat.reduceAdd, Nat.reduceSub, Array.replicate_succ, Array.replicate_zero, List.push_toArray, List.append_toArray, List.nil_append, List.cons_append]
 refine wpS_seq (wpS_region ?_)
 generalize hQ : Exit.thenS _ _ = Q
 simp [wpOpsS, go_sem, recoverD, hu]
 rw [← hQ]
 clear hQ
 refine wpS_of_wp ?_
 have cb := hb.cell
 have fb := hb.free
 have cc := hc.cell
 have fc := hc.free
 have lb := hb.lt
 have lc := hc.lt
 have hne : b ≠ c := hb.ne hc (by decide)
 have hne2 : c ≠ b := fun e => hne e.symm
 have hta := assert_ok er
 obtain ⟨R, HR⟩ : ∃ R : Ending → FrameMode → World → Prop, Hid (R = fun e u' w' => e = .returned (.tuple #[]) ∧ u' = .panicking [{ v := .iface 130 (.agg #[.int .i64 er]), recovered := true }] ∧ Box w' b #[.string ⟨#[]⟩, .string ⟨#[]⟩, .string ⟨#[]⟩, .string ⟨#[]⟩, .string ⟨#[]⟩, .string ⟨#[]⟩] 38 ∧ Box w' c #[.int .i64 er] 45 ∧ ∀ w0 : World, w0.heap.size ≤ b → w0.heap.size ≤ c → Below w0.heap.size w0 w → Below w0.heap.size w0 w') := ⟨_, Lib.hid rfl⟩
 rw [← HR.out]
 go_wp2_with fail
 simp only [bodyPostS]
 refine ⟨trivial, _, rfl, _, results_none rfl _ _ _, ?_⟩
 rw [HR.out]
 refine ⟨rfl, rfl, ?_, ?_, fun w0 h1 h2 h3 => ?_⟩
 ·apply box_cast
  ·exact boxA
  ·simp only [List.setIfInBounds_toArray, List.set_cons_zero, List.set_cons_succ]
 ·apply box_cast
  ·exact boxA
  ·simp only [List.setIfInBounds_toArray, List.set_cons_zero, List.set_cons_succ]
 ·exact belA
end Go.Proofs.adapt
namespace Go.Proofs.adapt
open Go Go.RowKit Go.SW Go.Num Go.Mem Go.Proofs Go.Dec Go.Fra
theorem run_results_cells {P : Program} {fn : Func} {w : World} {tmps : Array Value} {p q : Tmp} {ty ty2 : TypeId} {g g2 : Nat} {x y : Value} (h : fn.results = #[.cell p ty, .cell q ty2])
  (hp : tmps.getD p undef = .pointer (some ⟨g, 0, none⟩)) (hq : tmps.getD q undef = .pointer (some ⟨g2, 0, none⟩)) (h1 : (loadVar ty ⟨g, 0, none⟩).run P w = .ok x w) (h2 : (loadVar ty2 ⟨g2, 0, none⟩).run P w = .ok y w) :
  (results fn tmps).run P w = .ok (.tuple #[x, y]) w := by
 have hp' : tmps[p]?.getD undef = .pointer (some ⟨g, 0, none⟩) := by simpa using hp
 have hq' : tmps[q]?.getD undef = .pointer (some ⟨g2, 0, none⟩) := by simpa using hq
 simp [results, h, hp', hq', asAddr, h1, h2]
theorem load_errno {w : World} {c : Nat} {z : Int} (h : Box w c #[.int .i64 z] 45) : (loadVar 45 ⟨c, 0, none⟩).run Tryz.prog w = .ok (.int .i64 z) w := by
 have hc := h.cell 0
 simp [go_sem, hc]
theorem load_mat {w : World} {b : Nat} {a : Option Addr} {n c : Nat} (h : Box w b #[.slice a n c] 44) : (loadVar 44 ⟨b, 0, none⟩).run Tryz.prog w = .ok (.slice a n c) w := by
 have hc := h.cell 0
 simp [go_sem, hc]
theorem load_G {w : World} {b : Nat} {s1 s2 s3 s4 s5 s6 : ByteArray} (h : Box w b #[.string s1, .string s2, .string s3, .string s4, .string s5, .string s6] 37) : (loadVar 37 ⟨b, 0, none⟩).run Tryz.prog w = .ok (.agg #[.string s1, .string s2, .string s3, .string s4, .string s5, .string s6]) w :=
 run_loadVar_row w b 37 37 _ (0, 0) _ h Tryz.underlying37 rfl (by kernel_rfl)
theorem load_T {w : World} {b : Nat} {s1 s2 s3 s4 s5 s6 : ByteArray} (h : Box w b #[.string s1, .string s2, .string s3, .string s4, .string s5, .string s6] 38) : (loadVar 38 ⟨b, 0, none⟩).run Tryz.prog w = .ok (.agg #[.string s1, .string s2, .string s3, .string s4, .string s5, .string s6]) w :=
 run_loadVar_row w b 38 38 _ (0, 0) _ h Tryz.underlying38 rfl (by kernel_rfl)
theorem MatV.kept {l : List TypeId} {w w' : World} {v : Value} {m : List (List Fr)} (h : MatV w v m) (k : Keep l w w') (h1 : 56 ∉ l) (h2 : 36 ∉ l) : MatV w' v m := by
 obtain ⟨rs, g1, g2, g3⟩ := h
 exact ⟨rs, Fra.Row.kept g1 k h1, g2, fun i h h' => Frs.kept (g3 i h h') k h2⟩
set_option maxRecDepth 10000 in
theorem attemptM_ok (f : FuncId) (caps : Array Value) (er : Int) (m : List (List Fr)) (w : World) (HC : ∀ W, Below w.heap.size w W → Calls Tryz.prog f caps W (TryPost W er (fun v W' => MatV W' v m)))
  (hf : ∀ args W, (callFunc f args).run Tryz.prog W = .ok (.enter f args) W) :
  Calls Tryz.prog 34 #[.func (.func f) #[] caps] w (MatPost w er m) := by
 have hmf : ∀ (fn : Fn) (first cap : Array Value) (w : World), (Instr.makeFunc fn first cap).run Tryz.prog w = .ok (.func fn first cap) w := fun _ _ _ _ => rfl
 have HCH := Lib.hid HC
 clear HC
 have hb0 : Below w.heap.size w ((w.alloc (.cells #[.slice none 0 0] 44)).alloc (.cells #[.int .i64 0] 45)) := belA
 obtain ⟨w0, Ew0⟩ : ∃ y, (w.alloc (.cells #[.slice none 0 0] 44)).alloc (.cells #[.int .i64 0] 45) = y := ⟨_, rfl⟩
 have hx1 : Box w0 w.heap.size #[.slice none 0 0] 44 := by rw [← Ew0]; exact boxA
 have hx2 : Box w0 (w.heap.size + 1) #[.int .i64 0] 45 := by rw [← Ew0]; exact boxA
 rw [Ew0] at hb0
 go_enter_defers Tryz.func34, Tryz.ntmps34
 go_wp2_with fail
 refine (HCH.out _ hb0).mono ?_
 rintro e w1 ⟨hb1, ⟨rfl, v, rfl, hv⟩ | ⟨h, rfl⟩⟩
 ·obtain ⟨rs, hR, hl, hF⟩ := id hv
  obtain ⟨a, cap, rfl, -⟩ := hR
  replace hx1 := hx1.later hb1
  replace hx2 := hx2.later hb1
  have c1 := hx1.cell
  have f1 := hx1.free
  have c2 := hx2.cell
  have f2 := hx2.free
  have HV := Lib.hid hv
  have hx3 : Box ((w1.setCell ⟨w.heap.size, 0, none⟩ (.slice a rs.length cap)).setCell ⟨w.heap.size + 1, 0, none⟩ (.int .i64 0)) w.heap.size #[.slice a rs.length cap] 44 := (hx1.set 0 (.slice a rs.length cap)).setOther (a := ⟨w.heap.size + 1, 0, none⟩) (.int .i64 0) (by simp)
  have hx4 : Box ((w1.setCell ⟨w.heap.size, 0, none⟩ (.slice a rs.length cap)).setCell ⟨w.heap.size + 1, 0, none⟩ (.int .i64 0)) (w.heap.size + 1) #[.int .i64 0] 45 := (hx2.setOther (a := ⟨w.heap.size, 0, none⟩) (.slice a rs.length cap) (by simp)).set 0 (.int .i64 0)
  have hv2 := MatV.kept hv ((Keep.setCell (o := 0) (u := .slice a rs.length cap) hx1.isT).mono (m := [44, 45]) (by simp)) (by decide) (by decide)
  have hv3 := MatV.kept hv2 ((Keep.setCell (o := 0) (u := .int .i64 0) (hx2.isT.setCell (a := ⟨w.heap.size, 0, none⟩) (u := .slice a rs.length cap))).mono (m := [44, 45]) (by simp)) (by decide) (by decide)
  have HV := Lib.hid hv3
  have hbw := ((Bt hb0 hb1).setCell (p := ⟨w.heap.size, 0, none⟩) (Nat.le_refl _) (.slice a rs.length cap)).setCell (p := ⟨w.heap.size + 1, 0, none⟩) (by simp) (.int .i64 0)
  rw [hl] at hx3 hx4 HV hbw
  clear hF hv hv2 hv3
  go_wp2_with fail
  refine leaves_cons (f := 79) (args := #[.pointer (some ⟨w.heap.size, 0, none⟩), .pointer (some ⟨w.heap.size + 1, 0, none⟩)]) (by simp) (by simp [go_sem]) ?_
  refine (catchM_idle _ _ _).mono ?_
  rintro e u' w'' ⟨rfl, rfl, rfl⟩
  exact ⟨_, run_results_cells rfl rfl rfl (load_mat hx3) (load_errno hx4), MatPost.yes hbw HV.out⟩
 ·replace hx1 := hx1.later hb1
  replace hx2 := hx2.later hb1
  change bodyPostD _ _ _ (Exit.panic [{ v := .iface 130 (.agg #[.int .i64 er]), recovered := false }]) _ _
  refine leaves_cons (f := 79) (args := #[.pointer (some ⟨w.heap.size, 0, none⟩), .pointer (some ⟨w.heap.size + 1, 0, none⟩)]) (by simp) (by simp [go_sem]) ?_
  refine (catchM w.heap.size (w.heap.size + 1) _ _ er _ hx1 hx2).mono ?_
  rintro e u' w'' ⟨rfl, rfl, hy1, hy2, hbb⟩
  exact ⟨_, run_results_cells rfl rfl rfl (load_mat hy1) (load_errno hy2), MatPost.no (hbb w (Nat.le_refl _) (by omega) (Bt hb0 hb1)) h⟩
def noTri : light.Tri := ⟨Fr.no, Fr.no, Fr.no⟩
/-- A result of three fractions or an error. -/
def TriPost (w : World) (er : Int) (t : light.Tri) (e : Ending) (w' : World) : Prop := Below w.heap.size w w' ∧ e = .returned (.tuple #[(if er = 0 then t else noTri).v, .int .i64 er])
set_option maxRecDepth 10000 in
theorem attemptG_ok (f : FuncId) (caps : Array Value) (er : Int) (t : light.Tri) (w : World) (HC : ∀ W, Below w.heap.size w W → Calls Tryz.prog f caps W (TryPost W er (fun v W' => v = t.v)))
  (hf : ∀ args W, (callFunc f args).run Tryz.prog W = .ok (.enter f args) W) :
  Calls Tryz.prog 70 #[.func (.func f) #[] caps] w (TriPost w er t) := by
 have hmf : ∀ (fn : Fn) (first cap : Array Value) (w : World), (Instr.makeFunc fn first cap).run Tryz.prog w = .ok (.func fn first cap) w := fun _ _ _ _ => rfl
 obtain ⟨⟨a1, a2⟩, ⟨a3, a4⟩, ⟨a5, a6⟩⟩ := t
 have HCH := Lib.hid HC
 clear HC
 have hb0 : Below w.heap.size w ((w.alloc (.cells #[.string ⟨#[]⟩, .string ⟨#[]⟩, .string ⟨#[]⟩, .string ⟨#[]⟩, .string ⟨#[]⟩, .string ⟨#[]⟩] 37)).alloc (.cells #[.int .i64 0] 45)) := belA
 obtain ⟨w0, Ew0⟩ : ∃ y, (w.alloc (.cells #[.string ⟨#[]⟩, .string ⟨#[]⟩, .string ⟨#[]⟩, .string ⟨#[]⟩, .string ⟨#[]⟩, .string ⟨#[]⟩] 37)).alloc (.cells #[.int .i64 0] 45) = y := ⟨_, rfl⟩
 have hx1 : Box w0 w.heap.size #[.string ⟨#[]⟩, .string ⟨#[]⟩, .string ⟨#[]⟩, .string ⟨#[]⟩, .string ⟨#[]⟩, .string ⟨#[]⟩] 37 := by rw [← Ew0]; exact boxA
 have hx2 : Box w0 (w.heap.size + 1) #[.int .i64 0] 45 := by rw [← Ew0]; exact boxA
 rw [Ew0] at hb0
 go_enter_defers Tryz.func70, Tryz.ntmps70
 go_wp2_with fail
 refine (HCH.out _ hb0).mono ?_
 rintro e w1 ⟨hb1, ⟨rfl, v, rfl, rfl⟩ | ⟨h, rfl⟩⟩
 ·replace hx1 := hx1.later hb1
  replace hx2 := hx2.later hb1
  have c1 := hx1.cell
  have f1 := hx1.free
  have c2 := hx2.cell
  have f2 := hx2.free
  have hne : w.heap.size ≠ w.heap.size + 1 := by omega
  have hx3 : Box (((((((w1.setCell ⟨w.heap.size, 0, none⟩ (.string a1)).setCell ⟨w.heap.size, 1, none⟩ (.string a2)).setCell ⟨w.heap.size, 2, none⟩ (.string a3)).setCell ⟨w.heap.size, 3, none⟩ (.string a4)).setCell ⟨w.heap.size, 4, none⟩ (.string a5)).setCell ⟨w.heap.size, 5, none⟩ (.string a6)).setCell ⟨w.heap.size + 1, 0, none⟩ (.int .i64 0)) w.heap.size #[.string a1, .string a2, .string a3, .string a4, .string a5, .string a6] 37 := ((((((hx1.set 0 _).set 1 _).set 2 _).set 3 _).set 4 _).set 5 _).setOther _ hne
  have hx4 : Box (((((((w1.setCell ⟨w.heap.size, 0, none⟩ (.string a1)).setCell ⟨w.heap.size, 1, none⟩ (.string a2)).setCell ⟨w.heap.size, 2, none⟩ (.string a3)).setCell ⟨w.heap.size, 3, none⟩ (.string a4)).setCell ⟨w.heap.size, 4, none⟩ (.string a5)).setCell ⟨w.heap.size, 5, none⟩ (.string a6)).setCell ⟨w.heap.size + 1, 0, none⟩ (.int .i64 0)) (w.heap.size + 1) #[.int .i64 0] 45 := ((((((hx2.setOther _ hne.symm).setOther _ hne.symm).setOther _ hne.symm).setOther _ hne.symm).setOther _ hne.symm).setOther _ hne.symm).set 0 _
  have hbw : Below w.heap.size w (((((((w1.setCell ⟨w.heap.size, 0, none⟩ (.string a1)).setCell ⟨w.heap.size, 1, none⟩ (.string a2)).setCell ⟨w.heap.size, 2, none⟩ (.string a3)).setCell ⟨w.heap.size, 3, none⟩ (.string a4)).setCell ⟨w.heap.size, 4, none⟩ (.string a5)).setCell ⟨w.heap.size, 5, none⟩ (.string a6)).setCell ⟨w.heap.size + 1, 0, none⟩ (.int .i64 0)) := by
   have := Bt hb0 hb1
   exact belA
  have HX3 := Lib.hid hx3
  have HX4 := Lib.hid hx4
  have HBW := Lib.hid hbw
  clear hx3 hx4 hbw Ew0 hx1 hx2 hb0 hb1
  unfold light.Tri.v light.Tri.cells
  go_wp2_with fail
  refine leaves_cons (f := 133) (args := #[.pointer (some ⟨w.heap.size, 0, none⟩), .pointer (some ⟨w.heap.size + 1, 0, none⟩)]) (by simp) (by simp [go_sem]) ?_
  refine (catchG_idle _ _ _).mono ?_
  rintro e u' w'' ⟨rfl, rfl, rfl⟩
  exact ⟨_, run_results_cells rfl rfl rfl (load_G HX3.out) (load_errno HX4.out), HBW.out, rfl⟩
 ·replace hx1 := hx1.later hb1
  replace hx2 := hx2.later hb1
  change bodyPostD _ _ _ (Exit.panic [{ v := .iface 130 (.agg #[.int .i64 er]), recovered := false }]) _ _
  refine leaves_cons (f := 133) (args := #[.pointer (some ⟨w.heap.size, 0, none⟩), .pointer (some ⟨w.heap.size + 1, 0, none⟩)]) (by simp) (by simp [go_sem]) ?_
  refine (catchG w.heap.size (w.heap.size + 1) _ _ _ _ _ _ _ er _ hx1 hx2).mono ?_
  rintro e u' w'' ⟨rfl, rfl, hy1, hy2, hbb⟩
  exact ⟨_, run_results_cells rfl rfl rfl (load_G hy1) (load_errno hy2), hbb w (Nat.le_refl _) (by omega) (Bt hb0 hb1), by rw [if_neg h]; rfl⟩
set_option maxRecDepth 10000 in
theorem attemptT_ok (f : FuncId) (caps : Array Value) (er : Int) (t : light.Tri) (w : World) (HC : ∀ W, Below w.heap.size w W → Calls Tryz.prog f caps W (TryPost W er (fun v W' => v = t.v)))
  (hf : ∀ args W, (callFunc f args).run Tryz.prog W = .ok (.enter f args) W) :
  Calls Tryz.prog 47 #[.func (.func f) #[] caps] w (TriPost w er t) := by
 have hmf : ∀ (fn : Fn) (first cap : Array Value) (w : World), (Instr.makeFunc fn first cap).run Tryz.prog w = .ok (.func fn first cap) w := fun _ _ _ _ => rfl
 obtain ⟨⟨a1, a2⟩, ⟨a3, a4⟩, ⟨a5, a6⟩⟩ := t
 have HCH := Lib.hid HC
 clear HC
 have hb0 : Below w.heap.size w ((w.alloc (.cells #[.string ⟨#[]⟩, .string ⟨#[]⟩, .string ⟨#[]⟩, .string ⟨#[]⟩, .string ⟨#[]⟩, .string ⟨#[]⟩] 38)).alloc (.cells #[.int .i64 0] 45)) := belA
 obtain ⟨w0, Ew0⟩ : ∃ y, (w.alloc (.cells #[.string ⟨#[]⟩, .string ⟨#[]⟩, .string ⟨#[]⟩, .string ⟨#[]⟩, .string ⟨#[]⟩, .string ⟨#[]⟩] 38)).alloc (.cells #[.int .i64 0] 45) = y := ⟨_, rfl⟩
 have hx1 : Box w0 w.heap.size #[.string ⟨#[]⟩, .string ⟨#[]⟩, .string ⟨#[]⟩, .string ⟨#[]⟩, .string ⟨#[]⟩, .string ⟨#[]⟩] 38 := by rw [← Ew0]; exact boxA
 have hx2 : Box w0 (w.heap.size + 1) #[.int .i64 0] 45 := by rw [← Ew0]; exact boxA
 rw [Ew0] at hb0
 go_enter_defers Tryz.func47, Tryz.ntmps47
 go_wp2_with fail
 refine (HCH.out _ hb0).mono ?_
 rintro e w1 ⟨hb1, ⟨rfl, v, rfl, rfl⟩ | ⟨h, rfl⟩⟩
 ·replace hx1 := hx1.later hb1
  replace hx2 := hx2.later hb1
  have c1 := hx1.cell
  have f1 := hx1.free
  have c2 := hx2.cell
  have f2 := hx2.free
  have hne : w.heap.size ≠ w.heap.size + 1 := by omega
  have hx3 : Box (((((((w1.setCell ⟨w.heap.size, 0, none⟩ (.string a1)).setCell ⟨w.heap.size, 1, none⟩ (.string a2)).setCell ⟨w.heap.size, 2, none⟩ (.string a3)).setCell ⟨w.heap.size, 3, none⟩ (.string a4)).setCell ⟨w.heap.size, 4, none⟩ (.string a5)).setCell ⟨w.heap.size, 5, none⟩ (.string a6)).setCell ⟨w.heap.size + 1, 0, none⟩ (.int .i64 0)) w.heap.size #[.string a1, .string a2, .string a3, .string a4, .string a5, .string a6] 38 := ((((((hx1.set 0 _).set 1 _).set 2 _).set 3 _).set 4 _).set 5 _).setOther _ hne
  have hx4 : Box (((((((w1.setCell ⟨w.heap.size, 0, none⟩ (.string a1)).setCell ⟨w.heap.size, 1, none⟩ (.string a2)).setCell ⟨w.heap.size, 2, none⟩ (.string a3)).setCell ⟨w.heap.size, 3, none⟩ (.string a4)).setCell ⟨w.heap.size, 4, none⟩ (.string a5)).setCell ⟨w.heap.size, 5, none⟩ (.string a6)).setCell ⟨w.heap.size + 1, 0, none⟩ (.int .i64 0)) (w.heap.size + 1) #[.int .i64 0] 45 := ((((((hx2.setOther _ hne.symm).setOther _ hne.symm).setOther _ hne.symm).setOther _ hne.symm).setOther _ hne.symm).setOther _ hne.symm).set 0 _
  have hbw : Below w.heap.size w (((((((w1.setCell ⟨w.heap.size, 0, none⟩ (.string a1)).setCell ⟨w.heap.size, 1, none⟩ (.string a2)).setCell ⟨w.heap.size, 2, none⟩ (.string a3)).setCell ⟨w.heap.size, 3, none⟩ (.string a4)).setCell ⟨w.heap.size, 4, none⟩ (.string a5)).setCell ⟨w.heap.size, 5, none⟩ (.string a6)).setCell ⟨w.heap.size + 1, 0, none⟩ (.int .i64 0)) := by
   have := Bt hb0 hb1
   exact belA
  have HX3 := Lib.hid hx3
  have HX4 := Lib.hid hx4
  have HBW := Lib.hid hbw
  clear hx3 hx4 hbw Ew0 hx1 hx2 hb0 hb1
  unfold light.Tri.v light.Tri.cells
  go_wp2_with fail
  refine leaves_cons (f := 111) (args := #[.pointer (some ⟨w.heap.size, 0, none⟩), .pointer (some ⟨w.heap.size + 1, 0, none⟩)]) (by simp) (by simp [go_sem]) ?_
  refine (catchT_idle _ _ _).mono ?_
  rintro e u' w'' ⟨rfl, rfl, rfl⟩
  exact ⟨_, run_results_cells rfl rfl rfl (load_T HX3.out) (load_errno HX4.out), HBW.out, rfl⟩
 ·replace hx1 := hx1.later hb1
  replace hx2 := hx2.later hb1
  change bodyPostD _ _ _ (Exit.panic [{ v := .iface 130 (.agg #[.int .i64 er]), recovered := false }]) _ _
  refine leaves_cons (f := 111) (args := #[.pointer (some ⟨w.heap.size, 0, none⟩), .pointer (some ⟨w.heap.size + 1, 0, none⟩)]) (by simp) (by simp [go_sem]) ?_
  refine (catchT w.heap.size (w.heap.size + 1) _ _ _ _ _ _ _ er _ hx1 hx2).mono ?_
  rintro e u' w'' ⟨rfl, rfl, hy1, hy2, hbb⟩
  exact ⟨_, run_results_cells rfl rfl rfl (load_T hy1) (load_errno hy2), hbb w (Nat.le_refl _) (by omega) (Bt hb0 hb1), by rw [if_neg h]; rfl⟩
end Go.Proofs.adapt
namespace Go.Proofs.adapt
open Go Go.RowKit Go.SW Go.Num Go.Mem Go.Proofs Go.Dec Go.Fra
def conesL : List Int := [100000, 0, 0, 0, 100000, 0, 0, 0, 100000, 40024, 70760, -8081, -22630, 116532, 4570, 0, 0, 91822, 89510, 26640, -16140, -75020, 171350, 3670, 3890, -6850, 102960, 89500, 26640, -16140, -75020, 171350, 3670, 3890, -6850, 102960]
def Cones (w : World) : Prop := Lib.TabIs Tryz.prog w "verdigris/adapt.cones" .i64 conesL
theorem Cones.later {w w' : World} (h : Cones w) (hb : Below w.heap.size w w') : Cones w' := Lib.tabBelow_of_tabIs h w' hb
theorem Cones.cell {w : World} (h : Cones w) {k : Nat} (hk : k < 36) : w.cell? ⟨0, k, none⟩ = some (.int .i64 (conesL.getD k 0)) := by
 exact Lib.TabIs.cell h (by kernel_rfl) k hk
def coneQ (m i j : Nat) : Rat := ((conesL.getD (m * 9 + i * 3 + j) 0 : Int) : Rat) / ((100000 : Int) : Rat)
theorem coneQ_ok : ∀ m, m < 4 → ∀ i, i < 3 → ∀ j, j < 3 → okq (coneQ m i j) = true := by decide +kernel
def coneR (m : Nat) : matrix.RM := (List.range 3).map fun i => (List.range 3).map (coneQ m i)
theorem conesL_small : ∀ k, k < 36 → -1000000 ≤ conesL.getD k 0 ∧ conesL.getD k 0 ≤ 1000000 := by decide +kernel
set_option maxRecDepth 100000 in
set_option maxHeartbeats 2000000 in
theorem cone1_ok (bk m : Nat) (hm : m < 4) (w : World) (hk : Box w bk #[.int .i64 ((m : Int) + 1)] 3) (ht : Bld.Pow w) (hc : Cones w) :
  Calls Tryz.prog 73 #[.pointer (some ⟨bk, 0, none⟩)] w (TryPost w 0 (fun v w' => MatV w' v (coneR m).fr)) := by
 obtain ⟨csm, hcsm, hmk⟩ := matrix.made_mat 3 (by omega)
 obtain ⟨csf, hcsf, hmf⟩ := matrix.made_frs 3 (by omega)
 replace hmk : ∀ W : World, (Instr.makeSlice 44 (.int .i64 3) (.int .i64 3)).run Tryz.prog W = .ok (.slice (some ⟨W.heap.size, 0, none⟩) 3 3) (W.alloc (.cells csm 56)) := hmk
 replace hmf : ∀ W : World, (Instr.makeSlice 56 (.int .i64 3) (.int .i64 3)).run Tryz.prog W = .ok (.slice (some ⟨W.heap.size, 0, none⟩) 3 3) (W.alloc (.cells csf 36)) := hmf
 have HCS := Lib.hid hcsm
 have HCF := Lib.hid hcsf
 have HT := Lib.hid ht
 have HC := Lib.hid hc
 have HK := Lib.hid hk
 have lk := hk.lt
 have l0 : 0 < w.heap.size := by
  have := hc.cell (k := 0) (by omega)
  rcases Nat.lt_or_ge 0 w.heap.size with h | h
  ·exact h
  ·unfold World.cell? at this
   simp only [Array.getElem?_eq_none h] at this
   cases this
 obtain ⟨E, EE⟩ : ∃ E : Nat → Nat → Rat, Hid (coneQ m = E) := ⟨_, Lib.hid rfl⟩
 clear hcsm hcsf ht hc hk
 have hM0 := Box.new w csm 56
 have HM := Lib.hid (matrix.MFill.start2 (f := fun i => ((List.range 3).map (E i)).map Fr.of) hM0 HCS.out)
 have h0b : Below w.heap.size w (w.alloc (.cells csm 56)) := belA
 clear hM0
 go_enter Tryz.func73, Tryz.ntmps73
 go_wp2_with fail
 go_loopw [6] (fun iv wr => ∃ r : Nat, iv = .int .i64 (r : Int) ∧ r ≤ 3 ∧ Hid (MFill wr w.heap.size 3 r (fun i => ((List.range 3).map (E i)).map Fr.of)) ∧ Below w.heap.size w wr) (fun iv _ => 3 - (intOf iv).toNat)
 case atStart => exact ⟨0, rfl, by omega, HM, h0b⟩
 case round =>
  clear HM h0b
  obtain ⟨r, rfl, hr, HM, hb⟩ := hrel
  obtain ⟨wo, hwo⟩ : ∃ y, y = wr := ⟨_, rfl⟩
  subst hwo
  have lM := HM.out.lt
  rcases Nat.lt_or_ge r 3 with hlt | hge
  ·have hlt2 : (r : Int) < 3 := by omega
   obtain ⟨⟨y1, cy1⟩, fy⟩ := HM.out.cell hlt
   obtain ⟨arrM, bM, hsz, -⟩ := HM.out
   have HBM := Lib.hid bM
   have hrs : r < arrM.size := by omega
   clear bM hsz
   go_wp2_with fail
   clear cy1 fy
   have hGM : wo.heap.size ≠ w.heap.size := by omega
   have hMG : w.heap.size ≠ wo.heap.size := by omega
   have hBn : Box ((wo.setCell ⟨w.heap.size, r, none⟩ (.slice (some ⟨wo.heap.size, 0, none⟩) 3 3)).alloc (.cells csf 36 (0, 0))) wo.heap.size csf 36 := Box.new_at (by simp)
   have HF := Lib.hid (show Fill _ wo.heap.size 36 3 0 (FrC fun i => Fr.of (E r i)) from ⟨csf, hBn, HCF.out, fun i hi => by omega⟩)
   have HB := Lib.hid ((HBM.out.set r (.slice (some ⟨wo.heap.size, 0, none⟩) 3 3)).alloc (.cells csf 36 (0, 0)))
   have HN := Lib.hid (((Near.refl wo w.heap.size).set r (.slice (some ⟨wo.heap.size, 0, none⟩) 3 3)).below (w' := (wo.setCell ⟨w.heap.size, r, none⟩ (.slice (some ⟨wo.heap.size, 0, none⟩) 3 3)).alloc (.cells csf 36 (0, 0))) belA)
   clear hBn
   go_loopw [13] (fun iv wr => ∃ c : Nat, iv = .int .i64 (c : Int) ∧ c ≤ 3 ∧ Hid (Fill wr wo.heap.size 36 3 c (FrC fun i => Fr.of (E r i))) ∧ Hid (Box wr w.heap.size (arrM.setIfInBounds r (.slice (some ⟨wo.heap.size, 0, none⟩) 3 3)) 56) ∧ Hid (Near wo wr w.heap.size)) (fun iv _ => 3 - (intOf iv).toNat)
   case atStart => exact ⟨0, rfl, by omega, HF, HB, HN⟩
   case round =>
    clear HF HB HN
    obtain ⟨c, rfl, hcn, HF, HB, HN⟩ := hrel
    rcases Nat.lt_or_ge c 3 with hcl | hcl
    ·have hcl2 : (c : Int) < 3 := by omega
     have hbv : Below w.heap.size w wr := HN.out.toBelow hb (Nat.le_refl _)
     have hk36 : m * 9 + r * 3 + c < 36 := by omega
     have cg := (HC.out.later hbv).cell hk36
     have ck := (HK.out.later hbv).cell
     have lkr := Nat.lt_of_lt_of_le lk hbv.size
     have l0r := Nat.lt_of_lt_of_le l0 hbv.size
     have cM := HB.out.cell r
     rw [Array.getElem?_setIfInBounds, if_pos rfl, if_pos hrs] at cM
     have lMr := HB.out.lt
     have hok := coneQ_ok m hm r hlt c hcl
     have hqe : coneQ m r c = E r c := by rw [EE.out]
     have hqd : coneQ m r c = ((conesL.getD (m * 9 + r * 3 + c) 0 : Int) : Rat) / ((100000 : Int) : Rat) := rfl
     have hsm := conesL_small _ hk36
     rw [hqe] at hok hqd
     generalize conesL.getD (m * 9 + r * 3 + c) 0 = z at *
     obtain ⟨q, EQ⟩ : ∃ x : Rat, Hid (E r c = x) := ⟨_, Lib.hid rfl⟩
     rw [EQ.out] at hok hqd
     have HOF : Hid (Fr.res (ofF z 100000) = .tuple #[.agg #[.string (Fr.of q).n, .string (Fr.of q).d], .int .i64 0]) := Lib.hid (by
      unfold ofF Fra.wr
      rw [if_neg (by decide), ← hqd, if_pos hok]
      rfl)
     obtain ⟨s1, Es1⟩ : ∃ x : ByteArray, Hid ((Fr.of q).n = x) := ⟨_, Lib.hid rfl⟩
     obtain ⟨s2, Es2⟩ : ∃ x : ByteArray, Hid ((Fr.of q).d = x) := ⟨_, Lib.hid rfl⟩
     rw [Es1.out, Es2.out] at HOF
     have HPW := Lib.hid (HT.out.later hbv)
     have HS1 := Lib.hid hsm.1
     have HS2 := Lib.hid hsm.2
     have lG := HF.out.lt
     have hm2 : (m : Int) < 4 := by omega
     have hwm : IntKind.i64.wrap (m : Int) = (m : Int) := by rw [IntKind.wrap_i64]; omega
     clear hok hqe hqd hsm
     go_wp2_with fail
     refine wp_region_walk [(.pure, 0), (.pure, 1), (.pure, 2), (.read, 3), (.pure, 4), (.read, 5), (.pure, 6), (.pure, 7), (.pure, 8), (.pure, 9), (.pure, 10), (.pure, 11), (.read, 12), (.ext, 13), (.pure, 14), (.pure, 15), (.ext, 16), (.pure, 17), (.fin, 18)] (by kernel_rfl) (by kernel_rfl) (allocRuns_of (by kernel_rfl)) (fun _ _ _ _ hd h => And.intro (hd.trans (And.left h)) (And.right h)) ?_
     repeat (first | (refine walk_pure0 rfl rfl (fun J hJ => ?_); go_simp; refine hJ _ ?_; clear hJ J) | (refine walk_load rfl rfl rfl rfl (fun J hJ => ?_); go_simp; refine hJ _ ?_; clear hJ J; try go_simp))
     refine walk_ext rfl rfl (fun w2 hb2 J hJ => ?_); go_simp
     have hb2' : Below wr.heap.size wr w2 := belA
     refine ((frac.Of_ok z 100000 (by have := HS1.out; omega) (by have := HS2.out; omega) (by omega) (by omega) w2 (HPW.out.later hb2')).mono (by rw [HOF.out]; exact fun _ _ h => h)).mono ?_
     rintro e w3 ⟨rfl, hb3⟩
     refine hJ _ _ hb3 ?_
     clear hJ J
     repeat (first | (refine walk_pure0 rfl rfl (fun J hJ => ?_); go_simp; refine hJ _ ?_; clear hJ J) | (refine walk_load rfl rfl rfl rfl (fun J hJ => ?_); go_simp; refine hJ _ ?_; clear hJ J; try go_simp))
     refine walk_ext rfl rfl (fun w4 hb4 J hJ => ?_); go_simp
     refine (needF_no ⟨s1, s2⟩ w4).mono ?_
     unfold Fr.v
     rintro e w5 ⟨rfl, hb5⟩
     refine hJ _ _ hb5 ?_
     clear hJ J
     repeat (first | (refine walk_pure0 rfl rfl (fun J hJ => ?_); go_simp; refine hJ _ ?_; clear hJ J) | (refine walk_load rfl rfl rfl rfl (fun J hJ => ?_); go_simp; refine hJ _ ?_; clear hJ J; try go_simp))
     refine walk_fin [_] rfl (fun w6 hb6 => ?_)
     have hx6 : Below wr.heap.size wr w6 := belA
     replace HF := Lib.hid (HF.out.laterF hx6)
     replace HB := Lib.hid (HB.out.later hx6)
     replace HN := Lib.hid (HN.out.below hx6)
     obtain ⟨⟨y1, cy1⟩, ⟨y2, cy2⟩, fy⟩ := HF.out.cells hcl
     have lG6 := HF.out.lt
     clear hb6 hx6 cM lMr cg ck
     go_wp2_with fail
     go_roundw
     case rel =>
      refine ⟨c + 1, by go_num, by omega, Lib.hid (HF.out.step hcl (fun _ _ _ h => h) ⟨?_, ?_⟩), Lib.hid ((HB.out.setOther _ hMG).setOther _ hMG), Lib.hid ((HN.out.setNew (Nat.le_refl _) _ _).setNew (Nat.le_refl _) _ _)⟩
      ·show Value.string s1 = .string (Fr.of (E r c)).n
       rw [EQ.out, Es1.out]
      ·show Value.string s2 = .string (Fr.of (E r c)).d
       rw [EQ.out, Es2.out]
     case measure => simp [intOf]; omega
    ·have hcn2 : c = 3 := by omega
     subst hcn2
     go_wp2_with fail
     go_roundw
     case rel =>
      have hbv : Below w.heap.size w wr := HN.out.toBelow hb (Nat.le_refl _)
      refine ⟨r + 1, by go_num, by omega, Lib.hid (HM.out.step (v := .slice (some ⟨wo.heap.size, 0, none⟩) 3 3) hlt HN.out (fun arr hA => ?_) ?_), hbv⟩
      ·have hAM : arr = arrM := Fra.Box.uniq hA HBM.out
       rw [hAM]
       exact HB.out
      ·refine Fill.frs (HF.out.congrF fun i hi => ?_) (by simp) (by omega)
       have hc3 : i = 0 ∨ i = 1 ∨ i = 2 := by omega
       rcases hc3 with rfl | rfl | rfl <;> rfl
     case measure => simp [intOf]; omega
  ·have hrn : r = 3 := by omega
   subst hrn
   have hmv : MatV wo (.slice (some ⟨w.heap.size, 0, none⟩) 3 3) (coneR m).fr := by
    have : MatV wo (.slice (some ⟨w.heap.size, 0, none⟩) (coneR m).fr.length (coneR m).fr.length) (coneR m).fr := by
     refine MFill.matV ?_ (by show 3 ≤ 1000000; omega)
     obtain ⟨arr, k1, k2, k3⟩ := HM.out
     refine ⟨arr, k1, k2, fun i hi => ?_⟩
     have hi3 : i < 3 := hi
     obtain ⟨v, g1, g2⟩ := k3 i hi3
     refine ⟨v, g1, ?_⟩
     rw [← EE.out] at g2
     have hc3 : i = 0 ∨ i = 1 ∨ i = 2 := by omega
     rcases hc3 with rfl | rfl | rfl <;> exact g2
    exact this
   have HMV := Lib.hid hmv
   clear hmv
   go_wp2_with fail
   go_ret
   exact TryPost.yes hb HMV.out
def coneE (k : Int) : Int := if k < 1 ∨ 4 < k then 2 else 0
set_option maxRecDepth 10000 in
set_option maxHeartbeats 1000000 in
theorem Cone_arg (k : Int) (h : k < 1 ∨ 4 < k) (m : List (List Fr)) (w : World) :
  Calls Tryz.prog 30 #[.int .i64 k] w (MatPost w 2 m) := by
 rcases h with h | h
 ·have q1 : decide (k < 1) = true := by simp; omega
  clear h
  go_enter Tryz.func30, Tryz.ntmps30
  go_wp2_with fail
  go_ret2
  exact MatPost.no belA (by decide)
 ·have q1 : decide (k < 1) = false := by simp; omega
  have q2 : decide (4 < k) = true := by simp; omega
  clear h
  go_enter Tryz.func30, Tryz.ntmps30
  go_wp2_with fail
  go_ret2
  exact MatPost.no belA (by decide)
set_option maxRecDepth 10000 in
set_option maxHeartbeats 1000000 in
theorem Cone_main (m : Nat) (hm : m < 4) (w : World) (ht : Bld.Pow w) (hc : Cones w) :
  Calls Tryz.prog 30 #[.int .i64 ((m : Int) + 1)] w (MatPost w 0 (coneR m).fr) := by
 have hmf : ∀ (fn : Fn) (first cap : Array Value) (w : World), (Instr.makeFunc fn first cap).run Tryz.prog w = .ok (.func fn first cap) w := fun _ _ _ _ => rfl
 have q1 : decide ((m : Int) + 1 < 1) = false := by simp; omega
 have q2 : decide ((4 : Int) < (m : Int) + 1) = false := by simp; omega
 have hb0 : Below w.heap.size w (w.alloc (.cells #[.int .i64 ((m : Int) + 1)] 3)) := belA
 have hk0 := Box.new w #[.int .i64 ((m : Int) + 1)] 3
 have HAT : Hid (Calls Tryz.prog 34 #[.func (.func 73) #[] #[.pointer (some ⟨w.heap.size, 0, none⟩)]] (w.alloc (.cells #[.int .i64 ((m : Int) + 1)] 3)) (MatPost (w.alloc (.cells #[.int .i64 ((m : Int) + 1)] 3)) 0 (coneR m).fr)) := Lib.hid
  (attemptM_ok 73 #[.pointer (some ⟨w.heap.size, 0, none⟩)] 0 (coneR m).fr _ (fun W hW => cone1_ok w.heap.size m hm W (hk0.later hW) ((ht.later hb0).later hW) ((hc.later hb0).later hW)) (fun args W => enters_of Tryz.func73 (by kernel_rfl) rfl args W))
 clear hk0 ht hc
 go_enter Tryz.func30, Tryz.ntmps30
 go_wp2_with fail
 refine HAT.out.mono ?_
 rintro e w1 ⟨hb1, v, rfl, hy, -⟩
 obtain ⟨rs, hR, -⟩ := id (hy rfl)
 obtain ⟨a, cap, rfl, -⟩ := hR
 have HV := Lib.hid (hy rfl)
 clear hy HAT
 go_wp2_with fail
 go_ret2
 exact MatPost.yes (Bt hb0 hb1) HV.out
theorem Cone_ok (k : Int) (w : World) (ht : Bld.Pow w) (hc : Cones w) :
  Calls Tryz.prog 30 #[.int .i64 k] w (MatPost w (coneE k) (coneR (k - 1).toNat).fr) := by
 unfold coneE
 by_cases h : k < 1 ∨ 4 < k
 ·rw [if_pos h]
  exact Cone_arg k h _ w
 ·rw [if_neg h]
  have := Cone_main (k - 1).toNat (by omega) w ht hc
  have e : (((k - 1).toNat : Nat) : Int) + 1 = k := by omega
  rw [e] at this
  exact this
end Go.Proofs.adapt
namespace Go.Proofs.adapt
open Go Go.RowKit Go.SW Go.Num Go.Mem Go.Proofs Go.Dec Go.Fra
/-- Three fractions by their numbers. -/
def tri3 (f : Nat → Rat) : light.Tri := ⟨Fr.of (f 0), Fr.of (f 1), Fr.of (f 2)⟩
def list3 (f : Nat → Rat) : List Rat := [f 0, f 1, f 2]
def seenQ (m : matrix.RM) (f : Nat → Rat) (i : Nat) : Rat := dotQ (m.getD i []) (list3 f)
def all3 (f : Nat → Rat) : Bool := okq (f 0) && okq (f 1) && okq (f 2)
/-- What 'copy' lays. -/
theorem Frs.cells {w : World} {T : TypeId} {a : Option Addr} {n c : Nat} {l : List Fr} (h : Frs w T (.slice a n c) l) (h0 : 0 < l.length) :
  n = l.length ∧ ∃ b off, a = some ⟨b, off, none⟩ ∧ b < w.heap.size ∧ ∀ i (h : i < l.length), w.cell? ⟨b, off + i * 2, none⟩ = some (.string l[i].n) ∧ w.cell? ⟨b, off + i * 2 + 1, none⟩ = some (.string l[i].d) := by
 obtain ⟨a', c', e, -, -, h2⟩ := h.read
 simp only [Value.slice.injEq] at e
 obtain ⟨rfl, rfl, rfl⟩ := e
 obtain ⟨b, off, rfl, k1, -⟩ := h2 0 h0
 refine ⟨rfl, b, off, rfl, k1, fun i hi => ?_⟩
 obtain ⟨b', off', e, -, k2, k3⟩ := h2 i hi
 simp only [Option.some.injEq, Addr.mk.injEq, and_true] at e
 obtain ⟨rfl, rfl⟩ := e
 exact ⟨k2, k3⟩
set_option maxRecDepth 100000 in
set_option maxHeartbeats 2000000 in
theorem seen_ok (va : Value) (m : matrix.RM) (f : Nat → Rat) (w : World) (h : MatV w va m.fr) (hm : m.ok 3) (h3 : m.length = 3) (hf : all3 f = true) (ht : Bld.Pow w) :
  Calls Tryz.prog 84 #[va, (tri3 f).v] w (TryPost w (if all3 (seenQ m f) then 0 else 6) (fun v _ => v = (tri3 (seenQ m f)).v)) := by
 have hq : ∀ q ∈ list3 f, okq q = true := by
  unfold all3 at hf
  simp only [Bool.and_eq_true] at hf
  intro q hq
  simp only [list3, List.mem_cons, List.not_mem_nil, or_false] at hq
  rcases hq with rfl | rfl | rfl
  ·exact hf.1.1
  ·exact hf.1.2
  ·exact hf.2
 have hap := fun vl (T : TypeId) w' (hb : Below w.heap.size w w') (hl : Frs w' T vl ((list3 f).map Fr.of)) => matrix.apply_main va vl m (list3 f) T w' (h.later hb) hl hm hq (ht.later hb)
 have hml : (m.map fun r => dotQ r (list3 f)) = list3 (seenQ m f) := by
  match m, h3 with
  | [r1, r2, r3], _ => rfl
 rw [hml] at hap
 have hall : (list3 (seenQ m f)).all okq = all3 (seenQ m f) := by
  simp [list3, all3, Bool.and_assoc]
 obtain ⟨g, Eg⟩ : ∃ g : Nat → Rat, Hid (seenQ m f = g) := ⟨_, Lib.hid rfl⟩
 rw [Eg.out] at hap hall ⊢
 obtain ⟨er, HER⟩ : ∃ y : Int, Hid ((if all3 g then 0 else 6) = y) := ⟨_, Lib.hid rfl⟩
 rw [HER.out]
 have HAP := Lib.hid hap
 have HALL := Lib.hid hall
 obtain ⟨rs, hR, -⟩ := id h
 obtain ⟨a, cap, rfl, -⟩ := hR
 have hl3 : m.fr.length = 3 := by unfold matrix.RM.fr; rw [List.length_map, h3]
 obtain ⟨n0, hn0⟩ : ∃ n0, rs.length = n0 := ⟨_, rfl⟩
 rw [hn0] at HAP ⊢
 have HL3 : Hid (((list3 f).map Fr.of) = [Fr.of (f 0), Fr.of (f 1), Fr.of (f 2)]) := Lib.hid rfl
 obtain ⟨⟨a1, a2⟩, E1⟩ : ∃ x : Fr, Hid (Fr.of (f 0) = x) := ⟨_, Lib.hid rfl⟩
 obtain ⟨⟨a3, a4⟩, E2⟩ : ∃ x : Fr, Hid (Fr.of (f 1) = x) := ⟨_, Lib.hid rfl⟩
 obtain ⟨⟨a5, a6⟩, E3⟩ : ∃ x : Fr, Hid (Fr.of (f 2) = x) := ⟨_, Lib.hid rfl⟩
 have ev : (tri3 f).v = .agg #[.string a1, .string a2, .string a3, .string a4, .string a5, .string a6] := by
  unfold tri3
  rw [E1.out, E2.out, E3.out]
  rfl
 rw [E1.out, E2.out, E3.out] at HL3
 rw [HL3.out] at HAP
 rw [ev]
 clear h hm h3 hf ht hq hap hml hall ev hl3 hn0 E1 E2 E3
 go_enter Tryz.func84, Tryz.ntmps84
 go_wp2_with fail
 obtain ⟨w0, Ew0⟩ : ∃ y, ((w.alloc (.cells #[.string a1, .string a2, .string a3, .string a4, .string a5, .string a6] 38)).alloc (.cells #[.string ⟨#[]⟩, .string ⟨#[]⟩, .string ⟨#[]⟩, .string ⟨#[]⟩, .string ⟨#[]⟩, .string ⟨#[]⟩] 137)).alloc (.cells #[.string ⟨#[]⟩, .string ⟨#[]⟩, .string ⟨#[]⟩, .string ⟨#[]⟩, .string ⟨#[]⟩, .string ⟨#[]⟩] 137) = y := ⟨_, rfl⟩
 have hb0 : Below w.heap.size w w0 := by rw [← Ew0]; exact belA
 have hx0 : Box w0 w.heap.size #[.string a1, .string a2, .string a3, .string a4, .string a5, .string a6] 38 := by rw [← Ew0]; exact boxA
 have hx1 : Box w0 (w.heap.size + 1) #[.string ⟨#[]⟩, .string ⟨#[]⟩, .string ⟨#[]⟩, .string ⟨#[]⟩, .string ⟨#[]⟩, .string ⟨#[]⟩] 137 := by rw [← Ew0]; exact boxA
 have hx2 : Box w0 (w.heap.size + 1 + 1) #[.string ⟨#[]⟩, .string ⟨#[]⟩, .string ⟨#[]⟩, .string ⟨#[]⟩, .string ⟨#[]⟩, .string ⟨#[]⟩] 137 := by rw [← Ew0]; exact boxA
 rw [Ew0]
 clear Ew0
 refine wp_region_walk [(.pure, 0), (.pure, 1), (.pure, 2), (.pure, 3), (.ext, 4), (.pure, 5), (.pure, 6), (.ext, 7), (.fin, 8)] (by kernel_rfl) (by kernel_rfl) (allocRuns_of (by kernel_rfl)) (fun _ _ _ _ hd h => And.intro (hd.trans (And.left h)) (And.right h)) ?_
 repeat (first | (refine walk_pure0 rfl rfl (fun J hJ => ?_); go_simp; refine hJ _ ?_; clear hJ J) | (refine walk_load rfl rfl rfl rfl (fun J hJ => ?_); go_simp; refine hJ _ ?_; clear hJ J; try go_simp))
 refine walk_ext rfl rfl (fun w1 hb1 J hJ => ?_); go_simp
 have h01 : Below w0.heap.size w0 w1 := belA
 refine (HAP.out _ 38 w1 (Bt hb0 h01) (light.Tri.frs (t := ⟨⟨a1, a2⟩, ⟨a3, a4⟩, ⟨a5, a6⟩⟩) (hx0.later h01))).mono ?_
 rintro e w2 (⟨hy, vo, rfl, hb2, hfr⟩ | ⟨hy, rfl, hb2⟩)
 ·rw [HALL.out] at hy
  refine hJ _ _ hb2 ?_
  clear hJ J
  obtain ⟨⟨s1, s2⟩, E1⟩ : ∃ x : Fr, Hid (Fr.of (g 0) = x) := ⟨_, Lib.hid rfl⟩
  obtain ⟨⟨s3, s4⟩, E2⟩ : ∃ x : Fr, Hid (Fr.of (g 1) = x) := ⟨_, Lib.hid rfl⟩
  obtain ⟨⟨s5, s6⟩, E3⟩ : ∃ x : Fr, Hid (Fr.of (g 2) = x) := ⟨_, Lib.hid rfl⟩
  have hl : (list3 g).map Fr.of = [⟨s1, s2⟩, ⟨s3, s4⟩, ⟨s5, s6⟩] := by
   show [Fr.of (g 0), Fr.of (g 1), Fr.of (g 2)] = _
   rw [E1.out, E2.out, E3.out]
  have hv : (tri3 g).v = .agg #[.string s1, .string s2, .string s3, .string s4, .string s5, .string s6] := by
   unfold tri3
   rw [E1.out, E2.out, E3.out]
   rfl
  rw [hl] at hfr
  have HVV := Lib.hid hv
  have HE0 : Hid (er = 0) := Lib.hid (by rw [← HER.out, hy]; rfl)
  obtain ⟨ao, co, rfl, -⟩ := hfr.read
  obtain ⟨-, b, off, rfl, lb, hcell⟩ := Frs.cells hfr (by simp)
  have hc0 := hcell 0 (by simp)
  have hc1 := hcell 1 (by simp)
  have hc2 := hcell 2 (by simp)
  simp only [List.getElem_cons_zero, List.getElem_cons_succ, Nat.zero_mul, Nat.add_zero] at hc0 hc1 hc2
  clear hl hv hfr hcell hy
  repeat (first | (refine walk_pure0 rfl rfl (fun J hJ => ?_); go_simp; refine hJ _ ?_; clear hJ J) | (refine walk_load rfl rfl rfl rfl (fun J hJ => ?_); go_simp; refine hJ _ ?_; clear hJ J; try go_simp))
  refine walk_ext rfl rfl (fun w3 hb3 J hJ => ?_); go_simp
  refine (needL_no _ _ _ w3).mono ?_
  rintro e w4 ⟨rfl, rfl⟩
  refine hJ _ _ (Below.refl _ _) ?_
  clear hJ J
  refine walk_fin [_] rfl (fun w5 hb5 => ?_)
  have h25 : Below w2.heap.size w2 w5 := belA
  have h05 : Below w0.heap.size w0 w5 := Bt (Bt h01 hb2) h25
  have k1 := (h25.cell (p := ⟨b, off, none⟩) lb).trans hc0.1
  have k2 := (h25.cell (p := ⟨b, off + 1, none⟩) lb).trans hc0.2
  have k3 := (h25.cell (p := ⟨b, off + 1 * 2, none⟩) lb).trans hc1.1
  have k4 := (h25.cell (p := ⟨b, off + 1 * 2 + 1, none⟩) lb).trans hc1.2
  have k5 := (h25.cell (p := ⟨b, off + 2 * 2, none⟩) lb).trans hc2.1
  have k6 := (h25.cell (p := ⟨b, off + 2 * 2 + 1, none⟩) lb).trans hc2.2
  have hy2 := hx2.later h05
  have hcp : ∀ ty, (Builtin.copy_ #[56, 56] ty #[.slice (some ⟨w.heap.size + 1 + 1, 0, none⟩) 3 3, .slice (some ⟨b, off, none⟩) 3 co]).run Tryz.prog w5 = .ok (goInt 3) (w5.setRow (w.heap.size + 1 + 1) #[.string s1, .string s2, .string s3, .string s4, .string s5, .string s6]) := fun ty => by
   obtain ⟨i0, hi, hz0, hz1, hz2⟩ := info_parts matrix.infoFr
   exact matrix.run_copy_elems Tryz.prog w5 56 56 ty 36 (w.heap.size + 1 + 1) 0 3 3 2 ⟨b, off, none⟩ 3 co #[.string ⟨#[]⟩, .string ⟨#[]⟩, .string ⟨#[]⟩, .string ⟨#[]⟩, .string ⟨#[]⟩, .string ⟨#[]⟩] 137 [.string s1, .string s2, .string s3, .string s4, .string s5, .string s6] Tryz.underlying56 (by rw [hi]; simp [hz1]) hy2 rfl (fun j v hv => by
    rw [Addr.add_lit]
    match j, hv with
    | 0, hv => cases hv; exact k1
    | 1, hv => cases hv; exact k2
    | 2, hv => cases hv; exact k3
    | 3, hv => cases hv; exact k4
    | 4, hv => cases hv; exact k5
    | 5, hv => cases hv; exact k6) (by simp) (by intro v hv; simp at hv; rcases hv with rfl | rfl | rfl | rfl | rfl | rfl <;> rfl)
  obtain ⟨w6, Ew6⟩ : ∃ y, w5.setRow (w.heap.size + 1 + 1) #[.string s1, .string s2, .string s3, .string s4, .string s5, .string s6] = y := ⟨_, rfl⟩
  have hz2 : Box w6 (w.heap.size + 1 + 1) #[.string s1, .string s2, .string s3, .string s4, .string s5, .string s6] 137 := by rw [← Ew6]; exact setRow_heap _ _ _ _ _ _ hy2
  have hw6 : Below w.heap.size w w6 := by rw [← Ew6]; exact below_setRow (Bt hb0 h05) (by omega) _
  have hz1 : Box w6 (w.heap.size + 1) #[.string ⟨#[]⟩, .string ⟨#[]⟩, .string ⟨#[]⟩, .string ⟨#[]⟩, .string ⟨#[]⟩, .string ⟨#[]⟩] 137 := by
   rw [← Ew6]
   have := hx1.later h05
   unfold Box at *
   rw [setRow_other _ _ _ _ (by omega)]
   exact this
  rw [Ew6] at hcp
  have c2 := hz2.cell
  have c1 := hz1.cell
  have f1 := hz1.free
  have HZ2 := Lib.hid hz2
  clear k1 k2 k3 k4 k5 k6 hc0 hc1 hc2 hy2 Ew6 hx0 hx1 hx2 hb0 hb1 h01 hb2 hb3 hb5 h25 h05 hz2
  go_wp2_with fail
  refine ret_c rfl rfl ((((((hz1.set 0 _).set 1 _).set 2 _).set 3 _).set 4 _).set 5 _) Tryz.underlying137 rfl (by kernel_rfl) ?_
  rw [HE0.out]
  exact TryPost.yes belA (by rw [HVV.out]; rfl)
 ·rw [HALL.out] at hy
  have HVE : Hid (er = 6) := Lib.hid (by rw [← HER.out, hy]; rfl)
  refine hJ _ _ hb2 ?_
  clear hJ J hy
  repeat (first | (refine walk_pure0 rfl rfl (fun J hJ => ?_); go_simp; refine hJ _ ?_; clear hJ J) | (refine walk_load rfl rfl rfl rfl (fun J hJ => ?_); go_simp; refine hJ _ ?_; clear hJ J; try go_simp))
  refine walk_ext rfl rfl (fun w3 hb3 J hJ => ?_); go_simp
  refine (needL_yes _ _ _ 6 (by decide) w3).mono ?_
  rintro e w4 ⟨rfl, rfl⟩
  exact ⟨rfl, by rw [HVE.out]; exact TryPost.no (Bt (Bt (Bt hb0 h01) hb2) belA) (by decide)⟩
def zero3 (g : Nat → Rat) : Bool := decide (g 0 = 0) || decide (g 1 = 0) || decide (g 2 = 0)
theorem sgnF_of {q : Rat} (h : okq q = true) : sgnF (Fr.of q) = (cmpq q 0, 0) := by unfold sgnF; rw [rd_of h]
theorem cmpq_zero {q : Rat} : cmpq q 0 = 0 ↔ q = 0 := by
 unfold cmpq
 constructor
 ·intro h
  by_cases h1 : q < 0
  ·rw [if_pos h1] at h; cases h
  ·rw [if_neg h1] at h
   by_cases h2 : 0 < q
   ·rw [if_pos h2] at h; cases h
   ·grind
 ·intro h
  subst h
  rfl
theorem indexR0 (a b c d e f : ByteArray) (w : World) : (Instr.index 135 (.agg #[.string a, .string b, .string c, .string d, .string e, .string f]) (.int .i64 0)).run Tryz.prog w = .ok (.agg #[.string a, .string b]) w := by kernel_rfl
theorem indexR1 (a b c d e f : ByteArray) (w : World) : (Instr.index 135 (.agg #[.string a, .string b, .string c, .string d, .string e, .string f]) (.int .i64 1)).run Tryz.prog w = .ok (.agg #[.string c, .string d]) w := by kernel_rfl
theorem indexR2 (a b c d e f : ByteArray) (w : World) : (Instr.index 135 (.agg #[.string a, .string b, .string c, .string d, .string e, .string f]) (.int .i64 2)).run Tryz.prog w = .ok (.agg #[.string e, .string f]) w := by kernel_rfl
set_option maxRecDepth 10000 in
set_option maxHeartbeats 2000000 in
theorem anyZero_ok (g : Nat → Rat) (hg : all3 g = true) (w : World) :
  Calls Tryz.prog 85 #[(tri3 g).v] w (fun e w' => e = .returned (.bool (zero3 g)) ∧ Below w.heap.size w w') := by
 unfold all3 at hg
 simp only [Bool.and_eq_true] at hg
 have HS : Hid (∀ k, k < 3 → ∀ w, Calls Tryz.prog 83 #[(Fr.of (g k)).v] w (fun e w' => e = .returned (.tuple #[.int .i64 (cmpq (g k) 0), .int .i64 0]) ∧ Below w.heap.size w w')) := Lib.hid fun k hk w => by
  have hq : okq (g k) = true := by
   have : k = 0 ∨ k = 1 ∨ k = 2 := by omega
   rcases this with rfl | rfl | rfl
   ·exact hg.1.1
   ·exact hg.1.2
   ·exact hg.2
  have := frac.Sign_ok (Fr.of (g k)) w
  rw [sgnF_of hq] at this
  exact this
 obtain ⟨b, Eb⟩ : ∃ b, Hid (zero3 g = b) := ⟨_, Lib.hid rfl⟩
 rw [Eb.out]
 obtain ⟨⟨a1, a2⟩, E1⟩ : ∃ x : Fr, Hid (Fr.of (g 0) = x) := ⟨_, Lib.hid rfl⟩
 obtain ⟨⟨a3, a4⟩, E2⟩ : ∃ x : Fr, Hid (Fr.of (g 1) = x) := ⟨_, Lib.hid rfl⟩
 obtain ⟨⟨a5, a6⟩, E3⟩ : ∃ x : Fr, Hid (Fr.of (g 2) = x) := ⟨_, Lib.hid rfl⟩
 have ev : (tri3 g).v = .agg #[.string a1, .string a2, .string a3, .string a4, .string a5, .string a6] := by
  unfold tri3
  rw [E1.out, E2.out, E3.out]
  rfl
 rw [ev]
 have hi0 := indexR0 a1 a2 a3 a4 a5 a6
 have hi1 := indexR1 a1 a2 a3 a4 a5 a6
 have hi2 := indexR2 a1 a2 a3 a4 a5 a6
 clear hg ev
 go_enter Tryz.func85, Tryz.ntmps85
 go_wp2_with fail
 go_loopw [6] (fun iv wr => ∃ k : Nat, iv = .int .i64 (k : Int) ∧ k ≤ 3 ∧ Hid (∀ j, j < k → g j ≠ 0) ∧ Below w.heap.size w wr) (fun iv _ => 3 - (intOf iv).toNat)
 case atStart => exact ⟨0, rfl, by omega, Lib.hid (fun j h => by omega), belA⟩
 case round =>
  obtain ⟨k, rfl, hk, HZ, hb⟩ := hrel
  rcases Nat.lt_or_ge k 3 with hlt | hge
  ·have hk3 : k = 0 ∨ k = 1 ∨ k = 2 := by omega
   rcases hk3 with rfl | rfl | rfl
   ·have hs := HS.out 0 (by omega)
    rw [E1.out] at hs
    unfold Fr.v at hs
    simp only at hs
    have HSK := Lib.hid hs
    clear hs
    by_cases hz : g 0 = 0
    ·have hc : cmpq (g 0) 0 = 0 := cmpq_zero.2 hz
     rw [hc] at HSK
     have hf : b = true := by
      rw [← Eb.out]
      unfold zero3
      simp [hz]
     have HB := Lib.hid hf
     clear hf hz hc
     go_wp2_with fail
     refine (HSK.out _).mono ?_
     rintro e w2 ⟨rfl, hb2⟩
     go_wp2_with fail
     refine (needI_no _ _).mono ?_
     rintro e w3 ⟨rfl, rfl⟩
     go_wp2_with fail
     go_ret
     exact ⟨by rw [HB.out]; rfl, Bt (Below_alloc hb _) hb2⟩
    ·have hc : ¬ cmpq (g 0) 0 = 0 := fun e => hz (cmpq_zero.1 e)
     have HNZ := Lib.hid hz
     generalize cmpq (g 0) 0 = s at *
     have hc2 : (s == 0) = false := by simp [hc]
     clear hz hc
     go_wp2_with fail
     refine (HSK.out _).mono ?_
     rintro e w2 ⟨rfl, hb2⟩
     go_wp2_with fail
     refine (needI_no _ _).mono ?_
     rintro e w3 ⟨rfl, rfl⟩
     go_wp2_with fail
     go_roundw
     case rel =>
      refine ⟨0 + 1, by go_num, by omega, Lib.hid fun j hj => ?_, Bt (Below_alloc hb _) hb2⟩
      rcases Nat.lt_or_ge j 0 with h | h
      ·exact HZ.out j h
      ·obtain rfl : j = 0 := by omega
       exact HNZ.out
     case measure => simp [intOf]
   ·have hs := HS.out 1 (by omega)
    rw [E2.out] at hs
    unfold Fr.v at hs
    simp only at hs
    have HSK := Lib.hid hs
    clear hs
    by_cases hz : g 1 = 0
    ·have hc : cmpq (g 1) 0 = 0 := cmpq_zero.2 hz
     rw [hc] at HSK
     have hf : b = true := by
      rw [← Eb.out]
      unfold zero3
      simp [hz]
     have HB := Lib.hid hf
     clear hf hz hc
     go_wp2_with fail
     refine (HSK.out _).mono ?_
     rintro e w2 ⟨rfl, hb2⟩
     go_wp2_with fail
     refine (needI_no _ _).mono ?_
     rintro e w3 ⟨rfl, rfl⟩
     go_wp2_with fail
     go_ret
     exact ⟨by rw [HB.out]; rfl, Bt (Below_alloc hb _) hb2⟩
    ·have hc : ¬ cmpq (g 1) 0 = 0 := fun e => hz (cmpq_zero.1 e)
     have HNZ := Lib.hid hz
     generalize cmpq (g 1) 0 = s at *
     have hc2 : (s == 0) = false := by simp [hc]
     clear hz hc
     go_wp2_with fail
     refine (HSK.out _).mono ?_
     rintro e w2 ⟨rfl, hb2⟩
     go_wp2_with fail
     refine (needI_no _ _).mono ?_
     rintro e w3 ⟨rfl, rfl⟩
     go_wp2_with fail
     go_roundw
     case rel =>
      refine ⟨1 + 1, by go_num, by omega, Lib.hid fun j hj => ?_, Bt (Below_alloc hb _) hb2⟩
      rcases Nat.lt_or_ge j 1 with h | h
      ·exact HZ.out j h
      ·obtain rfl : j = 1 := by omega
       exact HNZ.out
     case measure => simp [intOf]
   ·have hs := HS.out 2 (by omega)
    rw [E3.out] at hs
    unfold Fr.v at hs
    simp only at hs
    have HSK := Lib.hid hs
    clear hs
    by_cases hz : g 2 = 0
    ·have hc : cmpq (g 2) 0 = 0 := cmpq_zero.2 hz
     rw [hc] at HSK
     have hf : b = true := by
      rw [← Eb.out]
      unfold zero3
      simp [hz]
     have HB := Lib.hid hf
     clear hf hz hc
     go_wp2_with fail
     refine (HSK.out _).mono ?_
     rintro e w2 ⟨rfl, hb2⟩
     go_wp2_with fail
     refine (needI_no _ _).mono ?_
     rintro e w3 ⟨rfl, rfl⟩
     go_wp2_with fail
     go_ret
     exact ⟨by rw [HB.out]; rfl, Bt (Below_alloc hb _) hb2⟩
    ·have hc : ¬ cmpq (g 2) 0 = 0 := fun e => hz (cmpq_zero.1 e)
     have HNZ := Lib.hid hz
     generalize cmpq (g 2) 0 = s at *
     have hc2 : (s == 0) = false := by simp [hc]
     clear hz hc
     go_wp2_with fail
     refine (HSK.out _).mono ?_
     rintro e w2 ⟨rfl, hb2⟩
     go_wp2_with fail
     refine (needI_no _ _).mono ?_
     rintro e w3 ⟨rfl, rfl⟩
     go_wp2_with fail
     go_roundw
     case rel =>
      refine ⟨2 + 1, by go_num, by omega, Lib.hid fun j hj => ?_, Bt (Below_alloc hb _) hb2⟩
      rcases Nat.lt_or_ge j 2 with h | h
      ·exact HZ.out j h
      ·obtain rfl : j = 2 := by omega
       exact HNZ.out
     case measure => simp [intOf]
  ·have hk3 : k = 3 := by omega
   subst hk3
   have hf : b = false := by
    rw [← Eb.out]
    unfold zero3
    simp [HZ.out 0 (by omega), HZ.out 1 (by omega), HZ.out 2 (by omega)]
   have HB := Lib.hid hf
   clear hf
   go_wp2_with fail
   go_ret
   exact ⟨by rw [HB.out]; rfl, hb⟩
end Go.Proofs.adapt
namespace Go.Proofs.adapt
open Go Go.RowKit Go.SW Go.Num Go.Mem Go.Proofs Go.Dec Go.Fra
def gainQ (d p q : Rat) : Rat := d * (q / p) + (1 - d)
def gainOk (d p q : Rat) : Bool := okq (q / p) && okq (d * (q / p)) && okq (1 - d) && okq (gainQ d p q)
/-- A written fraction: its texts, or that it is too long. -/
theorem wr_cases (q : Rat) : (okq q = true ∧ ∃ s t, Fr.of q = ⟨s, t⟩ ∧ Fr.res (Fra.wr q) = .tuple #[.agg #[.string s, .string t], .int .i64 0]) ∨ (okq q = false ∧ Fr.res (Fra.wr q) = .tuple #[.agg #[.string ⟨#[]⟩, .string ⟨#[]⟩], .int .i64 6]) := by
 cases h : okq q with
 | false => exact .inr ⟨rfl, wr_big h⟩
 | true => exact .inl ⟨rfl, (Fr.of q).n, (Fr.of q).d, rfl, by unfold Fra.wr; rw [if_pos h]; rfl⟩
theorem divF_of {p q : Rat} (hp : okq p = true) (hq : okq q = true) (h0 : q ≠ 0) : divF (Fr.of p) (Fr.of q) = Fra.wr (p / q) := by
 unfold divF
 rw [bin_some (rd_of hp) (rd_of hq), if_neg h0]
theorem mulF_of {p q : Rat} (hp : okq p = true) (hq : okq q = true) : mulF (Fr.of p) (Fr.of q) = Fra.wr (p * q) := bin_some (rd_of hp) (rd_of hq)
theorem addF_of {p q : Rat} (hp : okq p = true) (hq : okq q = true) : addF (Fr.of p) (Fr.of q) = Fra.wr (p + q) := bin_some (rd_of hp) (rd_of hq)
theorem subF_of {p q : Rat} (hp : okq p = true) (hq : okq q = true) : subF (Fr.of p) (Fr.of q) = Fra.wr (p - q) := bin_some (rd_of hp) (rd_of hq)
set_option maxRecDepth 100000 in
set_option maxHeartbeats 2000000 in
theorem gain_ok (bs bf bd bo k : Nat) (g2 g1 : Nat → Rat) (d : Rat) (w : World) (hs : Box w bs (tri3 g2).cells 137) (hf : Box w bf (tri3 g1).cells 137)
  (hd : Box w bd #[.string (Fr.of d).n, .string (Fr.of d).d] 36) (ho : Box w bo #[.string (Fr.of 1).n, .string (Fr.of 1).d] 36)
  (hk : k < 3) (h2 : okq (g2 k) = true) (h1 : okq (g1 k) = true) (h0 : g1 k ≠ 0) (hdk : okq d = true) (ht : Bld.Pow w) :
  Calls Tryz.prog 86 #[.int .i64 (k : Int), .pointer (some ⟨bs, 0, none⟩), .pointer (some ⟨bf, 0, none⟩), .pointer (some ⟨bd, 0, none⟩), .pointer (some ⟨bo, 0, none⟩)] w
   (TryPost w (if gainOk d (g1 k) (g2 k) then 0 else 6) (fun v _ => v = (Fr.of (gainQ d (g1 k) (g2 k))).v)) := by
 have hk3 : k = 0 ∨ k = 1 ∨ k = 2 := by omega
 have c2a : w.cell? ⟨bs, k * 2, none⟩ = some (.string (Fr.of (g2 k)).n) := by rw [hs.cell]; rcases hk3 with rfl | rfl | rfl <;> rfl
 have c2b : w.cell? ⟨bs, k * 2 + 1, none⟩ = some (.string (Fr.of (g2 k)).d) := by rw [hs.cell]; rcases hk3 with rfl | rfl | rfl <;> rfl
 have c1a : w.cell? ⟨bf, k * 2, none⟩ = some (.string (Fr.of (g1 k)).n) := by rw [hf.cell]; rcases hk3 with rfl | rfl | rfl <;> rfl
 have c1b : w.cell? ⟨bf, k * 2 + 1, none⟩ = some (.string (Fr.of (g1 k)).d) := by rw [hf.cell]; rcases hk3 with rfl | rfl | rfl <;> rfl
 have hdiv := fun w' hb => frac.Div_ok (Fr.of (g2 k)) (Fr.of (g1 k)) w' (ht.later hb)
 rw [divF_of h2 h1 h0] at hdiv
 have h11 : okq 1 = true := by decide +kernel
 have hmul := fun (x : Rat) (hx : okq x = true) w' hb => (mulF_of hdk hx) ▸ frac.Mul_ok (Fr.of d) (Fr.of x) w' (ht.later hb)
 have hsub := fun w' hb => frac.Sub_ok (Fr.of 1) (Fr.of d) w' (ht.later hb)
 rw [subF_of h11 hdk] at hsub
 have hadd := fun (x y : Rat) (hx : okq x = true) (hy : okq y = true) w' hb => (addF_of hx hy) ▸ frac.Add_ok (Fr.of x) (Fr.of y) w' (ht.later hb)
 have hg : gainQ d (g1 k) (g2 k) = d * (g2 k / g1 k) + (1 - d) := rfl
 have hgo : gainOk d (g1 k) (g2 k) = (okq (g2 k / g1 k) && okq (d * (g2 k / g1 k)) && okq (1 - d) && okq (d * (g2 k / g1 k) + (1 - d))) := rfl
 rw [hg, hgo]
 generalize g2 k / g1 k = x1 at *
 obtain ⟨⟨s1, s2⟩, E1⟩ : ∃ x : Fr, Hid (Fr.of (g2 k) = x) := ⟨_, Lib.hid rfl⟩
 obtain ⟨⟨t1, t2⟩, E2⟩ : ∃ x : Fr, Hid (Fr.of (g1 k) = x) := ⟨_, Lib.hid rfl⟩
 obtain ⟨⟨d1, d2⟩, E3⟩ : ∃ x : Fr, Hid (Fr.of d = x) := ⟨_, Lib.hid rfl⟩
 obtain ⟨⟨o1, o2⟩, E4⟩ : ∃ x : Fr, Hid (Fr.of 1 = x) := ⟨_, Lib.hid rfl⟩
 rw [E1.out] at c2a c2b hdiv
 rw [E2.out] at c1a c1b hdiv
 rw [E3.out] at hd hmul hsub
 rw [E4.out] at ho hsub
 have l2 := hs.lt
 have l1 := hf.lt
 have cd := hd.cell
 have ld := hd.lt
 have co := ho.cell
 have lo := ho.lt
 have hkk : (k : Int) < 3 := by omega
 have HDIV := Lib.hid hdiv
 have HMUL := Lib.hid hmul
 have HSUB := Lib.hid hsub
 have HADD := Lib.hid hadd
 obtain ⟨er, HER⟩ : ∃ y : Int, Hid ((if (okq x1 && okq (d * x1) && okq (1 - d) && okq (d * x1 + (1 - d))) then 0 else 6) = y) := ⟨_, Lib.hid rfl⟩
 have HDK := Lib.hid hdk
 rw [HER.out]
 clear hs hf hk3 hdiv hmul hsub hadd hg hgo h11 h0 h1 h2 hdk ht
 go_enter Tryz.func86, Tryz.ntmps86
 go_wp2_with fail
 refine wp_region_walk [(.pure, 0), (.pure, 1), (.pure, 2), (.read, 3), (.pure, 4), (.pure, 5), (.pure, 6), (.read, 7), (.ext, 8), (.pure, 9), (.pure, 10), (.ext, 11), (.alloc #[.string ⟨#[]⟩, .string ⟨#[]⟩] 36, 12), (.fin, 13)] (by kernel_rfl) (by kernel_rfl) (allocRuns_of (by kernel_rfl)) (fun _ _ _ _ hd h => And.intro (hd.trans (And.left h)) (And.right h)) ?_
 repeat (first | (refine walk_pure0 rfl rfl (fun J hJ => ?_); go_simp; refine hJ _ ?_; clear hJ J) | (refine walk_load rfl rfl rfl rfl (fun J hJ => ?_); go_simp; refine hJ _ ?_; clear hJ J; try go_simp))
 have hA0 : Below w.heap.size w (w.alloc (.cells #[.string ⟨#[]⟩, .string ⟨#[]⟩] 36)) := belA
 have hr0 := Box.new w #[.string ⟨#[]⟩, .string ⟨#[]⟩] 36
 refine walk_ext rfl rfl (fun w1 hb1 J hJ => ?_); go_simp
 have hr1 := hr0.drew.later hb1
 have h1 : Below w.heap.size w w1 := belA
 refine (HDIV.out w1 h1).mono ?_
 rintro e w2 ⟨rfl, hb2⟩
 refine hJ _ _ hb2 ?_
 clear hJ J
 have h2 : Below w.heap.size w w2 := Bt h1 hb2
 replace hr1 := hr1.later hb2
 rcases wr_cases x1 with ⟨hx1, u1, u2, eu, hres⟩ | ⟨hx1, hres⟩
 rotate_left
 ·have HE6 : Hid (er = 6) := Lib.hid (by rw [← HER.out, hx1]; rfl)
  rw [hres]
  clear hx1
  repeat (first | (refine walk_pure0 rfl rfl (fun J hJ => ?_); go_simp; refine hJ _ ?_; clear hJ J) | (refine walk_load rfl rfl rfl rfl (fun J hJ => ?_); go_simp; refine hJ _ ?_; clear hJ J; try go_simp))
  refine walk_ext rfl rfl (fun w3 hb3 J hJ => ?_); go_simp
  refine (needF_yes Fr.no 6 (by decide) w3).mono ?_
  rintro e w4 ⟨rfl, hb4⟩
  exact ⟨rfl, by rw [HE6.out]; exact TryPost.no (Bt (Bt h2 hb3) hb4) (by decide)⟩
 have HX1 := Lib.hid hx1
 have hmul := HMUL.out x1 hx1
 rw [eu] at hmul
 have HMU := Lib.hid hmul
 rw [hres]
 clear eu hx1 hres hmul HMUL
 repeat (first | (refine walk_pure0 rfl rfl (fun J hJ => ?_); go_simp; refine hJ _ ?_; clear hJ J) | (refine walk_load rfl rfl rfl rfl (fun J hJ => ?_); go_simp; refine hJ _ ?_; clear hJ J; try go_simp))
 refine walk_ext rfl rfl (fun w3 hb3 J hJ => ?_); go_simp
 refine (needF_no ⟨u1, u2⟩ w3).mono ?_
 unfold Fr.v
 rintro e w4 ⟨rfl, hb4⟩
 refine hJ _ _ hb4 ?_
 clear hJ J
 have h24 : Below w2.heap.size w2 w4 := Bt hb3 hb4
 have h4 : Below w.heap.size w w4 := Bt h2 h24
 replace hr1 := hr1.later h24
 repeat (first | (refine walk_pure0 rfl rfl (fun J hJ => ?_); go_simp; refine hJ _ ?_; clear hJ J) | (refine walk_load rfl rfl rfl rfl (fun J hJ => ?_); go_simp; refine hJ _ ?_; clear hJ J; try go_simp))
 refine walk_alloc rfl (fun b12 w5 hw5 hNb12 hltb12 hAb12 hxb12 => ?_); go_simp; replace hxb12 : Box _ _ _ _ := hxb12; have hWb12 : w.heap.size ≤ b12 := (by first | omega | exact Nat.le_trans (Below.size (B := w.heap.size) belA) hNb12)
 refine walk_fin [_] rfl (fun w6 hb6 => ?_)
 replace hxb12 := Box.later (hxb12) hb6; replace chxb12 := hxb12.cell; replace fhxb12 := hxb12.free; replace lhxb12 := hxb12.lt
 have h46 : Below w4.heap.size w4 w6 := belA
 have h6 : Below w.heap.size w w6 := Bt h4 h46
 replace hr1 := hr1.later h46
 have hNe : w.heap.size + 1 ≤ b12 := hNb12
 have hne : w.heap.size ≠ b12 := by omega
 have hd6 := hd.later h6
 have ho6 := ho.later h6
 have cd6 := hd6.cell
 have co6 := ho6.cell
 have ned : bd ≠ b12 := by omega
 have neo : bo ≠ b12 := by omega
 clear hb1 hb2 hb3 hb4 hb6 h1 h2 h24 h46 h4 c2a c2b c1a c1b hNb12
 go_wp2_with fail
 obtain ⟨w7, E7⟩ : ∃ y, (w6.setCell ⟨b12, 0, none⟩ (.string u1)).setCell ⟨b12, 1, none⟩ (.string u2) = y := ⟨_, rfl⟩
 have h7 : Below w.heap.size w w7 := by
  rw [← E7]
  have : w.heap.size ≤ b12 := by omega
  exact (h6.setCell this _).setCell this _
 have hp7 : Box w7 b12 #[.string u1, .string u2] 36 := by rw [← E7]; exact (hxb12.set 0 _).set 1 _
 have hr7 : Box w7 w.heap.size #[.string ⟨#[]⟩, .string ⟨#[]⟩] 36 := by rw [← E7]; exact (hr1.setOther _ hne).setOther _ hne
 have hd7 : Box w7 bd #[.string d1, .string d2] 36 := by rw [← E7]; exact (hd6.setOther _ ned).setOther _ ned
 have ho7 : Box w7 bo #[.string o1, .string o2] 36 := by rw [← E7]; exact (ho6.setOther _ neo).setOther _ neo
 rw [E7]
 clear E7 hd6 ho6 cd6 co6 hxb12 chxb12 fhxb12 lhxb12 hr1 h6 cd co
 refine (HMU.out w7 h7).mono ?_
 rintro e w8 ⟨rfl, hb8⟩
 have h8 : Below w.heap.size w w8 := Bt h7 hb8
 rcases wr_cases (d * x1) with ⟨hx2, v1, v2, eu, hres⟩ | ⟨hx2, hres⟩
 rotate_left
 ·have HE6 : Hid (er = 6) := Lib.hid (by rw [← HER.out, hx2]; simp)
  rw [hres]
  clear hx2
  go_wp2_with fail
  refine (needF_yes Fr.no 6 (by decide) _).mono ?_
  rintro e w9 ⟨rfl, hb9⟩
  exact ⟨rfl, by rw [HE6.out]; exact TryPost.no (Bt h8 hb9) (by decide)⟩
 have hadd := fun y hy => HADD.out (d * x1) y hx2 hy
 rw [eu] at hadd
 have HAD := Lib.hid hadd
 have HX2 := Lib.hid hx2
 rw [hres]
 clear eu hx2 hres hadd HADD
 go_wp2_with fail
 refine (needF_no ⟨v1, v2⟩ _).mono ?_
 unfold Fr.v
 rintro e w9 ⟨rfl, hb9⟩
 have h79 : Below w7.heap.size w7 w9 := Bt hb8 hb9
 have hp9 := hp7.later h79
 have cp9 := hp9.cell
 have fp9 := hp9.free
 have hr9 := hr7.later h79
 have hd9 := hd7.later h79
 have ho9 := ho7.later h79
 have h9 : Below w.heap.size w w9 := Bt h7 h79
 have hge : w.heap.size ≤ b12 := by omega
 clear hp7 hr7 hd7 ho7 h79 hb8 hb9 h8 h7
 go_wp2_with fail
 obtain ⟨wa, Ea⟩ : ∃ y, (w9.setCell ⟨b12, 0, none⟩ (.string v1)).setCell ⟨b12, 1, none⟩ (.string v2) = y := ⟨_, rfl⟩
 have ha : Below w.heap.size w wa := by
  rw [← Ea]
  exact (h9.setCell hge _).setCell hge _
 have hpa : Box wa b12 #[.string v1, .string v2] 36 := by rw [← Ea]; exact (hp9.set 0 _).set 1 _
 have hra : Box wa w.heap.size #[.string ⟨#[]⟩, .string ⟨#[]⟩] 36 := by rw [← Ea]; exact (hr9.setOther _ hne).setOther _ hne
 have hda : Box wa bd #[.string d1, .string d2] 36 := by rw [← Ea]; exact (hd9.setOther _ ned).setOther _ ned
 have hoa : Box wa bo #[.string o1, .string o2] 36 := by rw [← Ea]; exact (ho9.setOther _ neo).setOther _ neo
 rw [Ea]
 have cpa := hpa.cell
 have lpa := hpa.lt
 have cda := hda.cell
 have lda := hda.lt
 have coa := hoa.cell
 have loa := hoa.lt
 clear Ea hp9 cp9 fp9 hr9 hd9 ho9 h9
 refine wp_region_walk [(.read, 0), (.read, 1), (.read, 2), (.ext, 3), (.pure, 4), (.pure, 5), (.ext, 6), (.ext, 7), (.pure, 8), (.pure, 9), (.ext, 10), (.fin, 11)] (by kernel_rfl) (by kernel_rfl) (allocRuns_of (by kernel_rfl)) (fun _ _ _ _ hd h => And.intro (hd.trans (And.left h)) (And.right h)) ?_
 repeat (first | (refine walk_pure0 rfl rfl (fun J hJ => ?_); go_simp; refine hJ _ ?_; clear hJ J) | (refine walk_load rfl rfl rfl rfl (fun J hJ => ?_); go_simp; refine hJ _ ?_; clear hJ J; try go_simp))
 refine walk_ext rfl rfl (fun w1 hb1 J hJ => ?_); go_simp
 have hra1 := hra.drew.later hb1
 have h1 : Below w.heap.size w w1 := belA
 refine (HSUB.out w1 h1).mono ?_
 rintro e w2 ⟨rfl, hb2⟩
 refine hJ _ _ hb2 ?_
 clear hJ J
 have h2 : Below w.heap.size w w2 := Bt h1 hb2
 replace hra1 := hra1.later hb2
 rcases wr_cases (1 - d) with ⟨hx3, p1, p2, eu, hres⟩ | ⟨hx3, hres⟩
 rotate_left
 ·have HE6 : Hid (er = 6) := Lib.hid (by rw [← HER.out, hx3]; simp)
  rw [hres]
  clear hx3
  repeat (first | (refine walk_pure0 rfl rfl (fun J hJ => ?_); go_simp; refine hJ _ ?_; clear hJ J) | (refine walk_load rfl rfl rfl rfl (fun J hJ => ?_); go_simp; refine hJ _ ?_; clear hJ J; try go_simp))
  refine walk_ext rfl rfl (fun w3 hb3 J hJ => ?_); go_simp
  refine (needF_yes Fr.no 6 (by decide) w3).mono ?_
  rintro e w4 ⟨rfl, hb4⟩
  exact ⟨rfl, by rw [HE6.out]; exact TryPost.no (Bt (Bt h2 hb3) hb4) (by decide)⟩
 have hadd := HAD.out (1 - d) hx3
 rw [eu] at hadd
 have HAD2 := Lib.hid hadd
 have HX3 := Lib.hid hx3
 rw [hres]
 clear eu hx3 hres hadd HAD
 repeat (first | (refine walk_pure0 rfl rfl (fun J hJ => ?_); go_simp; refine hJ _ ?_; clear hJ J) | (refine walk_load rfl rfl rfl rfl (fun J hJ => ?_); go_simp; refine hJ _ ?_; clear hJ J; try go_simp))
 refine walk_ext rfl rfl (fun w3 hb3 J hJ => ?_); go_simp
 refine (needF_no ⟨p1, p2⟩ w3).mono ?_
 unfold Fr.v
 rintro e w4 ⟨rfl, hb4⟩
 refine hJ _ _ hb4 ?_
 clear hJ J
 have h4 : Below w.heap.size w w4 := Bt h2 (Bt hb3 hb4)
 replace hra1 := hra1.later (Bt hb3 hb4)
 repeat (first | (refine walk_pure0 rfl rfl (fun J hJ => ?_); go_simp; refine hJ _ ?_; clear hJ J) | (refine walk_load rfl rfl rfl rfl (fun J hJ => ?_); go_simp; refine hJ _ ?_; clear hJ J; try go_simp))
 refine walk_ext rfl rfl (fun w5 hb5 J hJ => ?_); go_simp
 have h5 : Below w.heap.size w w5 := Bt h4 hb5
 refine (HAD2.out w5 h5).mono ?_
 rintro e w6' ⟨rfl, hb6⟩
 refine hJ _ _ hb6 ?_
 clear hJ J
 have h6 : Below w.heap.size w w6' := Bt h5 hb6
 replace hra1 := hra1.later (Bt hb5 hb6)
 rcases wr_cases (d * x1 + (1 - d)) with ⟨hx4, q1, q2, eu, hres⟩ | ⟨hx4, hres⟩
 rotate_left
 ·have HE6 : Hid (er = 6) := Lib.hid (by rw [← HER.out, hx4]; simp)
  rw [hres]
  clear hx4
  repeat (first | (refine walk_pure0 rfl rfl (fun J hJ => ?_); go_simp; refine hJ _ ?_; clear hJ J) | (refine walk_load rfl rfl rfl rfl (fun J hJ => ?_); go_simp; refine hJ _ ?_; clear hJ J; try go_simp))
  refine walk_ext rfl rfl (fun w3 hb3 J hJ => ?_); go_simp
  refine (needF_yes Fr.no 6 (by decide) w3).mono ?_
  rintro e w4 ⟨rfl, hb4⟩
  exact ⟨rfl, by rw [HE6.out]; exact TryPost.no (Bt (Bt h6 hb3) hb4) (by decide)⟩
 have HE0 : Hid (er = 0) := Lib.hid (by rw [← HER.out, HX1.out, HX2.out, HX3.out, hx4]; rfl)
 have HEQ := Lib.hid eu
 rw [hres]
 clear eu hx4 hres
 repeat (first | (refine walk_pure0 rfl rfl (fun J hJ => ?_); go_simp; refine hJ _ ?_; clear hJ J) | (refine walk_load rfl rfl rfl rfl (fun J hJ => ?_); go_simp; refine hJ _ ?_; clear hJ J; try go_simp))
 refine walk_ext rfl rfl (fun w7' hb7 J hJ => ?_); go_simp
 refine (needF_no ⟨q1, q2⟩ w7').mono ?_
 unfold Fr.v
 rintro e w8' ⟨rfl, hb8⟩
 refine hJ _ _ hb8 ?_
 clear hJ J
 repeat (first | (refine walk_pure0 rfl rfl (fun J hJ => ?_); go_simp; refine hJ _ ?_; clear hJ J) | (refine walk_load rfl rfl rfl rfl (fun J hJ => ?_); go_simp; refine hJ _ ?_; clear hJ J; try go_simp))
 refine walk_fin [_] rfl (fun wz hb9 => ?_)
 have h69 : Below w6'.heap.size w6' wz := belA
 replace hra1 := hra1.later h69
 have cra := hra1.cell
 have fra := hra1.free
 have h9 : Below w.heap.size w wz := Bt h6 h69
 clear hb1 hb2 hb3 hb4 hb5 hb6 hb7 hb8 hb9 h1 h2 h4 h5 h6 h69
 go_wp2_with fail
 refine ret_c rfl rfl ((hra1.set 0 _).set 1 _) Tryz.underlying36 rfl (by kernel_rfl) ?_
 rw [HE0.out]
 exact TryPost.yes ((h9.setCell (Nat.le_refl _) _).setCell (Nat.le_refl _) _) (by rw [HEQ.out]; rfl)
end Go.Proofs.adapt
