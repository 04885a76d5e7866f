/- Lemmas for the proof. No condition. -/
import Derived.Test.YtddblpggomphpaaGreatDoorZB01
import Derived.Test.YtddblpggomphpaaGreatDoorProg
import Derived.Lib.AppendStr
import Derived.Lib.Builder
import Derived.Lib.AppendIntMem
import Derived.Laws.MakeOwn
import Derived.RangeFuncBox
import Derived.RangeFuncCalls
import Derived.OrdersIn
import Derived.ChangeKeysEq
import Derived.KernelRfl
set_option linter.unusedVariables false
set_option linter.unusedSimpArgs false
namespace Go.Proofs.Bld
open Go Go.RowKit Go.SW Go.Num Go.Mem Go.Proofs
def Pow (w : World) : Prop := Lib.TabIs Tryz.prog w "internal/strconv.uint64pow10" .u64 Lib.pow10Tab
theorem Pow.later {w w' : World} (h : Pow w) (hb : Below w.heap.size w w') : Pow w' := Lib.tabBelow_of_tabIs h w' hb
theorem below_grow (w : World) (k : Nat) (os : Array Obj) : Below w.heap.size w (Go.Sort.grow (w.drewN k) os) := by
 unfold Go.Sort.grow
 refine ⟨rfl, rfl, rfl, ?_, fun i hi => ?_⟩
 ·simp
 ·simp only [World.drewN]
  rw [Array.getElem?_append_left hi]
theorem infoByte : (Tryz.prog.info? 5).map (fun i => (i.zero, i.size, i.bytes)) = some (some (.int .u8 0), 1, 1) := by kernel_rfl
theorem infoBld : (Tryz.prog.info? 232).map (·.size) = some 2 := by kernel_rfl
abbrev IsB (B b : Nat) (bs : List Value) (w : World) : Prop := Lib.IsBuilder 232 5 B b bs w
abbrev AtB (B b : Nat) (bs : List Value) (w : World) : Prop := Lib.BuilderAt 232 5 B b (.pointer (some ⟨b, 0, none⟩)) bs w
theorem near_of_below {w w' : World} (h : Below w.heap.size w w') : w.grownBy w' none := ⟨h.os, h.tape, h.output, h.size, fun i hi _ => h.block i hi⟩
theorem bld_later {p : Value} {B b : Nat} {bs : List Value} {w w' : World} (h : Lib.BuilderAt 232 5 B b p bs w) (hb : Below w.heap.size w w') : Lib.BuilderAt 232 5 B b p bs w' := by
 have hl := h.lt
 obtain ⟨hB, v, hbk, hown, hne⟩ := h
 refine ⟨hB, v, (hb.block _ hl).trans hbk, hown.kept (near_of_below hb) ?_, hne⟩
 cases h : v.ownBlock with
 | none => exact .inl rfl
 | some k => exact .inr (by simp)
theorem IsB.later {B b : Nat} {bs : List Value} {w w' : World} (h : IsB B b bs w) (hb : Below w.heap.size w w') : IsB B b bs w' := by
 rcases h with h | h
 ·exact .inl (bld_later h hb)
 ·exact .inr (bld_later h hb)
theorem IsB.ge {B b : Nat} {bs : List Value} {w : World} (h : IsB B b bs w) : B ≤ b := by
 rcases h with h | h <;> exact h.1
theorem itoa_nat (n : Nat) : Lib.itoa (n : Int) = Lib.decDigits n := by
 unfold Lib.itoa
 rw [if_neg (by omega), Int.toNat_natCast]
theorem itoa_ok (n : Nat) (h : n < 1000000000) (w : World) (ht : Pow w) :
  Calls Tryz.prog 171 #[.int .i64 n] w fun e w' => e = .returned (.string ⟨(Lib.decDigits n).toArray⟩) ∧ Below w.heap.size w w' := by
 refine (Tryz.strconv_Itoa n (by omega) (by omega) w ht).mono ?_
 rintro e w' ⟨rfl, k, os, rfl⟩
 rw [itoa_nat]
 exact ⟨rfl, below_grow _ _ _⟩
set_option maxRecDepth 10000 in
theorem copyCheck_used (b : Nat) (w : World) (h0 : w.cell? ⟨b, 0, none⟩ = some (.pointer (some ⟨b, 0, none⟩))) :
  Calls Tryz.prog 212 #[.pointer (some ⟨b, 0, none⟩)] w fun e w' => e = .returned (.tuple #[]) ∧ w' = w := by
 obtain ⟨j, hj, _⟩ := Option.map_eq_some_iff.1 infoBld
 go_enter Tryz.func212, Tryz.ntmps212
 go_wp2
 rw [Lib.run_neq_ptr_same w _ Tryz.underlying229 hj]
 go_wp2
 go_end0
 exact ⟨rfl, rfl⟩
set_option maxRecDepth 10000 in
theorem copyCheck_fresh (b : Nat) (w : World) (h0 : w.cell? ⟨b, 0, none⟩ = some (.pointer none)) (hsh : w.shape? b = some (232, 2)) (hfz : w.frozen? ⟨b, 0, none⟩ = false) :
  Calls Tryz.prog 212 #[.pointer (some ⟨b, 0, none⟩)] w fun e w' => e = .returned (.tuple #[]) ∧ w' = w.setCell ⟨b, 0, none⟩ (.pointer (some ⟨b, 0, none⟩)) := by
 obtain ⟨j, hj, hjs⟩ := Option.map_eq_some_iff.1 infoBld
 go_enter Tryz.func212, Tryz.ntmps212
 go_wp2
 rw [Lib.run_to_unsafe w ⟨b, 0, none⟩ Tryz.underlying229 Tryz.underlying277 hj (by rw [hjs]; decide) hsh (Nat.zero_lt_succ 1)]
 simp only [Result.andThen]
 rw [Oper.upon_value]
 go_wp2
 rw [run_callFunc_extern Tryz.func232 (by kernel_rfl) (by kernel_rfl) (by kernel_rfl) (e := Extern.AbiNoEscape.same) (by kernel_rfl)]
 rw [Lib.run_noEscape]
 simp only [Result.andThen]
 rw [Oper.upon_value]
 go_wp2
 rw [Lib.run_from_unsafe w ⟨b, 0, none⟩ Tryz.underlying277 Tryz.underlying229 hj hsh (by kernel_rfl)]
 simp only [Result.andThen]
 rw [Oper.upon_value]
 go_wp2
 go_end0
 exact ⟨rfl, rfl⟩
theorem copyCheck_ok (B b : Nat) (bs : List Value) (w : World) (h : IsB B b bs w) :
  Calls Tryz.prog 212 #[.pointer (some ⟨b, 0, none⟩)] w fun e w' => e = .returned (.tuple #[]) ∧ (AtB B b bs w' ∧ Below B w w') := by
 rcases h with h | h
 ·refine (copyCheck_fresh b w h.cell0 h.shape h.frozen0).mono ?_
  rintro e w' ⟨rfl, rfl⟩
  exact ⟨rfl, h.used _, (Below.refl B w).setCell (p := ⟨b, 0, none⟩) h.1 _⟩
 ·refine (copyCheck_used b w h.cell0).mono ?_
  rintro e w' ⟨rfl, rfl⟩
  exact ⟨rfl, h, Below.refl B _⟩
set_option maxHeartbeats 2000000 in
set_option maxRecDepth 10000 in
theorem writeByte_ok (B b : Nat) (bs : List Value) (c : Int) (w : World) (h : IsB B b bs w) (hlen : bs.length + 1 ≤ 140737488355328) (hBw : B ≤ w.heap.size) :
  Calls Tryz.prog 179 #[.pointer (some ⟨b, 0, none⟩), .int .u8 c] w fun e w' => e = .returned .nilIface ∧ (AtB B b (bs ++ [.int .u8 c]) w' ∧ Below B w w') := by
 obtain ⟨i0, hi, hz0, hz1, hz2⟩ := info_parts infoByte
 go_enter Tryz.func179, Tryz.ntmps179
 go_wp2_with (go_at_call 212; refine (copyCheck_ok B b bs _ h).mono ?_; rintro e w1 ⟨rfl, h1, hb1⟩; refine Hid.out ?_)
 obtain ⟨hB, v, hbk, hown, hne⟩ := h1
 have c0 : w1.cell? ⟨b, 0, none⟩ = some (.pointer (some ⟨b, 0, none⟩)) := by rw [Lib.cell_of_heap hbk]; rfl
 have c1 : w1.cell? ⟨b, 1, none⟩ = some v := by rw [Lib.cell_of_heap hbk]; rfl
 refine Lib.hid ?_
 go_wp2_with (at_builtin; refine wpList_append_own _ rfl _ _ 230 rfl B 5 i0 (.int .u8 0) 1 1 Tryz.underlying230 hi hz0 hz1 hz2 rfl (by decide) _ _ _ rfl (hown.alloc _) ⟨w1.heap.size, 0, none⟩ 1 1 [.int .u8 c] rfl rfl ?c1 ?c2 ?c3 ?c4 ?c5 ?_)
 case c1 =>
  intro j u hj
  match j, hj with
  | 0, hj => simp at hj; subst hj; simp [Addr.add]
 case c2 => intro u hu; simp at hu; subst hu; rfl
 case c3 => unfold maxLen; omega
 case c4 => omega
 case c5 => have := hb1.size; simp; omega
 intro v' w2 hown' hgrow _
 have hlt : b < w1.heap.size := by
  rcases Nat.lt_or_ge b w1.heap.size with h' | h'
  ·exact h'
  ·simp [Array.getElem?_eq_none h'] at hbk
 have hb2 : w2.heap[b]? = some (.cells #[.pointer (some ⟨b, 0, none⟩), v] 232 (0, 0)) := by
  rw [hgrow.block b (by simp; omega) (fun e => hne e.symm), Lib.alloc_old w1 _ b hlt]
  exact hbk
 have d0 : w2.cell? ⟨b, 0, none⟩ = some (.pointer (some ⟨b, 0, none⟩)) := by rw [Lib.cell_of_heap hb2]; rfl
 have d1 : w2.cell? ⟨b, 1, none⟩ = some v := by rw [Lib.cell_of_heap hb2]; rfl
 have f1 : w2.frozen? ⟨b, 1, none⟩ = false := Lib.frozen_of_heap hb2 1
 obtain ⟨g, cap, rfl⟩ : ∃ g cap, v' = .slice (some ⟨g, 0, none⟩) (bs.length + 1) cap := by
  rcases hown'.2 with ⟨_, h0⟩ | ⟨g, cap, cur, hv, _⟩
  ·omega
  ·exact ⟨g, cap, hv⟩
 go_wp2
 go_ret
 refine ⟨rfl, ?_, ?_⟩
 ·exact Lib.BuilderAt.put (T := 232) (e := 5) hB hb2 (bs' := bs ++ [.int .u8 c]) (by simpa using hown') (by decide)
 ·exact ((hb1.alloc (by have := hb1.size; omega) _).grown hgrow (by have := hb1.size; simp; omega) (fun k hk => (hown.lt k hk).1)).setCell (p := ⟨b, 1, none⟩) hB _
set_option maxHeartbeats 2000000 in
set_option maxRecDepth 10000 in
theorem writeString_ok (B b : Nat) (bs : List Value) (s : ByteArray) (w : World) (h : IsB B b bs w) (hlen : bs.length + s.size ≤ 140737488355328) (hBw : B ≤ w.heap.size) :
  Calls Tryz.prog 180 #[.pointer (some ⟨b, 0, none⟩), .string s] w fun e w' => e = .returned (.tuple #[.int .i64 s.size, .nilIface]) ∧ (AtB B b (bs ++ Lib.strCells s) w' ∧ Below B w w') := by
 obtain ⟨i0, hi, hz0, hz1, hz2⟩ := info_parts infoByte
 go_enter Tryz.func180, Tryz.ntmps180
 go_wp2_with (go_at_call 212; refine (copyCheck_ok B b bs _ h).mono ?_; rintro e w1 ⟨rfl, h1, hb1⟩; refine Hid.out ?_)
 obtain ⟨hB, v, hbk, hown, hne⟩ := h1
 have c0 : w1.cell? ⟨b, 0, none⟩ = some (.pointer (some ⟨b, 0, none⟩)) := by rw [Lib.cell_of_heap hbk]; rfl
 have c1 : w1.cell? ⟨b, 1, none⟩ = some v := by rw [Lib.cell_of_heap hbk]; rfl
 refine Lib.hid ?_
 go_wp2_with (at_builtin; refine Lib.wpList_append_own_string _ rfl _ _ 230 9 rfl B 5 i0 Tryz.underlying230 Tryz.underlying9 hi hz0 hz1 hz2 _ _ _ rfl hown s rfl ?c3 ?c4 ?c5 ?_)
 case c3 => unfold maxLen; omega
 case c4 => omega
 case c5 => have := hb1.size; omega
 intro v' w2 hown' hgrow _
 have hlt : b < w1.heap.size := by
  rcases Nat.lt_or_ge b w1.heap.size with h' | h'
  ·exact h'
  ·simp [Array.getElem?_eq_none h'] at hbk
 have hb2 : w2.heap[b]? = some (.cells #[.pointer (some ⟨b, 0, none⟩), v] 232 (0, 0)) := by
  rw [hgrow.block b hlt (fun e => hne e.symm)]
  exact hbk
 have d0 : w2.cell? ⟨b, 0, none⟩ = some (.pointer (some ⟨b, 0, none⟩)) := by rw [Lib.cell_of_heap hb2]; rfl
 have d1 : w2.cell? ⟨b, 1, none⟩ = some v := by rw [Lib.cell_of_heap hb2]; rfl
 have f1 : w2.frozen? ⟨b, 1, none⟩ = false := Lib.frozen_of_heap hb2 1
 obtain ⟨ao, n', cap, rfl⟩ : ∃ ao n' cap, v' = .slice ao n' cap := by
  rcases hown'.2 with ⟨hv, _⟩ | ⟨g, cap, cur, hv, _⟩
  ·exact ⟨_, _, _, hv⟩
  ·exact ⟨_, _, _, hv⟩
 go_wp2
 go_ret2
 refine ⟨rfl, ?_, ?_⟩
 ·exact Lib.BuilderAt.put (T := 232) (e := 5) hB hb2 (bs' := bs ++ Lib.strCells s) (by simpa [Lib.strCells_length] using hown') (by decide)
 ·exact (hb1.grown hgrow (by have := hb1.size; omega) (fun k hk => (hown.lt k hk).1)).setCell (p := ⟨b, 1, none⟩) hB _
end Go.Proofs.Bld
namespace Go.Mem
open Go Go.RowKit Go.SW Go.Num Go.Dec
/-- Block b bears cells of type T. -/
def IsT (w : World) (b : Nat) (T : TypeId) : Prop := ∃ cs, Box w b cs T
theorem Box.isT {w : World} {b : Nat} {cs : Array Value} {T : TypeId} (h : Box w b cs T) : IsT w b T := ⟨cs, h⟩
theorem IsT.setCell {w : World} {b : Nat} {T : TypeId} {a : Addr} {u : Value} (h : IsT w b T) : IsT (w.setCell a u) b T := by
 obtain ⟨cs, h⟩ := h
 obtain ⟨c, o, sp⟩ := a
 by_cases hb : b = c
 ·subst hb
  have hl := h.lt
  unfold Box at h
  have e : w.heap[b] = .cells cs T (0, 0) := by simpa [hl] using h
  cases sp with
  | none =>
   refine ⟨cs.setIfInBounds o u, ?_⟩
   unfold Box
   simp [World.setCell, hl, Array.getElem_modify, e]
  | some s =>
   refine ⟨cs, ?_⟩
   unfold Box
   simp [World.setCell, hl, Array.getElem_modify, e]
 ·exact ⟨cs, h.setOther u hb⟩
theorem IsT.later {w w' : World} {b : Nat} {T : TypeId} (h : IsT w b T) (hb : Below w.heap.size w w') : IsT w' b T := by
 obtain ⟨cs, h⟩ := h
 exact ⟨cs, h.later hb⟩
theorem IsT.alloc {w : World} {b : Nat} {T : TypeId} {o : Obj} (h : IsT w b T) : IsT (w.alloc o) b T := h.later ((Below.refl _ _).alloc (Nat.le_refl _) _)
theorem IsT.drew {w : World} {b : Nat} {T : TypeId} (h : IsT w b T) : IsT w.drew b T := h.later (Below.drew (Below.refl _ _))
theorem IsT.new (w : World) (cs : Array Value) (T : TypeId) : IsT (w.alloc (.cells cs T (0, 0))) w.heap.size T := ⟨cs, Box.new _ _ _⟩
theorem Mag.setT {w : World} {v : Value} {n : Nat} {b o : Nat} {T' : TypeId} {u : Value} (h : Mag w v n) (hx : IsT w b T') (hT : 113 ≠ T') : Mag (w.setCell ⟨b, o, none⟩ u) v n := by
 obtain ⟨cs, hx⟩ := hx
 exact h.setOther hx hT o u
theorem sgd_add {z y : Int} {b : Bool} (h : decide (z < 0) = b) (k : decide (y < 0) = b) : sgd (z.natAbs + y.natAbs) b = z + y := by
 unfold sgd
 cases b
 ·simp at h k ⊢; omega
 ·simp at h k ⊢; omega
theorem sgd_sub {z y : Int} {b : Bool} (h : decide (z < 0) = b) (k : decide (y < 0) = !b) : sgd (z.natAbs - y.natAbs) b = if y.natAbs ≤ z.natAbs then z + y else sgd (z.natAbs - y.natAbs) b := by
 split
 ·unfold sgd
  cases b
  ·simp at h k ⊢; omega
  ·simp at h k ⊢; omega
 ·rfl
theorem sgd_prod (z y : Int) : sgd (z.natAbs * y.natAbs) (decide (z < 0) != decide (y < 0)) = z * y := by
 unfold sgd
 by_cases h : z < 0 <;> by_cases k : y < 0
 ·simp only [h, k, decide_true, decide_false, bne_self_eq_false, Bool.true_bne, Bool.false_bne, Bool.not_false, Bool.not_true, if_true, if_false]
  obtain ⟨a, rfl⟩ : ∃ a : Nat, z = -(a : Int) := ⟨z.natAbs, by omega⟩
  obtain ⟨b, rfl⟩ : ∃ b : Nat, y = -(b : Int) := ⟨y.natAbs, by omega⟩
  simp
  try grind
 ·simp only [h, k, decide_true, decide_false, bne_self_eq_false, Bool.true_bne, Bool.false_bne, Bool.not_false, Bool.not_true, if_true, if_false]
  obtain ⟨a, rfl⟩ : ∃ a : Nat, z = -(a : Int) := ⟨z.natAbs, by omega⟩
  obtain ⟨b, rfl⟩ : ∃ b : Nat, y = (b : Int) := ⟨y.natAbs, by omega⟩
  simp
  try grind
 ·simp only [h, k, decide_true, decide_false, bne_self_eq_false, Bool.true_bne, Bool.false_bne, Bool.not_false, Bool.not_true, if_true, if_false]
  obtain ⟨a, rfl⟩ : ∃ a : Nat, z = (a : Int) := ⟨z.natAbs, by omega⟩
  obtain ⟨b, rfl⟩ : ∃ b : Nat, y = -(b : Int) := ⟨y.natAbs, by omega⟩
  simp
  try grind
 ·simp only [h, k, decide_true, decide_false, bne_self_eq_false, Bool.true_bne, Bool.false_bne, Bool.not_false, Bool.not_true, if_true, if_false]
  obtain ⟨a, rfl⟩ : ∃ a : Nat, z = (a : Int) := ⟨z.natAbs, by omega⟩
  obtain ⟨b, rfl⟩ : ∃ b : Nat, y = (b : Int) := ⟨y.natAbs, by omega⟩
  simp
theorem sgd_quot {z y : Int} (h : y ∣ z) : sgd (z.natAbs / y.natAbs) (decide (z < 0) != decide (y < 0)) = z / y := by
 obtain ⟨c, rfl⟩ := h
 rcases Int.lt_trichotomy y 0 with hy | hy | hy
 ·rw [Int.natAbs_mul, Nat.mul_div_cancel_left _ (by omega), Int.mul_ediv_cancel_left _ (by omega)]
  unfold sgd
  rcases Int.lt_trichotomy c 0 with hc | hc | hc
  ·have : ¬ y * c < 0 := by have := Int.mul_pos_of_neg_of_neg hy hc; omega
   simp [this, hy]; omega
  ·subst hc; simp
  ·have : y * c < 0 := Int.mul_neg_of_neg_of_pos hy hc
   simp [this, hy]; omega
 ·subst hy; simp [sgd]
 ·rw [Int.natAbs_mul, Nat.mul_div_cancel_left _ (by omega), Int.mul_ediv_cancel_left _ (by omega)]
  unfold sgd
  have hy2 : ¬ y < 0 := by omega
  rcases Int.lt_trichotomy c 0 with hc | hc | hc
  ·have : y * c < 0 := Int.mul_neg_of_pos_of_neg hy hc
   simp [this, hy2]; omega
  ·subst hc; simp
  ·have : ¬ y * c < 0 := by have := Int.mul_pos hy hc; omega
   simp [this, hy2]; omega
theorem IntV.flag {w : World} {pa : Option Addr} {l ca : Nat} {y z : Int} {b : Bool} (h : Mag w (.slice pa l ca) y.natAbs) (e : y = z) (hb : b = decide (y < 0)) : IntV w (.agg #[.slice pa l ca, .bool b]) z := by
 subst e hb
 exact ⟨pa, l, ca, rfl, h⟩
/-- A magnitude found by search. -/
theorem magA {w : World} {v : Value} {n : Nat} (h : Mag w v n := by repeat (first | (with_reducible exact Hid.out (by with_reducible assumption)) | ((with_reducible apply Mag.setT); rotate_left; (focus (repeat (first | (with_reducible exact Box.isT (by with_reducible assumption)) | (with_reducible apply IsT.setCell) | (with_reducible exact IsT.new _ _ _) | (with_reducible apply IsT.alloc) | (with_reducible apply IsT.drew) | ((with_reducible refine IsT.later (w := ?_) ?_ ?_); rotate_right; with_reducible assumption)))); (focus decide)) | (with_reducible apply Mag.alloc) | (with_reducible apply Mag.drew) | ((with_reducible refine Mag.later (w := ?_) ?_ ?_); rotate_right; with_reducible assumption))) : Mag w v n := h
end Go.Mem
namespace Go.Num
theorem val_split2 {B : Nat} {v : List Nat} {k : Nat} (hv : v.length = k + 2) : val B v = val B (v.take k) + B ^ k * (v.getD k 0 + B * v.getD (k + 1) 0) := by
 have h1 := val_take_succ B (l := v) (k := k) (by omega)
 have h2 := val_take_succ B (l := v) (k := k + 1) (by omega)
 rw [show k + 1 + 1 = v.length by omega, List.take_length] at h2
 rw [h2, h1, Nat.mul_add, Nat.pow_succ, Nat.mul_assoc, Nat.add_assoc]
theorem val_split3 {B : Nat} {u : List Nat} {k : Nat} (hu : u.length = k + 3) : val B u = val B (u.take k) + B ^ k * (u.getD k 0 + B * (u.getD (k + 1) 0 + B * u.getD (k + 2) 0)) := by
 have h1 := val_take_succ B (l := u) (k := k) (by omega)
 have h2 := val_take_succ B (l := u) (k := k + 1) (by omega)
 have h3 := val_take_succ B (l := u) (k := k + 2) (by omega)
 rw [show k + 2 + 1 = u.length by omega, List.take_length] at h3
 rw [h3, h2, h1]
 simp only [Nat.mul_add, Nat.pow_succ, Nat.mul_assoc]
 omega
/-- What the guess of a digit keeps. -/
structure Guess (B U V top head q r : Nat) : Prop where
 split : q * top + r = head
 high : U / V ≤ q
 bound : q ≤ B + 1
section
variable {B : Nat} {u v : List Nat} {k : Nat}
theorem guess_start (hB : 1 < B) (hu : u.length = k + 3) (hv : v.length = k + 2) (du : Dig B u) (ht : B ≤ 2 * v.getD (k + 1) 0) (hlt : val B u < val B v * B) (dv : Dig B v) :
  Guess B (val B u) (val B v) (v.getD (k + 1) 0) (u.getD (k + 2) 0 * B + u.getD (k + 1) 0) ((u.getD (k + 2) 0 * B + u.getD (k + 1) 0) / v.getD (k + 1) 0) ((u.getD (k + 2) 0 * B + u.getD (k + 1) 0) % v.getD (k + 1) 0) := by
 have eu := val_split3 (B := B) hu
 have ev := val_split2 (B := B) hv
 have lu := val_lt (by omega) (du.take k)
 have lv := val_lt (by omega) (dv.take k)
 rw [show (u.take k).length = k by simp; omega] at lu
 rw [show (v.take k).length = k by simp; omega] at lv
 have d0 := du.getD (by omega) k
 have d1 := du.getD (by omega) (k + 1)
 have f0 := dv.getD (by omega) k
 generalize u.getD k 0 = u2 at *
 generalize u.getD (k + 1) 0 = u1 at *
 generalize u.getD (k + 2) 0 = un at *
 generalize v.getD k 0 = v2 at *
 generalize v.getD (k + 1) 0 = top at *
 generalize val B (u.take k) = a at *
 generalize val B (v.take k) = b at *
 have hp : 0 < B ^ k := Nat.pow_pos (by omega)
 generalize B ^ k = p at *
 have htop : 0 < top := by omega
 have hV : 0 < val B v := by
  rw [ev]
  have : 0 < p * (v2 + B * top) := Nat.mul_pos hp (by have := Nat.mul_pos (by omega : 0 < B) htop; omega)
  omega
 have hdm := Nat.div_add_mod (un * B + u1) top
 have hml := Nat.mod_lt (un * B + u1) htop
 refine ⟨by rw [Nat.mul_comm]; exact hdm, ?_, ?_⟩
 ·rw [← Nat.lt_succ_iff, Nat.div_lt_iff_lt_mul hV, eu, ev]
  generalize (un * B + u1) / top = q at *
  have h1 : un * B + u1 + 1 ≤ (q + 1) * top := by rw [Nat.add_mul, Nat.one_mul, Nat.mul_comm q]; omega
  have h2 : p * (B * (un * B + u1 + 1)) ≤ p * (B * ((q + 1) * top)) := Nat.mul_le_mul_left _ (Nat.mul_le_mul_left _ h1)
  have h3 : a + p * (u2 + B * (u1 + B * un)) < p * (B * (un * B + u1 + 1)) := by
   have : p * (u2 + B * (u1 + B * un) + 1) ≤ p * (B * (un * B + u1 + 1)) := Nat.mul_le_mul_left _ (by rw [Nat.mul_add B (un * B + u1), Nat.mul_one, Nat.add_comm u1, Nat.mul_comm B un]; omega)
   rw [Nat.mul_add, Nat.mul_one] at this
   omega
  have h4 : p * (B * ((q + 1) * top)) ≤ Nat.succ q * (b + p * (v2 + B * top)) := by
   rw [Nat.succ_eq_add_one, show p * (B * ((q + 1) * top)) = (q + 1) * (p * (B * top)) by rw [Nat.mul_left_comm B, Nat.mul_left_comm p]]
   refine Nat.mul_le_mul_left _ ?_
   rw [Nat.mul_add p]; omega
  omega
 ·-- the highest digit of u is at most that of v
  have h1 : un ≤ top := by
   rcases Nat.lt_or_ge top un with h | h
   ·exfalso
    rw [eu, ev] at hlt
    have h2 : p * (B * (B * (top + 1))) ≤ p * (B * (B * un)) := Nat.mul_le_mul_left _ (Nat.mul_le_mul_left _ (Nat.mul_le_mul_left _ h))
    have h3 : (b + p * (v2 + B * top)) * B ≤ p * (B * (B * (top + 1))) := by
     have : b + p * (v2 + B * top) ≤ p * (B * (top + 1)) := by
      have h5 : p * (v2 + 1 + B * top) ≤ p * (B * (top + 1)) := Nat.mul_le_mul_left _ (by rw [Nat.mul_add B top, Nat.mul_one]; omega)
      simp only [Nat.mul_add, Nat.mul_one] at h5 ⊢
      omega
     calc (b + p * (v2 + B * top)) * B ≤ p * (B * (top + 1)) * B := Nat.mul_le_mul_right _ this
      _ = p * (B * (B * (top + 1))) := by rw [Nat.mul_assoc, Nat.mul_comm (B * (top + 1)) B]
    have h4 : p * (B * (B * un)) ≤ a + p * (u2 + B * (u1 + B * un)) := by simp only [Nat.mul_add]; omega
    omega
   ·exact h
  have h2 : (un * B + u1) / top < B + 2 := by
   rw [Nat.div_lt_iff_lt_mul htop]
   have h3 : un * B ≤ top * B := Nat.mul_le_mul_right _ h1
   rw [Nat.add_mul, Nat.mul_comm B top]
   omega
  omega
theorem guess_step (hB : 1 < B) (hu : u.length = k + 3) (hv : v.length = k + 2) (du : Dig B u) {q r : Nat} (ht : 0 < v.getD (k + 1) 0) (hlt : val B u < val B v * B)
  (g : Guess B (val B u) (val B v) (v.getD (k + 1) 0) (u.getD (k + 2) 0 * B + u.getD (k + 1) 0) q r) (hc : B ≤ q ∨ r * B + u.getD k 0 < q * v.getD k 0) :
  1 ≤ q ∧ Guess B (val B u) (val B v) (v.getD (k + 1) 0) (u.getD (k + 2) 0 * B + u.getD (k + 1) 0) (q - 1) (r + v.getD (k + 1) 0) := by
 have eu := val_split3 (B := B) hu
 have ev := val_split2 (B := B) hv
 have lu := val_lt (by omega) (du.take k)
 rw [show (u.take k).length = k by simp; omega] at lu
 obtain ⟨g1, g2, g3⟩ := g
 generalize u.getD k 0 = u2 at *
 generalize u.getD (k + 1) 0 = u1 at *
 generalize u.getD (k + 2) 0 = un at *
 generalize v.getD k 0 = v2 at *
 generalize v.getD (k + 1) 0 = top at *
 generalize val B (u.take k) = a at *
 generalize val B (v.take k) = b at *
 have hp : 0 < B ^ k := Nat.pow_pos (by omega)
 generalize B ^ k = p at *
 have hV : 0 < val B v := by
  rw [ev]
  have : 0 < p * (v2 + B * top) := Nat.mul_pos hp (by have := Nat.mul_pos (by omega : 0 < B) ht; omega)
  omega
 have hq : val B u / val B v < q := by
  rcases hc with hc | hc
  ·have : val B u / val B v < B := by rw [Nat.div_lt_iff_lt_mul hV, Nat.mul_comm]; exact hlt
   omega
  ·rw [Nat.div_lt_iff_lt_mul hV, eu, ev]
   have h1 : u2 + B * (u1 + B * un) + 1 ≤ q * (v2 + B * top) := by
    have : B * (q * top + r) = B * (un * B + u1) := by rw [g1]
    rw [Nat.mul_add B (q * top)] at this
    rw [Nat.mul_add q, Nat.mul_left_comm q B top]
    rw [Nat.mul_add B u1, ← Nat.mul_comm un B]
    rw [Nat.mul_add B (un * B)] at this
    rw [Nat.mul_comm r B] at hc
    omega
   have h2 := Nat.mul_le_mul_left p h1
   rw [Nat.mul_add p, Nat.mul_one] at h2
   have h3 : p * (q * (v2 + B * top)) ≤ q * (b + p * (v2 + B * top)) := by
    rw [Nat.mul_left_comm]
    exact Nat.mul_le_mul_left _ (by omega)
   omega
 have hq0 := Nat.zero_le (val B u / val B v)
 obtain ⟨q, rfl⟩ : ∃ q', q = q' + 1 := ⟨q - 1, by omega⟩
 refine ⟨by omega, ?_, by simp only [Nat.add_sub_cancel]; omega, by omega⟩
 rw [Nat.add_mul, Nat.one_mul] at g1
 simp only [Nat.add_sub_cancel]
 omega
theorem guess_end (hB : 1 < B) (hu : u.length = k + 3) (hv : v.length = k + 2) (dv : Dig B v) {q r : Nat} (ht : 0 < v.getD (k + 1) 0)
  (g : Guess B (val B u) (val B v) (v.getD (k + 1) 0) (u.getD (k + 2) 0 * B + u.getD (k + 1) 0) q r) (hc : q ≤ B) (hc2 : q * v.getD k 0 ≤ r * B + u.getD k 0) : q ≤ val B u / val B v + 1 := by
 have eu := val_split3 (B := B) hu
 have ev := val_split2 (B := B) hv
 have lv := val_lt (by omega) (dv.take k)
 rw [show (v.take k).length = k by simp; omega] at lv
 obtain ⟨g1, g2, g3⟩ := g
 generalize u.getD k 0 = u2 at *
 generalize u.getD (k + 1) 0 = u1 at *
 generalize u.getD (k + 2) 0 = un at *
 generalize v.getD k 0 = v2 at *
 generalize v.getD (k + 1) 0 = top at *
 generalize val B (u.take k) = a at *
 generalize val B (v.take k) = b at *
 have hp : 0 < B ^ k := Nat.pow_pos (by omega)
 generalize B ^ k = p at *
 have hV : 0 < val B v := by
  rw [ev]
  have : 0 < p * (v2 + B * top) := Nat.mul_pos hp (by have := Nat.mul_pos (by omega : 0 < B) ht; omega)
  omega
 have hq0 := Nat.zero_le (val B u / val B v)
 rcases Nat.eq_zero_or_pos q with h0 | h0
 ·omega
 obtain ⟨q', rfl⟩ : ∃ q', q = q' + 1 := ⟨q - 1, by omega⟩
 rw [Nat.add_le_add_iff_right, Nat.le_div_iff_mul_le hV]
 have h1 : (q' + 1) * (v2 + B * top) ≤ u2 + B * (u1 + B * un) := by
  have : B * ((q' + 1) * top + r) = B * (un * B + u1) := by rw [g1]
  rw [Nat.mul_add B ((q' + 1) * top)] at this
  rw [Nat.mul_add (q' + 1), Nat.mul_left_comm (q' + 1) B top]
  rw [Nat.mul_add B u1, ← Nat.mul_comm un B]
  rw [Nat.mul_add B (un * B)] at this
  rw [Nat.mul_comm r B] at hc2
  omega
 have h2 := Nat.mul_le_mul_left p h1
 have h3 : (q' + 1) * b ≤ B * p := Nat.mul_le_mul hc (by omega)
 have h4 : B * p ≤ p * (v2 + B * top) := by
  rw [Nat.mul_comm B p]
  refine Nat.mul_le_mul_left _ ?_
  have : B * 1 ≤ B * top := Nat.mul_le_mul_left _ ht
  omega
 have h5 : (q' + 1) * val B v ≤ val B u + val B v := by
  rw [eu, ev, Nat.mul_add, Nat.mul_left_comm (q' + 1) p]
  omega
 rw [Nat.add_mul, Nat.one_mul] at h5
 omega
end
/-- One digit of the multiply-and-subtract. -/
theorem sub_step {B : Nat} {u v s : List Nat} {i q c b d c' b' : Nat} (hiu : i < u.length) (hiv : i < v.length) (hs : s.length = i)
  (he : val B s + q * val B (v.take i) = val B (u.take i) + (b + c) * B ^ i) (h : d + b + (c + q * v.getD i 0) % B = u.getD i 0 + b' * B) (hc : c' = (c + q * v.getD i 0) / B) :
  val B (s ++ [d]) + q * val B (v.take (i + 1)) = val B (u.take (i + 1)) + (b' + c') * B ^ (i + 1) := by
 rw [val_snoc, val_take_succ B hiu, val_take_succ B hiv, hs, Nat.pow_succ]
 have h1 : B * c' + (c + q * v.getD i 0) % B = c + q * v.getD i 0 := by rw [hc]; exact Nat.div_add_mod _ _
 generalize (c + q * v.getD i 0) % B = m at *
 have h2 : d + b + (c + q * v.getD i 0) = u.getD i 0 + (b' + c') * B := by rw [Nat.add_mul, Nat.mul_comm c' B]; omega
 have h3 := congrArg (B ^ i * ·) h2
 simp only [Nat.mul_add] at h3 he ⊢
 rw [show (b' + c') * (B ^ i * B) = B ^ i * ((b' + c') * B) by rw [Nat.mul_left_comm]]
 rw [show q * (B ^ i * v.getD i 0) = B ^ i * (q * v.getD i 0) by rw [Nat.mul_left_comm]]
 rw [Nat.mul_comm (b + c), Nat.mul_add] at he
 omega
/-- No correction: the guess was right. -/
theorem sub_fits {B : Nat} {u v s : List Nat} {n q b c un : Nat} (hB : 1 < B) (hv : v.length = n) (dv : Dig B v) (hV : 0 < val B v)
  (he : val B s + q * val B v = val B (u.take n) + (b + c) * B ^ n) (hu : val B u = val B (u.take n) + B ^ n * un) (hc : b + c ≤ un) (hq1 : val B u / val B v ≤ q) :
  q = val B u / val B v ∧ val B s = val B u % val B v := by
 have h1 : val B u = q * val B v + (val B s + B ^ n * (un - (b + c))) := by
  obtain ⟨t, rfl⟩ := Nat.le.dest hc
  rw [hu, Nat.add_sub_cancel_left, Nat.mul_add, Nat.mul_comm (B ^ n) (b + c)]
  omega
 have h2 : q * val B v ≤ val B u := by omega
 have h3 : q ≤ val B u / val B v := (Nat.le_div_iff_mul_le hV).2 h2
 have hq : q = val B u / val B v := by omega
 refine ⟨hq, ?_⟩
 have h4 := Nat.div_add_mod (val B u) (val B v)
 rw [← hq, Nat.mul_comm] at h4
 have h5 : val B s + B ^ n * (un - (b + c)) = val B u % val B v := by omega
 have h6 := Nat.mod_lt (val B u) hV
 have h7 := val_lt (by omega) dv
 rw [hv] at h7
 rcases Nat.eq_zero_or_pos (un - (b + c)) with h8 | h8
 ·rw [h8] at h5; omega
 ·have : B ^ n * 1 ≤ B ^ n * (un - (b + c)) := Nat.mul_le_mul_left _ h8
  omega
/-- With a correction: the guess was one too high. -/
theorem sub_over {B : Nat} {u v s : List Nat} {n q b c un : Nat} (hB : 1 < B) (hs : s.length = n) (ds : Dig B s) (hv : v.length = n) (dv : Dig B v) (hV : 0 < val B v)
  (he : val B s + q * val B v = val B (u.take n) + (b + c) * B ^ n) (hu : val B u = val B (u.take n) + B ^ n * un) (hc : un < b + c) (hq2 : q ≤ val B u / val B v + 1) :
  q = val B u / val B v + 1 ∧ val B s + val B v = val B u % val B v + B ^ n := by
 have hp : 0 < B ^ n := Nat.pow_pos (by omega)
 have h7 := val_lt (by omega) dv
 rw [hv] at h7
 have h8 := val_lt (by omega) ds
 rw [hs] at h8
 have h4 := Nat.div_add_mod (val B u) (val B v)
 have h6 := Nat.mod_lt (val B u) hV
 obtain ⟨t, ht⟩ := Nat.le.dest hc
 have h1 : val B u + B ^ n * (t + 1) = q * val B v + val B s := by
  rw [hu, Nat.add_assoc, ← Nat.mul_add, show un + (t + 1) = b + c by omega, Nat.mul_comm (B ^ n)]
  omega
 have hpt : B ^ n * (t + 1) = B ^ n * t + B ^ n := by rw [Nat.mul_add, Nat.mul_one]
 have hq3 : val B u / val B v + 1 ≤ q := by
  rcases Nat.lt_or_ge (val B u / val B v) q with h | h
  ·exact h
  ·exfalso
   have : q * val B v ≤ val B u / val B v * val B v := Nat.mul_le_mul_right _ h
   rw [Nat.mul_comm (val B u / val B v)] at this
   omega
 have hq : q = val B u / val B v + 1 := by omega
 refine ⟨hq, ?_⟩
 rw [hq, Nat.add_mul, Nat.one_mul, Nat.mul_comm (val B u / val B v)] at h1
 have h9 : val B u % val B v + B ^ n * (t + 1) = val B v + val B s := by omega
 rcases Nat.eq_zero_or_pos t with h | h
 ·rw [h, Nat.zero_add, Nat.mul_one] at h9; omega
 ·have : B ^ n * 1 ≤ B ^ n * t := Nat.mul_le_mul_left _ h
  omega
/-- The scale: the highest digit becomes great. -/
theorem scale_great {B t : Nat} (hB : B = 1000000000) (ht : 0 < t) (htB : t < B) : B ≤ 2 * (t * (B / (t + 1))) := by
 have hd := Nat.div_add_mod B (t + 1)
 have hm := Nat.mod_lt B (Nat.succ_pos t)
 have hs : 0 < B / (t + 1) := Nat.div_pos (by omega) (by omega)
 generalize B / (t + 1) = s at *
 generalize B % (t + 1) = m at *
 obtain ⟨s', rfl⟩ : ∃ s', s = s' + 1 := ⟨s - 1, by omega⟩
 rw [Nat.add_mul t 1, Nat.one_mul] at hd
 have h1 : t * (s' + 1) = t * s' + t := by rw [Nat.mul_add, Nat.mul_one]
 have h2 : m ≤ t := by omega
 rcases Nat.eq_zero_or_pos s' with h | h
 ·subst h; omega
 ·obtain ⟨t', rfl⟩ : ∃ t', t = t' + 1 := ⟨t - 1, by omega⟩
  obtain ⟨r, rfl⟩ : ∃ r, s' = r + 1 := ⟨s' - 1, by omega⟩
  have h3 : (t' + 1) * (r + 1 + 1) = t' * r + 2 * t' + r + 2 := by simp only [Nat.add_mul, Nat.mul_add]; omega
  have h4 : 0 ≤ t' * r := Nat.zero_le _
  rw [h3] at hd ⊢
  rcases Nat.eq_zero_or_pos t' with h5 | h5
  ·subst h5; omega
  ·have h6 : r ≤ t' * r := by have := Nat.mul_le_mul_right r h5; omega
   omega
theorem val_take_drop (B : Nat) {l : List Nat} {t : Nat} (ht : t ≤ l.length) : val B l = val B (l.take t) + B ^ t * val B (l.drop t) := by
 conv => lhs; rw [← List.take_append_drop t l, val_append]
 rw [List.length_take, Nat.min_eq_left ht]
theorem scale_facts {b k : Nat} (hs : sz 1000000000 b = k + 2) :
  let t := (digs 1000000000 b).getD (k + 1) 0
  let s := 1000000000 / (t + 1)
  0 < t ∧ t < 1000000000 ∧ 0 < s ∧ s ≤ 500000000 ∧ sz 1000000000 (b * s) = k + 2 ∧ 1000000000 ≤ 2 * (digs 1000000000 (b * s)).getD (k + 1) 0 := by
 intro t s
 have hB : 1 < 1000000000 := by omega
 have hl : (digs 1000000000 b).length = k + 2 := hs
 have ht0 : 0 < t := Nat.pos_of_ne_zero (top_digs hB b (k + 1) hl)
 have htB : t < 1000000000 := (dig_digs hB b).getD (by omega) (k + 1)
 have hs0 : 0 < s := Nat.div_pos (by omega) (by omega)
 have hs5 : s ≤ 500000000 := by
  have : s ≤ 1000000000 / 2 := Nat.div_le_div_left (by omega) (by omega)
  omega
 have hsd : s * (t + 1) ≤ 1000000000 := Nat.div_mul_le_self _ _
 have hp : 0 < 1000000000 ^ (k + 1) := Nat.pow_pos (by omega)
 have hb : b = val 1000000000 ((digs 1000000000 b).take (k + 1)) + 1000000000 ^ (k + 1) * t := by
  have h1 := val_take_succ 1000000000 (l := digs 1000000000 b) (k := k + 1) (by omega)
  rw [show k + 1 + 1 = (digs 1000000000 b).length by omega, List.take_length, val_digs hB] at h1
  exact h1
 have hlow : val 1000000000 ((digs 1000000000 b).take (k + 1)) < 1000000000 ^ (k + 1) := by
  have := val_lt (by omega) ((dig_digs hB b).take (k + 1))
  rwa [show ((digs 1000000000 b).take (k + 1)).length = k + 1 by simp; omega] at this
 have h1 : b * s < 1000000000 ^ (k + 2) := by
  have h2 : b < 1000000000 ^ (k + 1) * (t + 1) := by rw [Nat.mul_add, Nat.mul_one]; omega
  have h3 : b * s < 1000000000 ^ (k + 1) * (t + 1) * s := Nat.mul_lt_mul_of_pos_right h2 hs0
  have h4 : 1000000000 ^ (k + 1) * ((t + 1) * s) ≤ 1000000000 ^ (k + 1) * 1000000000 := Nat.mul_le_mul_left _ (by rw [Nat.mul_comm]; exact hsd)
  rw [Nat.mul_assoc] at h3
  rw [Nat.pow_succ 1000000000 (k + 1)]
  omega
 have h2 : sz 1000000000 (b * s) = k + 2 := by
  have h3 := sz_le_of_lt hB _ _ h1
  have h4 : sz 1000000000 b ≤ sz 1000000000 (b * s) := sz_mono hB (Nat.le_mul_of_pos_right _ hs0)
  omega
 refine ⟨ht0, htB, hs0, hs5, h2, ?_⟩
 have hl2 : (digs 1000000000 (b * s)).length = k + 2 := h2
 have hb2 : b * s = val 1000000000 ((digs 1000000000 (b * s)).take (k + 1)) + 1000000000 ^ (k + 1) * (digs 1000000000 (b * s)).getD (k + 1) 0 := by
  have h1 := val_take_succ 1000000000 (l := digs 1000000000 (b * s)) (k := k + 1) (by omega)
  rw [show k + 1 + 1 = (digs 1000000000 (b * s)).length by omega, List.take_length, val_digs hB] at h1
  exact h1
 have hlow2 : val 1000000000 ((digs 1000000000 (b * s)).take (k + 1)) < 1000000000 ^ (k + 1) := by
  have := val_lt (by omega) ((dig_digs hB (b * s)).take (k + 1))
  rwa [show ((digs 1000000000 (b * s)).take (k + 1)).length = k + 1 by simp; omega] at this
 have hge := scale_great (B := 1000000000) rfl ht0 htB
 generalize (digs 1000000000 (b * s)).getD (k + 1) 0 = t2 at *
 have h5 : t * s ≤ t2 := by
  rcases Nat.lt_or_ge t2 (t * s) with h | h
  ·exfalso
   have h6 : 1000000000 ^ (k + 1) * (t2 + 1) ≤ 1000000000 ^ (k + 1) * (t * s) := Nat.mul_le_mul_left _ h
   rw [Nat.mul_add, Nat.mul_one, ← Nat.mul_assoc] at h6
   have h7 : 1000000000 ^ (k + 1) * t * s ≤ b * s := Nat.mul_le_mul_right _ (by omega)
   omega
  ·exact h
 have h8 : 1000000000 ≤ 2 * (t * s) := hge
 omega
/-- The dividend, scaled, in one digit more; its highest digits are below the divisor. -/
theorem dividend {a b s k : Nat} (hs0 : 0 < s) (hs1 : s < 1000000000) (hb : sz 1000000000 b = k + 2) (hab : k + 2 ≤ sz 1000000000 a) :
  let us := digs 1000000000 (a * s) ++ List.replicate (sz 1000000000 a + 1 - sz 1000000000 (a * s)) 0
  sz 1000000000 (a * s) ≤ sz 1000000000 a + 1 ∧ us.length = sz 1000000000 a + 1 ∧ Dig 1000000000 us ∧ val 1000000000 us = a * s ∧ val 1000000000 (us.drop (sz 1000000000 a - (k + 2) + 1)) < b * s := by
 intro us
 have hB : 1 < 1000000000 := by omega
 have h1 : sz 1000000000 (a * s) ≤ sz 1000000000 a + 1 := by
  have := sz_mul hB a s
  have h2 := sz_le_of_lt hB 1 s (by omega)
  omega
 have h2 : us.length = sz 1000000000 a + 1 := by simp only [us, List.length_append, List.length_replicate]; unfold sz at *; omega
 have h3 : val 1000000000 us = a * s := by simp only [us]; rw [val_append, val_zeros, val_digs hB]; simp
 refine ⟨h1, h2, (dig_digs hB _).append fun x hx => by rw [List.eq_of_mem_replicate hx]; omega, h3, ?_⟩
 have h4 := val_take_drop 1000000000 (l := us) (t := sz 1000000000 a - (k + 2) + 1) (by omega)
 rw [h3] at h4
 have h5 := pow_le_of_sz hB (n := b) (k := k + 1) (by omega)
 have h6 := lt_pow_sz hB a
 have h7 : 1000000000 ^ sz 1000000000 a = 1000000000 ^ (k + 1) * 1000000000 ^ (sz 1000000000 a - (k + 2) + 1) := by rw [← Nat.pow_add]; congr 1; omega
 generalize 1000000000 ^ (sz 1000000000 a - (k + 2) + 1) = p at *
 have h8 : a < b * p := by
  have : 1000000000 ^ (k + 1) * p ≤ b * p := Nat.mul_le_mul_right _ h5
  omega
 rcases Nat.lt_or_ge (val 1000000000 (us.drop (sz 1000000000 a - (k + 2) + 1))) (b * s) with h | h
 ·exact h
 ·exfalso
  have h9 : p * (b * s) ≤ a * s := by have := Nat.mul_le_mul_left p h; omega
  have h10 : a * s < b * p * s := Nat.mul_lt_mul_of_pos_right h8 hs0
  rw [show p * (b * s) = b * p * s by rw [← Nat.mul_assoc, Nat.mul_comm p b]] at h9
  omega
theorem long_step {B : Nat} {us s s' qs : List Nat} {j V q : Nat} (hj : j < us.length) (he : val B (us.drop (j + 1)) = V * val B qs + val B s)
  (hq : q = val B (us.getD j 0 :: s) / V) (hs : val B s' = val B (us.getD j 0 :: s) % V) : val B (us.drop j) = V * val B (q :: qs) + val B s' := by
 rw [drop_getD hj]
 have h := Nat.div_add_mod (val B (us.getD j 0 :: s)) V
 rw [← hq, ← hs] at h
 simp only [val] at h ⊢
 rw [he, Nat.mul_add V, Nat.mul_add B, Nat.mul_left_comm V B]
 omega
theorem window_lt {B x V : Nat} {s : List Nat} (hx : x < B) (hs : val B s < V) : val B (x :: s) < V * B := by
 have h : B * (val B s + 1) ≤ B * V := Nat.mul_le_mul_left _ hs
 rw [Nat.mul_add, Nat.mul_one, Nat.mul_comm B V] at h
 simp only [val]
 omega
theorem long_end {a b s q r : Nat} (hs : 0 < s) (he : a * s = b * s * q + r) (hr : r < b * s) : q = a / b ∧ r / s = a % b := by
 have h1 : a * s / (b * s) = a / b := Nat.mul_div_mul_right _ _ hs
 have h2 : a * s % (b * s) = a % b * s := Nat.mul_mod_mul_right _ _ _
 have hp : 0 < b * s := by omega
 rw [he, Nat.mul_add_div hp, Nat.div_eq_of_lt hr, Nat.add_zero] at h1
 rw [he, Nat.mul_add_mod, Nat.mod_eq_of_lt hr] at h2
 exact ⟨h1, by rw [h2, Nat.mul_div_cancel _ hs]⟩
end Go.Num
namespace Go.Fra
open Go Go.Num Go.Dec Lib
/-- The parts of a sum, as the program makes them. -/
theorem add_parts (p q : Rat) : let g := p.den.gcd q.den
  let top := p.num * ((q.den / g : Nat) : Int) + q.num * ((p.den / g : Nat) : Int)
  let h := top.natAbs.gcd g
  (p + q).num = top / h ∧ (p + q).den = p.den / g * (q.den / h) := by
 intro g top h
 have e : p + q = Rat.add p q := rfl
 rw [e]
 unfold Rat.add
 simp only
 have hgd : g ∣ q.den := Nat.gcd_dvd_right _ _
 have hhg : h ∣ g := Nat.gcd_dvd_right _ _
 have hh : (p.den / g * q.den) / h = p.den / g * (q.den / h) := Nat.mul_div_assoc _ (Nat.dvd_trans hhg hgd)
 split
 ·rename_i hg
  have hg' : g = 1 := hg
  have h1 : h = 1 := Nat.dvd_one.1 (hg' ▸ hhg)
  simp only [hg', h1, Nat.div_one, top, Int.natCast_one, Int.ediv_one, and_self]
 ·rw [Rat.maybeNormalize_eq]
  simp only
  exact ⟨rfl, hh⟩
theorem mul_parts (p q : Rat) : let g := p.num.natAbs.gcd q.den
  let h := q.num.natAbs.gcd p.den
  (p * q).num = (p.num / g) * (q.num / h) ∧ (p * q).den = (p.den / h) * (q.den / g) := by
 intro g h
 have e : p * q = Rat.mul p q := rfl
 rw [e]
 unfold Rat.mul
 simp only [Int.divExact_eq_ediv, Nat.divExact_eq_div]
 exact ⟨rfl, rfl⟩
/-- A fraction, by its texts. -/
structure Fr where
 n : ByteArray
 d : ByteArray
deriving DecidableEq
def Fr.v (a : Fr) : Value := .agg #[.string a.n, .string a.d]
def Fr.of (q : Rat) : Fr := ⟨⟨(Lib.itoa q.num).toArray⟩, ⟨(Lib.itoa q.den).toArray⟩⟩
def Fr.no : Fr := ⟨⟨#[]⟩, ⟨#[]⟩⟩
/-- At most 600 digits. -/
def tenTo (k : Nat) : Nat := 10 ^ k
def okn (n : Nat) : Bool := decide (n < tenTo 600)
def okq (q : Rat) : Bool := okn q.num.natAbs && okn q.den
theorem tenTo_len {n k : Nat} (hk : 0 < k) : n < tenTo k ↔ (decDigits n).length ≤ k :=
 ⟨fun h => dec_len_le k n hk h, fun h => Nat.lt_of_lt_of_le (dec_len_lt n) (Nat.pow_le_pow_right (by omega) h)⟩
theorem okn_len {n : Nat} : okn n = true ↔ (decDigits n).length ≤ 600 := by
 unfold okn
 rw [decide_eq_true_iff]
 exact tenTo_len (by omega)
/-- The number of a fraction. -/
def rd (a : Fr) : Option Rat :=
 match whole a.n.data.toList, whole a.d.data.toList with
 | some n, some d => if h : 0 < d ∧ n.natAbs.Coprime d.natAbs then some ⟨n, d.natAbs, by omega, h.2⟩ else none
 | _, _ => none
theorem ba_ext {a b : ByteArray} (h : a.data.toList = b.data.toList) : a = b := by
 cases a; cases b
 simp only [ByteArray.mk.injEq]
 exact Array.toList_inj.1 h
theorem rd_of {q : Rat} (h : okq q = true) : rd (Fr.of q) = some q := by
 unfold okq at h
 rw [Bool.and_eq_true, okn_len, okn_len] at h
 have e1 : whole (Fr.of q).n.data.toList = some q.num := whole_of_itoa h.1
 have h2 : (decDigits ((q.den : Nat) : Int).natAbs).length ≤ 600 := (Int.natAbs_natCast q.den).symm ▸ h.2
 have e2 : whole (Fr.of q).d.data.toList = some ((q.den : Nat) : Int) := whole_of_itoa (z := ((q.den : Nat) : Int)) h2
 unfold rd
 rw [e1, e2]
 have hd := q.den_pos
 simp only [Int.natAbs_natCast]
 rw [dif_pos ⟨by omega, q.reduced⟩]
theorem of_rd {a : Fr} {q : Rat} (h : rd a = some q) : a = Fr.of q ∧ okq q = true := by
 unfold rd at h
 split at h
 ·rename_i n d e1 e2
  split at h
  ·rename_i hk
   simp only [Option.some.injEq] at h
   subst h
   obtain ⟨h1, h2⟩ := whole_itoa e1
   obtain ⟨h3, h4⟩ := whole_itoa e2
   refine ⟨?_, ?_⟩
   ·cases a
    unfold Fr.of
    simp only [Fr.mk.injEq] at *
    refine ⟨ba_ext h1, ba_ext ?_⟩
    rw [h3, show ((d.natAbs : Nat) : Int) = d by omega]
   ·unfold okq
    rw [Bool.and_eq_true, okn_len, okn_len]
    exact ⟨h2, h4⟩
  ·cases h
 ·cases h
theorem inv_parts {q : Rat} (h : q ≠ 0) : q⁻¹.num = Mem.sgd q.den (decide (q.num < 0)) ∧ q⁻¹.den = q.num.natAbs := by
 have hn : q.num ≠ 0 := fun e => h (Rat.num_eq_zero.1 e)
 rw [Rat.num_inv, Rat.den_inv, if_neg hn]
 refine ⟨?_, rfl⟩
 unfold Mem.sgd
 rcases Int.lt_trichotomy q.num 0 with h1 | h1 | h1
 ·rw [Int.sign_eq_neg_one_of_neg h1]; simp [h1]
 ·exact absurd h1 hn
 ·rw [Int.sign_eq_one_of_pos h1]
  have : ¬ q.num < 0 := by omega
  simp [this]
theorem sgd_divn {n : Int} {g : Nat} (h : g ∣ n.natAbs) : Mem.sgd (n.natAbs / g) (decide (n < 0)) = n / (g : Int) := by
 have h2 : ((g : Nat) : Int) ∣ n := by rwa [← Int.dvd_natAbs, Int.ofNat_dvd]
 have := Mem.sgd_quot h2
 rw [Int.natAbs_natCast, decide_eq_false (show ¬ ((g : Nat) : Int) < 0 by omega), Bool.bne_false] at this
 exact this
theorem add_parts2 (p q : Rat) : (p + q).num = Mem.sgd ((p.num * ((q.den / p.den.gcd q.den : Nat) : Int) + q.num * ((p.den / p.den.gcd q.den : Nat) : Int)).natAbs / (p.num * ((q.den / p.den.gcd q.den : Nat) : Int) + q.num * ((p.den / p.den.gcd q.den : Nat) : Int)).natAbs.gcd (p.den.gcd q.den)) (decide ((p.num * ((q.den / p.den.gcd q.den : Nat) : Int) + q.num * ((p.den / p.den.gcd q.den : Nat) : Int)) < 0)) ∧ (p + q).den = p.den / p.den.gcd q.den * (q.den / (p.num * ((q.den / p.den.gcd q.den : Nat) : Int) + q.num * ((p.den / p.den.gcd q.den : Nat) : Int)).natAbs.gcd (p.den.gcd q.den)) := by
 obtain ⟨h1, h2⟩ := add_parts p q
 refine ⟨?_, h2⟩
 rw [h1]
 exact (sgd_divn (Nat.gcd_dvd_left _ _)).symm
theorem mul_parts2 (p q : Rat) : (p * q).num = Mem.sgd (p.num.natAbs / p.num.natAbs.gcd q.den * (q.num.natAbs / q.num.natAbs.gcd p.den)) (decide (p.num < 0) != decide (q.num < 0)) ∧ (p * q).den = p.den / q.num.natAbs.gcd p.den * (q.den / p.num.natAbs.gcd q.den) := by
 obtain ⟨h1, h2⟩ := mul_parts p q
 refine ⟨?_, h2⟩
 rw [h1]
 have d1 : ((p.num.natAbs.gcd q.den : Nat) : Int) ∣ p.num := by rw [← Int.dvd_natAbs, Int.ofNat_dvd]; exact Nat.gcd_dvd_left _ _
 have d2 : ((q.num.natAbs.gcd p.den : Nat) : Int) ∣ q.num := by rw [← Int.dvd_natAbs, Int.ofNat_dvd]; exact Nat.gcd_dvd_left _ _
 have hg : 0 < p.num.natAbs.gcd q.den := Nat.gcd_pos_of_pos_right _ q.den_pos
 have hh : 0 < q.num.natAbs.gcd p.den := Nat.gcd_pos_of_pos_right _ p.den_pos
 have key : ∀ (z : Int) (g : Nat), 0 < g → ((g : Nat) : Int) ∣ z → (z / (g : Int)).natAbs = z.natAbs / g ∧ (z ≠ 0 → decide (z / (g : Int) < 0) = decide (z < 0)) := fun z g hg hd => by
  obtain ⟨c, rfl⟩ := hd
  rw [Int.mul_ediv_cancel_left _ (by omega), Int.natAbs_mul, Int.natAbs_natCast, Nat.mul_div_cancel_left _ hg]
  refine ⟨rfl, fun _ => ?_⟩
  rw [Bool.eq_iff_iff, decide_eq_true_iff, decide_eq_true_iff]
  constructor
  ·exact fun h => Int.mul_neg_of_pos_of_neg (by omega) h
  ·intro h
   rcases Int.lt_trichotomy c 0 with h1 | h1 | h1
   ·exact h1
   ·subst h1; simp at h
   ·have := Int.mul_pos (show (0 : Int) < (g : Int) by omega) h1; omega
 obtain ⟨a1, a2⟩ := key p.num _ hg d1
 obtain ⟨b1, b2⟩ := key q.num _ hh d2
 rw [← Mem.sgd_prod (p.num / ((p.num.natAbs.gcd q.den : Nat) : Int)), a1, b1]
 by_cases hp : p.num = 0
 ·simp [hp, Mem.sgd]
 ·by_cases hq : q.num = 0
  ·simp [hq, Mem.sgd]
  ·rw [a2 hp, b2 hq]
theorem mul_parts3 (p q : Rat) : (p * q).num = Mem.sgd (p.num.natAbs / p.num.natAbs.gcd q.den * (q.num.natAbs / q.num.natAbs.gcd p.den)) (!(decide (p.num < 0) == decide (q.num < 0))) ∧ (p * q).den = p.den / q.num.natAbs.gcd p.den * (q.den / p.num.natAbs.gcd q.den) := mul_parts2 p q
theorem mk_parts (n : Int) {d : Nat} (hd : 0 < d) : (mkRat n d).num = Mem.sgd (n.natAbs / n.natAbs.gcd d) (decide (n < 0)) ∧ (mkRat n d).den = d / n.natAbs.gcd d := by
 rw [Rat.num_mkRat, Rat.den_mkRat, if_neg (by omega), if_neg (by omega), Nat.gcd_comm d]
 exact ⟨(sgd_divn (Nat.gcd_dvd_left _ _)).symm, rfl⟩
theorem okn_no {n : Nat} (h : 600 < (decDigits n).length) : okn n = false := by
 cases hk : okn n with
 | false => rfl
 | true => have := okn_len.1 hk; omega
/-- What is written: the fraction, or that it is too long. -/
def wr (q : Rat) : Fr × Int := if okq q then (Fr.of q, 0) else (Fr.no, 6)
def Fr.res (x : Fr × Int) : Value := .tuple #[x.1.v, .int .i64 x.2]
theorem wr_big {q : Rat} (h : okq q = false) : Fr.res (wr q) = .tuple #[.agg #[.string ⟨#[]⟩, .string ⟨#[]⟩], .int .i64 6] := by unfold wr; rw [if_neg (by simp [h])]; rfl
theorem wr_ok {q : Rat} (h : okq q = true) : Fr.res (wr q) = .tuple #[.agg #[Mem.itxt q.num, Mem.itxt q.den], .int .i64 0] := by unfold wr; rw [if_pos h]; rfl
/-- How two fractions stand to one another. -/
def cmpq (p q : Rat) : Int := if p < q then -1 else if q < p then 1 else 0
def sgnz (z : Int) : Int := if z = 0 then 0 else if z < 0 then -1 else 1
theorem sgnz_cmp (p q : Rat) : sgnz (p.num * (q.den : Int) + -(q.num * (p.den : Int))) = cmpq p q := by
 unfold sgnz cmpq
 by_cases h1 : p < q
 ·rw [if_pos h1]
  have := (Rat.lt_iff p q).1 h1
  rw [if_neg (by omega), if_pos (by omega)]
 ·rw [if_neg h1]
  rw [Rat.lt_iff] at h1
  by_cases h2 : q < p
  ·rw [if_pos h2]
   have := (Rat.lt_iff q p).1 h2
   rw [if_neg (by omega), if_neg (by omega)]
  ·rw [if_neg h2]
   rw [Rat.lt_iff] at h2
   rw [if_pos (by omega)]
theorem sgnz_zero (q : Rat) : sgnz q.num = cmpq q 0 := by
 have := sgnz_cmp q 0
 simpa using this
/-- The value v is the fraction q. -/
def RatV (w : World) (v : Value) (q : Rat) : Prop := ∃ pa l ca pb m cb, v = .agg #[.slice pa l ca, .bool (decide (q.num < 0)), .slice pb m cb] ∧ Mem.Mag w (.slice pa l ca) q.num.natAbs ∧ Mem.Mag w (.slice pb m cb) q.den
open RowKit Mem in
theorem RatV.later {w w' : World} {v : Value} {q : Rat} (h : RatV w v q) (hb : Below w.heap.size w w') : RatV w' v q := by
 obtain ⟨pa, l, ca, pb, m, cb, h1, h2, h3⟩ := h
 exact ⟨pa, l, ca, pb, m, cb, h1, h2.later hb, h3.later hb⟩
open Mem in
theorem RatV.mk (n d : Nat) {w : World} {pa pb : Option Addr} {l ca m cb : Nat} {b : Bool} {q : Rat} (h : Mag w (.slice pa l ca) n) (k : Mag w (.slice pb m cb) d) (hn : n = q.num.natAbs) (hd : d = q.den) (hb : b = decide (q.num < 0)) : RatV w (.agg #[.slice pa l ca, .bool b, .slice pb m cb]) q := by
 subst hn hd hb
 exact ⟨pa, l, ca, pb, m, cb, rfl, h, k⟩
open RowKit Mem in
theorem _root_.Go.Mem.Mag.carry {w0 w w' : World} {v : Value} {n : Nat} (_ : Mag w0 v n) (k : Mag w v n) (hb : Below w.heap.size w w') : Mag w' v n := k.later hb
theorem RatV.of {w : World} {pa pb : Option Addr} {l ca m cb : Nat} {q : Rat} (h : Mem.Mag w (.slice pa l ca) q.num.natAbs) (k : Mem.Mag w (.slice pb m cb) q.den) : RatV w (.agg #[.slice pa l ca, .bool (decide (q.num < 0)), .slice pb m cb]) q := ⟨pa, l, ca, pb, m, cb, rfl, h, k⟩
/-- Sizes. -/
def szq (k : Nat) (q : Rat) : Prop := sz 1000000000 q.num.natAbs ≤ k ∧ sz 1000000000 q.den ≤ k
theorem big_le : tenTo 600 ≤ 1000000000 ^ 67 := by decide +kernel
theorem okn_sz {n : Nat} (h : okn n = true) : sz 1000000000 n ≤ 67 := by
 unfold okn at h
 rw [decide_eq_true_iff] at h
 exact sz_le_of_lt (by omega) 67 n (Nat.lt_of_lt_of_le h big_le)
theorem okq_sz {q : Rat} (h : okq q = true) : szq 67 q := by
 unfold okq at h
 rw [Bool.and_eq_true] at h
 exact ⟨okn_sz h.1, okn_sz h.2⟩
theorem szq.mono {k m : Nat} {q : Rat} (h : szq k q) (hk : k ≤ m) : szq m q := ⟨Nat.le_trans h.1 hk, Nat.le_trans h.2 hk⟩
theorem sz_div {a b : Nat} : sz 1000000000 (a / b) ≤ sz 1000000000 a := sz_mono (by omega) (Nat.div_le_self a b)
theorem sz_gcd_right {a b : Nat} (hb : 0 < b) : sz 1000000000 (a.gcd b) ≤ sz 1000000000 b := sz_mono (by omega) (Nat.le_of_dvd hb (Nat.gcd_dvd_right _ _))
theorem sz_absmul (z : Int) (n : Nat) : sz 1000000000 (z * n).natAbs ≤ sz 1000000000 z.natAbs + sz 1000000000 n := by
 rw [Int.natAbs_mul, Int.natAbs_natCast]
 exact sz_mul (by omega) _ _
theorem sz_absmul2 (z y : Int) : sz 1000000000 (z * y).natAbs ≤ sz 1000000000 z.natAbs + sz 1000000000 y.natAbs := by
 rw [Int.natAbs_mul]
 exact sz_mul (by omega) _ _
theorem sz_absadd (z y : Int) : sz 1000000000 (z + y).natAbs ≤ max (sz 1000000000 z.natAbs) (sz 1000000000 y.natAbs) + 1 :=
 Nat.le_trans (sz_mono (by omega) (Int.natAbs_add_le z y)) (sz_add (by omega) _ _)
theorem szq_add {k : Nat} {p q : Rat} (h : szq k p) (i : szq k q) : szq (2 * k + 1) (p + q) := by
 obtain ⟨h1, h2⟩ := add_parts p q
 have hp := p.den_pos
 have hq := q.den_pos
 have a1 := sz_absmul p.num (q.den / p.den.gcd q.den)
 have a2 := sz_absmul q.num (p.den / p.den.gcd q.den)
 have a3 := sz_absadd (p.num * ((q.den / p.den.gcd q.den : Nat) : Int)) (q.num * ((p.den / p.den.gcd q.den : Nat) : Int))
 have b1 := @sz_div q.den (p.den.gcd q.den)
 have b2 := @sz_div p.den (p.den.gcd q.den)
 obtain ⟨i1, i2⟩ := i
 obtain ⟨j1, j2⟩ := h
 constructor
 ·rw [h1, Int.natAbs_ediv_of_dvd (by rw [← Int.dvd_natAbs, Int.ofNat_dvd]; exact Nat.gcd_dvd_left _ _), Int.natAbs_natCast]
  refine Nat.le_trans sz_div ?_
  omega
 ·rw [h2]
  refine Nat.le_trans (sz_mul (by omega) _ _) ?_
  have b3 := @sz_div q.den ((p.num * ((q.den / p.den.gcd q.den : Nat) : Int) + q.num * ((p.den / p.den.gcd q.den : Nat) : Int)).natAbs.gcd (p.den.gcd q.den))
  omega
theorem szq_mul {k : Nat} {p q : Rat} (h : szq k p) (i : szq k q) : szq (2 * k) (p * q) := by
 obtain ⟨h1, h2⟩ := mul_parts p q
 obtain ⟨i1, i2⟩ := i
 obtain ⟨j1, j2⟩ := h
 constructor
 ·rw [h1]
  refine Nat.le_trans (sz_absmul2 _ _) ?_
  rw [Int.natAbs_ediv_of_dvd (by rw [← Int.dvd_natAbs, Int.ofNat_dvd]; exact Nat.gcd_dvd_left _ _), Int.natAbs_ediv_of_dvd (by rw [← Int.dvd_natAbs, Int.ofNat_dvd]; exact Nat.gcd_dvd_left _ _), Int.natAbs_natCast, Int.natAbs_natCast]
  have := @sz_div p.num.natAbs (p.num.natAbs.gcd q.den)
  have := @sz_div q.num.natAbs (q.num.natAbs.gcd p.den)
  omega
 ·rw [h2]
  refine Nat.le_trans (sz_mul (by omega) _ _) ?_
  have := @sz_div p.den (q.num.natAbs.gcd p.den)
  have := @sz_div q.den (p.num.natAbs.gcd q.den)
  omega
theorem szq_neg {k : Nat} {q : Rat} (h : szq k q) : szq k (-q) := by
 unfold szq at *
 rw [Rat.neg_num, Rat.neg_den, Int.natAbs_neg]
 exact h
theorem szq_inv {k : Nat} {q : Rat} (h : szq k q) (h0 : q ≠ 0) : szq k q⁻¹ := by
 have hn : q.num ≠ 0 := fun e => h0 (Rat.num_eq_zero.1 e)
 unfold szq at *
 rw [Rat.num_inv, Rat.den_inv, if_neg hn, Int.natAbs_mul, Int.natAbs_natCast, Int.natAbs_sign_of_ne_zero hn, Nat.one_mul]
 exact ⟨h.2, h.1⟩
end Go.Fra
namespace Go.Fra
open Go Go.Num Go.Dec Lib
/-- The operations on fractions by their texts. -/
abbrev FrI := Fr × Int
def chk (a : Fr) : Int := if (rd a).isSome then 0 else 20
def sgnF (a : Fr) : Int × Int := match rd a with
 | some q => (cmpq q 0, 0)
 | none => (0, 20)
def cmpF (a b : Fr) : Int × Int := match rd a, rd b with
 | some p, some q => (cmpq p q, 0)
 | _, _ => (0, 20)
def bin (f : Rat → Rat → Fr × Int) (a b : Fr) : Fr × Int := match rd a, rd b with
 | some p, some q => f p q
 | _, _ => (Fr.no, 20)
def addF (a b : Fr) : Fr × Int := bin (fun p q => wr (p + q)) a b
def subF (a b : Fr) : Fr × Int := bin (fun p q => wr (p - q)) a b
def mulF (a b : Fr) : Fr × Int := bin (fun p q => wr (p * q)) a b
def divF (a b : Fr) : Fr × Int := bin (fun p q => if q = 0 then (Fr.no, 7) else wr (p / q)) a b
def ofF (n d : Int) : Fr × Int := if d = 0 then (Fr.no, 7) else wr (n / d)
theorem bin_some {f : Rat → Rat → Fr × Int} {a b : Fr} {p q : Rat} (h : rd a = some p) (k : rd b = some q) : bin f a b = f p q := by unfold bin; rw [h, k]
theorem bin_no1 {f : Rat → Rat → Fr × Int} {a b : Fr} (h : rd a = none) : bin f a b = (Fr.no, 20) := by unfold bin; rw [h]
theorem bin_no2 {f : Rat → Rat → Fr × Int} {a b : Fr} (k : rd b = none) : bin f a b = (Fr.no, 20) := by
 unfold bin
 cases rd a with
 | none => rfl
 | some p => simp [k]
/-- Two whole numbers as a fraction. -/
theorem make_eq (n d : Int) (h : d ≠ 0) : mkRat (Mem.sgd n.natAbs (!(decide (n < 0) == decide (d < 0)))) d.natAbs = (n : Rat) / (d : Rat) := by
 rw [← Rat.divInt_eq_div]
 rcases Int.lt_trichotomy d 0 with hd | hd | hd
 ·rw [← Rat.neg_divInt_neg]
  obtain ⟨k, rfl⟩ : ∃ k : Nat, d = -(k : Int) := ⟨d.natAbs, by omega⟩
  rw [Int.neg_neg, Rat.divInt_ofNat, Int.natAbs_neg, Int.natAbs_natCast]
  congr 1
  unfold Mem.sgd
  by_cases hn : n < 0
  ·simp [hn, hd]; omega
  ·simp [hn, hd]; omega
 ·exact absurd hd h
 ·obtain ⟨k, rfl⟩ : ∃ k : Nat, d = (k : Int) := ⟨d.natAbs, by omega⟩
  rw [Rat.divInt_ofNat, Int.natAbs_natCast]
  congr 1
  have hd2 : ¬ (k : Int) < 0 := by omega
  unfold Mem.sgd
  by_cases hn : n < 0
  ·simp [hn, hd2]; omega
  ·simp [hn, hd2]; omega
theorem res_mk (s t : ByteArray) (e : Int) : Fr.res (⟨s, t⟩, e) = .tuple #[.agg #[.string s, .string t], .int .i64 e] := rfl
end Go.Fra
namespace Go.Fra
open Go Go.RowKit Go.Num Go.Mem
/-- The slice v reads as the fractions l, in a block of cells of type T. -/
def Frs (w : World) (T : TypeId) (v : Value) (l : List Fr) : Prop :=
 ∃ a cap, v = .slice a l.length cap ∧ l.length ≤ cap ∧ cap ≤ 9223372036854775807 ∧ (a = none → cap = 0) ∧
  ∀ ad, a = some ad → ad.spot = none ∧ ∃ arr, Box w ad.block arr T ∧ ∀ i (h : i < l.length), arr[ad.off + i * 2]? = some (.string l[i].n) ∧ arr[ad.off + i * 2 + 1]? = some (.string l[i].d)
theorem Frs.later {w w' : World} {T : TypeId} {v : Value} {l : List Fr} (h : Frs w T v l) (hb : Below w.heap.size w w') : Frs w' T v l := by
 obtain ⟨a, cap, h1, h2, h3, h4, h5⟩ := h
 refine ⟨a, cap, h1, h2, h3, h4, fun ad had => ?_⟩
 obtain ⟨h6, arr, h7, h8⟩ := h5 ad had
 exact ⟨h6, arr, h7.later hb, h8⟩
/-- How fractions are read. -/
theorem Frs.read {w : World} {T : TypeId} {v : Value} {l : List Fr} (h : Frs w T v l) :
  ∃ a cap, v = .slice a l.length cap ∧ l.length ≤ cap ∧ cap ≤ 9223372036854775807 ∧ ∀ k (_ : k < l.length), ∃ b off, a = some ⟨b, off, none⟩ ∧ b < w.heap.size ∧ w.cell? ⟨b, off + k * 2, none⟩ = some (.string l[k].n) ∧ w.cell? ⟨b, off + k * 2 + 1, none⟩ = some (.string l[k].d) := by
 obtain ⟨a, cap, h1, h2, h3, h4, h5⟩ := h
 refine ⟨a, cap, h1, h2, h3, fun k hk => ?_⟩
 cases a with
 | none => have := h4 rfl; omega
 | some ad =>
  obtain ⟨h6, arr, h7, h8⟩ := h5 ad rfl
  obtain ⟨b, off, sp⟩ := ad
  simp only at h6
  subst h6
  obtain ⟨h9, h10⟩ := h8 k hk
  exact ⟨b, off, rfl, h7.lt, (h7.cell _).trans h9, (h7.cell _).trans h10⟩
def chkL (l : List Fr) : Int := if l.all (fun a => (rd a).isSome) then 0 else 20
theorem chk_zero {a : Fr} (h : (rd a).isSome = true) : chk a = 0 := by unfold chk; rw [h]; rfl
theorem chk_no {a : Fr} (h : (rd a).isSome = false) : chk a = 20 := by unfold chk; rw [h]; rfl
/-- The slice v reads as the matrix m. -/
def MatV (w : World) (v : Value) (m : List (List Fr)) : Prop :=
 ∃ rs : List Value, Row w 56 v rs ∧ rs.length = m.length ∧ ∀ i (h : i < rs.length) (h' : i < m.length), Frs w 36 rs[i] m[i]
theorem MatV.later {w w' : World} {v : Value} {m : List (List Fr)} (h : MatV w v m) (hb : Below w.heap.size w w') : MatV w' v m := by
 obtain ⟨rs, h1, h2, h3⟩ := h
 exact ⟨rs, h1.later hb, h2, fun i h h' => (h3 i h h').later hb⟩
def okM (m : List (List Fr)) : Bool := decide (1 ≤ m.length) && decide (m.length ≤ 4) && decide (1 ≤ (m.headD []).length) && decide ((m.headD []).length ≤ 4) && m.all (fun r => r.length == (m.headD []).length && chkL r == 0)
def chkM (m : List (List Fr)) : Int := if okM m then 0 else 50
end Go.Fra
namespace Go.Fra
open Go Go.RowKit Go.Num Go.Mem
/-- Block g holds n elements of two cells; the first k are done. -/
def Fill (w : World) (g : Nat) (T : TypeId) (n k : Nat) (ok : World → Nat → Value → Value → Prop) : Prop :=
 ∃ arr, Box w g arr T ∧ arr.size = n * 2 ∧ ∀ i, i < k → ∃ x y, arr[i * 2]? = some x ∧ arr[i * 2 + 1]? = some y ∧ ok w i x y
theorem Fill.box {w : World} {g : Nat} {T : TypeId} {n k : Nat} {ok : World → Nat → Value → Value → Prop} (h : Fill w g T n k ok) : ∃ arr, Box w g arr T ∧ arr.size = n * 2 := by
 obtain ⟨arr, h1, h2, -⟩ := h
 exact ⟨arr, h1, h2⟩
theorem Fill.lt {w : World} {g : Nat} {T : TypeId} {n k : Nat} {ok : World → Nat → Value → Value → Prop} (h : Fill w g T n k ok) : g < w.heap.size := by
 obtain ⟨arr, h1, -⟩ := h
 exact h1.lt
theorem Fill.isT {w : World} {g : Nat} {T : TypeId} {n k : Nat} {ok : World → Nat → Value → Value → Prop} (h : Fill w g T n k ok) : IsT w g T := by
 obtain ⟨arr, h1, -⟩ := h
 exact h1.isT
theorem Fill.later {w w' : World} {g : Nat} {T : TypeId} {n k : Nat} {ok : World → Nat → Value → Value → Prop} (h : Fill w g T n k ok) (hb : Below w.heap.size w w') (hok : ∀ i x y, ok w i x y → ok w' i x y) : Fill w' g T n k ok := by
 obtain ⟨arr, h1, h2, h3⟩ := h
 refine ⟨arr, h1.later hb, h2, fun i hi => ?_⟩
 obtain ⟨x, y, k1, k2, k3⟩ := h3 i hi
 exact ⟨x, y, k1, k2, hok _ _ _ k3⟩
/-- The two cells of element k, for the walk. -/
theorem Fill.cells {w : World} {g : Nat} {T : TypeId} {n k : Nat} {ok : World → Nat → Value → Value → Prop} (h : Fill w g T n k ok) {j : Nat} (hj : j < n) :
  (∃ x, w.cell? ⟨g, j * 2, none⟩ = some x) ∧ (∃ y, w.cell? ⟨g, j * 2 + 1, none⟩ = some y) ∧ ∀ o, w.frozen? ⟨g, o, none⟩ = false := by
 obtain ⟨arr, h1, h2, h3⟩ := h
 refine ⟨⟨arr[j * 2]'(by omega), ?_⟩, ⟨arr[j * 2 + 1]'(by omega), ?_⟩, h1.free⟩
 ·rw [h1.cell]; exact Array.getElem?_eq_getElem _
 ·rw [h1.cell]; exact Array.getElem?_eq_getElem _
theorem Fill.step {w : World} {g : Nat} {T : TypeId} {n k : Nat} {ok : World → Nat → Value → Value → Prop} {x y : Value} (h : Fill w g T n k ok) (hk : k < n)
  (hok : ∀ i x' y', ok w i x' y' → ok ((w.setCell ⟨g, k * 2, none⟩ x).setCell ⟨g, k * 2 + 1, none⟩ y) i x' y')
  (hx : ok ((w.setCell ⟨g, k * 2, none⟩ x).setCell ⟨g, k * 2 + 1, none⟩ y) k x y) :
  Fill ((w.setCell ⟨g, k * 2, none⟩ x).setCell ⟨g, k * 2 + 1, none⟩ y) g T n (k + 1) ok := by
 obtain ⟨arr, h1, h2, h3⟩ := h
 refine ⟨(arr.setIfInBounds (k * 2) x).setIfInBounds (k * 2 + 1) y, (h1.set _ _).set _ _, by simp [h2], fun i hi => ?_⟩
 rcases Nat.lt_or_ge i k with h | h
 ·obtain ⟨x', y', k1, k2, k3⟩ := h3 i h
  refine ⟨x', y', ?_, ?_, hok _ _ _ k3⟩
  ·rw [Array.getElem?_setIfInBounds, if_neg (by omega), Array.getElem?_setIfInBounds, if_neg (by omega), k1]
  ·rw [Array.getElem?_setIfInBounds, if_neg (by omega), Array.getElem?_setIfInBounds, if_neg (by omega), k2]
 ·obtain rfl : i = k := by omega
  refine ⟨x, y, ?_, ?_, hx⟩
  ·rw [Array.getElem?_setIfInBounds, if_neg (by omega), Array.getElem?_setIfInBounds, if_pos rfl, if_pos (by omega)]
  ·rw [Array.getElem?_setIfInBounds, if_pos rfl, if_pos (by simp; omega)]
theorem Fill.start {w : World} {base g n : Nat} {T : TypeId} {z : Array Value} {ok : World → Nat → Value → Value → Prop} (h : w.ownsRow base T 2 (.slice (some ⟨g, 0, none⟩) n n) n (madeCells z (n * 2)).toList) : Fill w g T n 0 ok := by
 obtain ⟨h1, h2 | ⟨g', cap, cur, h3, h4, h5, h6, h7, h8, h9⟩⟩ := h
 ·cases h2.1
 ·simp only [Value.slice.injEq, Option.some.injEq, Addr.mk.injEq, and_true, true_and] at h3
  obtain ⟨rfl, rfl⟩ := h3
  exact ⟨cur, h5, h8, fun i hi => by omega⟩
/-- Cells of an integer. -/
def IntC (f : Nat → Int) (w : World) (i : Nat) (x y : Value) : Prop := ∃ pa l ca, x = .slice pa l ca ∧ y = .bool (decide (f i < 0)) ∧ Mag w (.slice pa l ca) (f i).natAbs
theorem IntC.later {f : Nat → Int} {w w' : World} (hb : Below w.heap.size w w') (i : Nat) (x y : Value) (h : IntC f w i x y) : IntC f w' i x y := by
 obtain ⟨pa, l, ca, h1, h2, h3⟩ := h
 exact ⟨pa, l, ca, h1, h2, h3.later hb⟩
theorem IntC.setT {f : Nat → Int} {w : World} {b o : Nat} {T' : TypeId} {u : Value} (hx : IsT w b T') (hT : 113 ≠ T') (i : Nat) (x y : Value) (h : IntC f w i x y) : IntC f (w.setCell ⟨b, o, none⟩ u) i x y := by
 obtain ⟨pa, l, ca, h1, h2, h3⟩ := h
 exact ⟨pa, l, ca, h1, h2, h3.setT hx hT⟩
/-- The slice v reads as the integers l. -/
def IntsV (w : World) (v : Value) (l : List Int) : Prop :=
 ∃ a cap, v = .slice a l.length cap ∧ l.length ≤ cap ∧ cap ≤ 9223372036854775807 ∧ (a = none → cap = 0) ∧
  ∀ ad, a = some ad → ad.spot = none ∧ ∃ arr, Box w ad.block arr 99 ∧ ∀ i (h : i < l.length), ∃ x y, arr[ad.off + i * 2]? = some x ∧ arr[ad.off + i * 2 + 1]? = some y ∧ IntC (fun i => l.getD i 0) w i x y
theorem IntsV.later {w w' : World} {v : Value} {l : List Int} (h : IntsV w v l) (hb : Below w.heap.size w w') : IntsV w' v l := by
 obtain ⟨a, cap, h1, h2, h3, h4, h5⟩ := h
 refine ⟨a, cap, h1, h2, h3, h4, fun ad had => ?_⟩
 obtain ⟨h6, arr, h7, h8⟩ := h5 ad had
 refine ⟨h6, arr, h7.later hb, fun i hi => ?_⟩
 obtain ⟨x, y, k1, k2, k3⟩ := h8 i hi
 exact ⟨x, y, k1, k2, IntC.later hb _ _ _ k3⟩
theorem IntsV.of_fill {w : World} {g : Nat} {l : List Int} (h : Fill w g 99 l.length l.length (IntC fun i => l.getD i 0)) (hl : l.length ≤ 1000000) : IntsV w (.slice (some ⟨g, 0, none⟩) l.length l.length) l := by
 obtain ⟨arr, h1, h2, h3⟩ := h
 refine ⟨_, _, rfl, Nat.le_refl _, by omega, (fun h => by cases h), fun ad had => ?_⟩
 cases had
 refine ⟨rfl, arr, h1, fun i hi => ?_⟩
 obtain ⟨x, y, k1, k2, k3⟩ := h3 i hi
 exact ⟨x, y, by simpa using k1, by simpa using k2, k3⟩
/-- How integers are read. -/
theorem IntsV.read {w : World} {v : Value} {l : List Int} (h : IntsV w v l) :
  ∃ a cap, v = .slice a l.length cap ∧ l.length ≤ cap ∧ cap ≤ 9223372036854775807 ∧ ∀ k (_ : k < l.length), ∃ b off pa n ca, a = some ⟨b, off, none⟩ ∧ b < w.heap.size ∧ w.cell? ⟨b, off + k * 2, none⟩ = some (.slice pa n ca) ∧ w.cell? ⟨b, off + k * 2 + 1, none⟩ = some (.bool (decide (l.getD k 0 < 0))) ∧ Mag w (.slice pa n ca) (l.getD k 0).natAbs := by
 obtain ⟨a, cap, h1, h2, h3, h4, h5⟩ := h
 refine ⟨a, cap, h1, h2, h3, fun k hk => ?_⟩
 cases a with
 | none => have := h4 rfl; omega
 | some ad =>
  obtain ⟨h6, arr, h7, h8⟩ := h5 ad rfl
  obtain ⟨b, off, sp⟩ := ad
  simp only at h6
  subst h6
  obtain ⟨x, y, h9, h10, pa, n, ca, rfl, rfl, hm⟩ := h8 k hk
  exact ⟨b, off, pa, n, ca, rfl, h7.lt, (h7.cell _).trans h9, (h7.cell _).trans h10, hm⟩
/-- Cells of a fraction. -/
def FrC (f : Nat → Fr) (_ : World) (i : Nat) (x y : Value) : Prop := x = .string (f i).n ∧ y = .string (f i).d
theorem Frs.of_fill {w : World} {g : Nat} {T : TypeId} {l : List Fr} (h : Fill w g T l.length l.length (FrC fun i => l.getD i Fr.no)) (hl : l.length ≤ 1000000) : Frs w T (.slice (some ⟨g, 0, none⟩) l.length l.length) l := by
 obtain ⟨arr, h1, h2, h3⟩ := h
 refine ⟨_, _, rfl, Nat.le_refl _, by omega, (fun h => by cases h), fun ad had => ?_⟩
 cases had
 refine ⟨rfl, arr, h1, fun i hi => ?_⟩
 obtain ⟨x, y, k1, k2, k3, k4⟩ := h3 i hi
 have e : l.getD i Fr.no = l[i] := by simp [hi]
 have k3' : x = .string (l.getD i Fr.no).n := k3
 have k4' : y = .string (l.getD i Fr.no).d := k4
 rw [e] at k3' k4'
 exact ⟨by simpa [k3'] using k1, by simpa [k4'] using k2⟩
end Go.Fra
namespace Go.Fra
open Go Go.RowKit Go.Num Go.Mem
/-- Every block of cells, of a type not in l, is as it was. -/
def Keep (l : List TypeId) (w w' : World) : Prop := ∀ b cs T, T ∉ l → Box w b cs T → Box w' b cs T
theorem Keep.of_below {w w' : World} {l : List TypeId} (h : Below w.heap.size w w') : Keep l w w' := fun _ _ _ _ hx => hx.later h
theorem Keep.trans {a b c : World} {l : List TypeId} (h : Keep l a b) (k : Keep l b c) : Keep l a c := fun x cs T hT hx => k x cs T hT (h x cs T hT hx)
theorem Keep.mono {a b : World} {l m : List TypeId} (h : Keep l a b) (k : ∀ T, T ∈ l → T ∈ m) : Keep m a b := fun x cs T hT hx => h x cs T (fun e => hT (k T e)) hx
theorem Keep.setCell {w : World} {b : Nat} {T : TypeId} {o : Nat} {u : Value} (h : IsT w b T) : Keep [T] w (w.setCell ⟨b, o, none⟩ u) := fun x cs T' hT hx => by
 obtain ⟨cs', hb⟩ := h
 exact hx.setOther u (hx.ne hb (fun e => hT (by simp [e])))
theorem Keep.others {w w' : World} {row : Option Nat} (hg : w.grownBy w' row) (hr : ∀ r, row = some r → ∃ o : Obj, w.heap[r]? = some o ∧ o.isCells = false) : Keep [] w w' := fun b cs T _ h => by
 unfold Box at *
 rw [hg.block b (Array.getElem?_eq_some_iff.1 h).1 ?_]
 ·exact h
 ·intro e
  obtain ⟨o, ho, hc⟩ := hr b e.symm
  rw [h] at ho
  cases ho
  cases hc
theorem Keep.grown {w w' : World} {base k : Nat} {e : TypeId} {s : Nat} {v : Value} {xs : List Value} (hown : w.ownsRow base e s v k xs) (hg : w.grownBy w' v.ownBlock) : Keep [e] w w' := fun b cs T hT h => by
 unfold Box at *
 rw [hg.block b (Array.getElem?_eq_some_iff.1 h).1 ?_]
 ·exact h
 ·intro he
  obtain ⟨-, ⟨rfl, -⟩ | ⟨g, cap, cur, rfl, -, hgg, -⟩⟩ := hown
  ·cases he
  ·simp only [Value.ownBlock, Option.some.injEq] at he
   subst he
   rw [h] at hgg
   cases hgg
   exact hT (by simp)
theorem Row.kept {l : List TypeId} {w w' : World} {T : TypeId} {v : Value} {xs : List Value} (h : Row w T v xs) (k : Keep l w w') (hT : T ∉ l) : Row w' T v xs := by
 obtain ⟨a, cap, h1, h2, h3, h4, h5⟩ := h
 refine ⟨a, cap, h1, h2, h3, h4, fun ad had => ?_⟩
 obtain ⟨h6, arr, h7, h8⟩ := h5 ad had
 exact ⟨h6, arr, k _ _ _ hT h7, h8⟩
theorem Mag.kept {l : List TypeId} {w w' : World} {v : Value} {n : Nat} (h : Mag w v n) (k : Keep l w w') (hT : 113 ∉ l) : Mag w' v n := Row.kept h k hT
theorem IntV.kept {l : List TypeId} {w w' : World} {v : Value} {n : Int} (h : IntV w v n) (k : Keep l w w') (hT : 113 ∉ l) : IntV w' v n := by
 obtain ⟨pa, l, ca, h1, h2⟩ := h
 exact ⟨pa, l, ca, h1, Mag.kept h2 k hT⟩
theorem IntC.kept {l : List TypeId} {f : Nat → Int} {w w' : World} (k : Keep l w w') (hT : 113 ∉ l) (i : Nat) (x y : Value) (h : IntC f w i x y) : IntC f w' i x y := by
 obtain ⟨pa, l, ca, h1, h2, h3⟩ := h
 exact ⟨pa, l, ca, h1, h2, Mag.kept h3 k hT⟩
theorem IntsV.kept {l : List TypeId} {w w' : World} {v : Value} {xs : List Int} (h : IntsV w v xs) (k : Keep l w w') (hT : 113 ∉ l) (hT2 : 99 ∉ l) : IntsV w' v xs := by
 obtain ⟨a, cap, h1, h2, h3, h4, h5⟩ := h
 refine ⟨a, cap, h1, h2, h3, h4, fun ad had => ?_⟩
 obtain ⟨h6, arr, h7, h8⟩ := h5 ad had
 refine ⟨h6, arr, k _ _ _ hT2 h7, fun i hi => ?_⟩
 obtain ⟨x, y, k1, k2, k3⟩ := h8 i hi
 exact ⟨x, y, k1, k2, IntC.kept k hT _ _ _ k3⟩
theorem Frs.kept {l : List TypeId} {w w' : World} {T : TypeId} {v : Value} {xs : List Fr} (h : Frs w T v xs) (k : Keep l w w') (hT : T ∉ l) : Frs w' T v xs := by
 obtain ⟨a, cap, h1, h2, h3, h4, h5⟩ := h
 refine ⟨a, cap, h1, h2, h3, h4, fun ad had => ?_⟩
 obtain ⟨h6, arr, h7, h8⟩ := h5 ad had
 exact ⟨h6, arr, k _ _ _ hT h7, h8⟩
theorem owns_kept {l : List TypeId} {w w' : World} {base k s : Nat} {e : TypeId} {v : Value} {xs : List Value} (h : w.ownsRow base e s v k xs) (hk : Keep l w w') (hT : e ∉ l) : w'.ownsRow base e s v k xs := by
 refine ⟨h.1, ?_⟩
 rcases h.2 with hn | ⟨g, cap, cur, rfl, hb, hgg, rest⟩
 ·exact .inl hn
 ·exact .inr ⟨g, cap, cur, rfl, hb, hk g cur e hT hgg, rest⟩
theorem owns_later {w w' : World} {base k s : Nat} {e : TypeId} {v : Value} {xs : List Value} (h : w.ownsRow base e s v k xs) (hb : Below w.heap.size w w') : w'.ownsRow base e s v k xs := owns_kept (l := []) h (Keep.of_below hb) (by simp)
/-- Two lists, element by element. -/
def All2 {α β : Type} (R : α → β → Prop) (xs : List α) (ys : List β) : Prop := ys.length = xs.length ∧ ∀ i (h : i < xs.length) (h' : i < ys.length), R xs[i] ys[i]
theorem All2.nil {α β : Type} {R : α → β → Prop} : All2 R [] [] := ⟨rfl, fun i h => by cases h⟩
theorem All2.snoc {α β : Type} {R : α → β → Prop} {xs : List α} {ys : List β} {x : α} {y : β} (h : All2 R xs ys) (hr : R x y) : All2 R (xs ++ [x]) (ys ++ [y]) := by
 obtain ⟨h1, h2⟩ := h
 refine ⟨by simp [h1], fun i h h' => ?_⟩
 by_cases hi : i < xs.length
 ·rw [List.getElem_append_left hi, List.getElem_append_left (by omega)]
  exact h2 i hi (by omega)
 ·have e : i = xs.length := by simp at h; omega
  subst e
  rw [List.getElem_append_right (Nat.le_refl _), List.getElem_append_right (by omega)]
  simpa using hr
theorem All2.mono {α β : Type} {R S : α → β → Prop} {xs : List α} {ys : List β} (h : All2 R xs ys) (k : ∀ x y, R x y → S x y) : All2 S xs ys := ⟨h.1, fun i a b => k _ _ (h.2 i a b)⟩
/-- The slice v reads as rows of integers. -/
def RowsI (w : World) (v : Value) (xss : List (List Int)) : Prop := ∃ rs, Row w 103 v rs ∧ All2 (fun xs r => IntsV w r xs) xss rs
/-- The slice v reads as magnitudes. -/
def MagsV (w : World) (v : Value) (ds : List Nat) : Prop := ∃ rs, Row w 97 v rs ∧ All2 (fun d r => Mag w r d) ds rs
theorem RowsI.later {w w' : World} {v : Value} {xss : List (List Int)} (h : RowsI w v xss) (hb : Below w.heap.size w w') : RowsI w' v xss := by
 obtain ⟨rs, h1, h2⟩ := h
 exact ⟨rs, h1.later hb, h2.mono fun _ _ h => h.later hb⟩
theorem MagsV.later {w w' : World} {v : Value} {ds : List Nat} (h : MagsV w v ds) (hb : Below w.heap.size w w') : MagsV w' v ds := by
 obtain ⟨rs, h1, h2⟩ := h
 exact ⟨rs, h1.later hb, h2.mono fun _ _ h => h.later hb⟩
end Go.Fra
namespace Go.Fra
open Go Go.Num
/-- The quotient, towards 0. -/
def quo (z y : Int) : Int := Mem.sgd (z.natAbs / y.natAbs) (decide (z < 0) != decide (y < 0))
theorem quo_sz (z y : Int) : sz 1000000000 (quo z y).natAbs ≤ sz 1000000000 z.natAbs := by
 have : (quo z y).natAbs = z.natAbs / y.natAbs := by
  unfold quo Mem.sgd
  split
  ·rw [Int.natAbs_neg]
   exact Int.natAbs_natCast _
  ·exact Int.natAbs_natCast _
 rw [this]
 exact sz_div
/-- Element j of the sum of multiples of two rows. -/
def comb1 (xs ys : List Int) (k : Nat) (d : Int) (j : Nat) : Int := quo (ys.getD k 0 * xs.getD j 0 + -(xs.getD k 0 * ys.getD j 0)) d
def comb (xs ys : List Int) (k : Nat) (d : Int) : List Int := (List.range xs.length).map (comb1 xs ys k d)
theorem comb_length (xs ys : List Int) (k : Nat) (d : Int) : (comb xs ys k d).length = xs.length := by simp [comb]
theorem comb_getD {xs ys : List Int} {k : Nat} {d : Int} {j : Nat} (h : j < xs.length) : (comb xs ys k d).getD j 0 = comb1 xs ys k d j := by simp [comb, h]
theorem comb1_sz {xs ys : List Int} {S : Nat} (k1 : ∀ i, sz 1000000000 (xs.getD i 0).natAbs ≤ S) (k2 : ∀ i, sz 1000000000 (ys.getD i 0).natAbs ≤ S) (k : Nat) (d : Int) (j : Nat) : sz 1000000000 (comb1 xs ys k d j).natAbs ≤ 2 * S + 1 := by
 unfold comb1
 refine Nat.le_trans (quo_sz _ _) ?_
 have a1 := sz_absmul2 (ys.getD k 0) (xs.getD j 0)
 have a2 := sz_absmul2 (xs.getD k 0) (ys.getD j 0)
 have a3 := sz_absadd (ys.getD k 0 * xs.getD j 0) (-(xs.getD k 0 * ys.getD j 0))
 have b1 := k1 j
 have b2 := k2 j
 have b3 := k1 k
 have b4 := k2 k
 rw [Int.natAbs_neg] at a3
 omega
theorem comb_sz {xs ys : List Int} {S : Nat} (k1 : ∀ i, sz 1000000000 (xs.getD i 0).natAbs ≤ S) (k2 : ∀ i, sz 1000000000 (ys.getD i 0).natAbs ≤ S) (k : Nat) (d : Int) (j : Nat) : sz 1000000000 ((comb xs ys k d).getD j 0).natAbs ≤ 2 * S + 1 := by
 by_cases hj : j < xs.length
 ·rw [comb_getD hj]; exact comb1_sz k1 k2 k d j
 ·rw [List.getD_eq_getElem?_getD, List.getElem?_eq_none (by rw [comb_length]; omega)]
  simp [sz_zero]
abbrev IM := List (List Int)
def IM.at (rs : IM) (i j : Nat) : Int := (rs.getD i []).getD j 0
/-- The first row from k on that has no 0 in column k. -/
def pick (rs : IM) (k : Nat) : Option Nat := (List.range rs.length).find? fun i => decide (k ≤ i) && !decide (rs.at i k = 0)
theorem pick_some {rs : IM} {k i : Nat} (hk : k ≤ i) (hi : i < rs.length) (h0 : ∀ j, k ≤ j → j < i → rs.at j k = 0) (h1 : rs.at i k ≠ 0) : pick rs k = some i := by
 unfold pick
 rw [List.find?_range_eq_some]
 refine ⟨by simp [hk, h1], by simpa using hi, fun j hj => ?_⟩
 by_cases hkj : k ≤ j
 ·simp [h0 j hkj hj]
 ·simp [hkj]
theorem pick_none {rs : IM} {k : Nat} (h0 : ∀ j, k ≤ j → j < rs.length → rs.at j k = 0) : pick rs k = none := by
 unfold pick
 rw [List.find?_range_eq_none]
 intro j hj
 by_cases hkj : k ≤ j
 ·simp [h0 j hkj hj]
 ·simp [hkj]
def swapR (rs : IM) (i k : Nat) : IM := (rs.set i (rs.getD k [])).set k (rs.getD i [])
/-- All rows but k, with 0 in column k. -/
def clearRow (rs : IM) (k : Nat) (p : Int) (i : Nat) : List Int := if i = k then rs.getD i [] else comb (rs.getD i []) (rs.getD k []) k p
def clearCol (rs : IM) (k : Nat) (p : Int) : IM := (List.range rs.length).map (clearRow rs k p)
theorem clearCol_length (rs : IM) (k : Nat) (p : Int) : (clearCol rs k p).length = rs.length := by simp [clearCol]
theorem clearCol_getD {rs : IM} {k : Nat} {p : Int} {i : Nat} (h : i < rs.length) : (clearCol rs k p).getD i [] = clearRow rs k p i := by simp [clearCol, h]
def elim : Nat → Nat → IM → Int → Bool → Int × Bool × IM
 | 0, _, rs, p, t => (p, t, rs)
 | m + 1, k, rs, p, t => match pick rs k with
  | none => (0, false, rs)
  | some i => elim m (k + 1) (clearCol (if i = k then rs else swapR rs i k) k p) ((if i = k then rs else swapR rs i k).at k k) (if i = k then t else !t)
/-- Rows of one length, with numbers of at most S groups. -/
def IM.fits (rs : IM) (n c S : Nat) : Prop := rs.length = n ∧ (∀ i, i < n → (rs.getD i []).length = c) ∧ ∀ i j, sz 1000000000 (rs.at i j).natAbs ≤ S
theorem swapR_getD {rs : IM} {n i k j : Nat} (h1 : rs.length = n) (hi : i < n) (hk : k < n) (hj : j < n) : (swapR rs i k).getD j [] = rs.getD (if j = k then i else if j = i then k else j) [] := by
 unfold swapR
 simp only [List.getD_eq_getElem?_getD, List.getElem?_set, List.length_set]
 by_cases e1 : j = k
 ·subst e1
  simp [h1, hj]
 ·have e1' : ¬ k = j := fun e => e1 e.symm
  rw [if_neg e1', if_neg e1]
  by_cases e2 : j = i
  ·subst e2
   simp [h1, hj]
  ·have e2' : ¬ i = j := fun e => e2 e.symm
   rw [if_neg e2', if_neg e2]
theorem IM.fits.swap {rs : IM} {n c S i k : Nat} (h : rs.fits n c S) (hi : i < n) (hk : k < n) : (swapR rs i k).fits n c S := by
 obtain ⟨h1, h2, h3⟩ := h
 have key := fun j hj => swapR_getD (j := j) h1 hi hk hj
 refine ⟨by simp [swapR, h1], fun j hj => ?_, fun j l => ?_⟩
 ·rw [key j hj]
  split
  ·exact h2 i hi
  ·split
   ·exact h2 k hk
   ·exact h2 j hj
 ·by_cases hj : j < n
  ·unfold IM.at
   rw [key j hj]
   exact h3 _ l
  ·unfold IM.at
   have e : (swapR rs i k).getD j [] = [] := by rw [List.getD_eq_getElem?_getD, List.getElem?_eq_none (by simp [swapR, h1]; omega)]; rfl
   rw [e]
   simp [sz_zero]
theorem swapR_get {rs : IM} {n i k : Nat} (h1 : rs.length = n) (hi : i < n) (hk : k < n) : (swapR rs i k).at k k = rs.at i k := by
 unfold IM.at swapR
 simp only [List.getD_eq_getElem?_getD, List.getElem?_set, List.length_set]
 simp [h1, hk]
theorem IM.fits.clear {rs : IM} {n c S k : Nat} (h : rs.fits n c S) (p : Int) : (clearCol rs k p).fits n c (2 * S + 1) := by
 obtain ⟨h1, h2, h3⟩ := h
 refine ⟨by rw [clearCol_length, h1], fun j hj => ?_, fun j l => ?_⟩
 ·rw [clearCol_getD (by omega)]
  unfold clearRow
  split
  ·exact h2 j hj
  ·rw [comb_length]; exact h2 j hj
 ·by_cases hj : j < n
  ·unfold IM.at
   rw [clearCol_getD (by omega)]
   unfold clearRow
   split
   ·have := h3 j l; unfold IM.at at this; omega
   ·exact comb_sz (fun i => h3 j i) (fun i => h3 k i) k p l
  ·unfold IM.at
   have e : (clearCol rs k p).getD j [] = [] := by rw [List.getD_eq_getElem?_getD, List.getElem?_eq_none (by rw [clearCol_length]; omega)]; rfl
   rw [e]
   simp [sz_zero]
/-- Square rows, with those of the identity behind them. -/
def ext (rs : IM) : IM := (List.range rs.length).map fun i => (List.range (2 * rs.length)).map fun j => if j < rs.length then rs.at i j else if j = rs.length + i then 1 else 0
theorem IM.fits.mono {rs : IM} {n c S S' : Nat} (h : rs.fits n c S) (k : S ≤ S') : rs.fits n c S' := ⟨h.1, h.2.1, fun i j => Nat.le_trans (h.2.2 i j) k⟩
theorem pick_lt {rs : IM} {k i : Nat} (h : pick rs k = some i) : i < rs.length := by
 unfold pick at h
 rw [List.find?_range_eq_some] at h
 simpa using h.2.1
/-- Sizes behind m columns. -/
def growE (S : Nat) : Nat → Nat
 | 0 => S
 | m + 1 => growE (2 * S + 1) m
theorem le_growE : ∀ (m S : Nat), S ≤ growE S m
 | 0, _ => Nat.le_refl _
 | m + 1, S => Nat.le_trans (by omega) (le_growE m (2 * S + 1))
theorem growE_le {S m : Nat} (h : m ≤ 4) : growE S m ≤ 16 * S + 15 := by
 have : m = 0 ∨ m = 1 ∨ m = 2 ∨ m = 3 ∨ m = 4 := by omega
 rcases this with rfl | rfl | rfl | rfl | rfl <;> simp [growE] <;> omega
theorem elim_fits {n c : Nat} : ∀ (m k S : Nat) (rs : IM) (p : Int) (t : Bool), rs.fits n c S → sz 1000000000 p.natAbs ≤ S → k + m ≤ n → (elim m k rs p t).2.2.fits n c (growE S m) ∧ sz 1000000000 (elim m k rs p t).1.natAbs ≤ growE S m
 | 0, k, S, rs, p, t, h, hp, _ => ⟨h, hp⟩
 | m + 1, k, S, rs, p, t, h, hp, hk => by
  unfold elim
  split
  ·exact ⟨h.mono (le_growE _ _), by simp [sz_zero]⟩
  ·rename_i i hi
   have hin := pick_lt hi
   rw [h.1] at hin
   have h1 : IM.fits (if i = k then rs else swapR rs i k) n c S := by
    split
    ·exact h
    ·exact h.swap hin (by omega)
   exact elim_fits m (k + 1) (2 * S + 1) _ _ _ (h1.clear p) (Nat.le_trans (h1.2.2 k k) (by omega)) (by omega)
theorem ext_fits {rs : IM} {n S : Nat} (h : rs.fits n n S) (hS : 1 ≤ S) : (ext rs).fits n (2 * n) S := by
 obtain ⟨h1, h2, h3⟩ := h
 have hrow : ∀ i, i < n → (ext rs).getD i [] = (List.range (2 * n)).map fun j => if j < n then rs.at i j else if j = n + i then 1 else 0 := fun i hi => by
  unfold ext
  rw [h1]
  simp [hi]
 refine ⟨by simp [ext, h1], fun i hi => by rw [hrow i hi]; simp, fun i j => ?_⟩
 unfold IM.at
 by_cases hi : i < n
 ·rw [hrow i hi]
  by_cases hj : j < 2 * n
  ·have e : ((List.range (2 * n)).map fun j => if j < n then rs.at i j else if j = n + i then (1 : Int) else 0).getD j 0 = if j < n then rs.at i j else if j = n + i then 1 else 0 := by simp [hj]
   rw [e]
   split
   ·exact h3 i j
   ·split
    ·have : sz 1000000000 (1 : Int).natAbs = 1 := by decide +kernel
     omega
    ·simp [sz_zero]
  ·rw [List.getD_eq_getElem?_getD, List.getElem?_eq_none (by simp; omega)]
   simp [sz_zero]
 ·have e : (ext rs).getD i [] = [] := by rw [List.getD_eq_getElem?_getD, List.getElem?_eq_none (by simp [ext, h1]; omega)]; rfl
  rw [e]
  simp [sz_zero]
end Go.Fra
namespace Go.Fra
open Go Go.RowKit Go.Num Go.Mem
/-- The slice v, if it has a place, lies in another block than P. -/
def Off (P : Nat) (v : Value) : Prop := ∀ a m c, v = .slice (some a) m c → a.block ≠ P
/-- The rows at place off of block B; none lies in block P. -/
def RowsF (w : World) (P B off n : Nat) (f : Nat → List Int) : Prop := ∃ arr, Box w B arr 103 ∧ ∀ i, i < n → ∃ v, arr[off + i]? = some v ∧ IntsV w v (f i) ∧ Off P v
theorem RowsF.isT {w : World} {P B off n : Nat} {f : Nat → List Int} (h : RowsF w P B off n f) : IsT w B 103 := by
 obtain ⟨arr, h1, -⟩ := h
 exact h1.isT
theorem RowsF.lt {w : World} {P B off n : Nat} {f : Nat → List Int} (h : RowsF w P B off n f) : B < w.heap.size := by
 obtain ⟨arr, h1, -⟩ := h
 exact h1.lt
theorem RowsF.free {w : World} {P B off n : Nat} {f : Nat → List Int} (h : RowsF w P B off n f) (o : Nat) : w.frozen? ⟨B, o, none⟩ = false := by
 obtain ⟨arr, h1, -⟩ := h
 exact h1.free o
theorem RowsF.later {w w' : World} {P B off n : Nat} {f : Nat → List Int} (h : RowsF w P B off n f) (hb : Below w.heap.size w w') : RowsF w' P B off n f := by
 obtain ⟨arr, h1, h2⟩ := h
 refine ⟨arr, h1.later hb, fun i hi => ?_⟩
 obtain ⟨v, k1, k2, k3⟩ := h2 i hi
 exact ⟨v, k1, k2.later hb, k3⟩
theorem RowsF.congr {w : World} {P B off n : Nat} {f g : Nat → List Int} (h : RowsF w P B off n f) (e : ∀ i, i < n → f i = g i) : RowsF w P B off n g := by
 obtain ⟨arr, h1, h2⟩ := h
 refine ⟨arr, h1, fun i hi => ?_⟩
 obtain ⟨v, k1, k2, k3⟩ := h2 i hi
 exact ⟨v, k1, e i hi ▸ k2, k3⟩
theorem RowsF.get {w : World} {P B off n : Nat} {f : Nat → List Int} (h : RowsF w P B off n f) {i : Nat} (hi : i < n) :
  ∃ a c, w.cell? ⟨B, off + i, none⟩ = some (.slice a (f i).length c) ∧ (f i).length ≤ c ∧ c ≤ 9223372036854775807 ∧ IntsV w (.slice a (f i).length c) (f i) ∧ Off P (.slice a (f i).length c) := by
 obtain ⟨arr, h1, h2⟩ := h
 obtain ⟨v, k1, k2, k3⟩ := h2 i hi
 obtain ⟨a, c, rfl, k4, k5, -⟩ := k2.read
 exact ⟨a, c, (h1.cell _).trans k1, k4, k5, k2, k3⟩
/-- An element of a row. -/
theorem IntsV.elem {w : World} {P : Nat} {a : Option Addr} {m c : Nat} {l : List Int} (h : IntsV w (.slice a m c) l) (ho : Off P (.slice a m c)) {j : Nat} (hj : j < l.length) :
  ∃ b o pa n ca, a = some ⟨b, o, none⟩ ∧ b ≠ P ∧ b < w.heap.size ∧ w.cell? ⟨b, o + j * 2, none⟩ = some (.slice pa n ca) ∧ w.cell? ⟨b, o + j * 2 + 1, none⟩ = some (.bool (decide (l.getD j 0 < 0))) ∧ Mag w (.slice pa n ca) (l.getD j 0).natAbs := by
 obtain ⟨a', c', e, -, -, h2⟩ := h.read
 simp only [Value.slice.injEq] at e
 obtain ⟨rfl, rfl, rfl⟩ := e
 obtain ⟨b, o, pa, n, ca, rfl, k1, k2, k3, k4⟩ := h2 j hj
 exact ⟨b, o, pa, n, ca, rfl, ho _ _ _ rfl, k1, k2, k3, k4⟩
theorem IntsV.setOff {w : World} {P o : Nat} {v u : Value} {l : List Int} (h : IntsV w v l) (hv : Off P v) (hP : IsT w P 99) : IntsV (w.setCell ⟨P, o, none⟩ u) v l := by
 obtain ⟨a, cap, h1, h2, h3, h4, h5⟩ := h
 refine ⟨a, cap, h1, h2, h3, h4, fun ad had => ?_⟩
 subst had
 obtain ⟨h6, arr, h7, h8⟩ := h5 ad rfl
 refine ⟨h6, arr, h7.setOther u (hv ad _ _ h1), fun i hi => ?_⟩
 obtain ⟨x, y, k1, k2, k3⟩ := h8 i hi
 exact ⟨x, y, k1, k2, IntC.setT hP (by decide) _ _ _ k3⟩
theorem RowsF.setOff {w : World} {P B off n o : Nat} {f : Nat → List Int} {u : Value} (h : RowsF w P B off n f) (hP : IsT w P 99) : RowsF (w.setCell ⟨P, o, none⟩ u) P B off n f := by
 obtain ⟨arr, h1, h2⟩ := h
 obtain ⟨cs, hx⟩ := hP
 refine ⟨arr, h1.setOther u (h1.ne hx (by decide)), fun i hi => ?_⟩
 obtain ⟨v, k1, k2, k3⟩ := h2 i hi
 exact ⟨v, k1, k2.setOff k3 ⟨cs, hx⟩, k3⟩
theorem RowsF.set {w : World} {P B off n i : Nat} {f : Nat → List Int} {v : Value} {xs : List Int} (h : RowsF w P B off n f) (hi : i < n) (hv : IntsV w v xs) (ho : Off P v) : RowsF (w.setCell ⟨B, off + i, none⟩ v) P B off n (fun j => if j = i then xs else f j) := by
 have hB := h.isT
 obtain ⟨arr, h1, h2⟩ := h
 have hs : off + i < arr.size := by
  obtain ⟨u, k1, -⟩ := h2 i hi
  exact (Array.getElem?_eq_some_iff.1 k1).1
 refine ⟨arr.setIfInBounds (off + i) v, h1.set _ _, fun j hj => ?_⟩
 by_cases e : j = i
 ·subst e
  refine ⟨v, ?_, ?_, ho⟩
  ·rw [Array.getElem?_setIfInBounds, if_pos rfl, if_pos hs]
  ·simp only [if_true]
   exact hv.kept (Keep.setCell hB) (by decide) (by decide)
 ·obtain ⟨u, k1, k2, k3⟩ := h2 j hj
  refine ⟨u, ?_, ?_, k3⟩
  ·rw [Array.getElem?_setIfInBounds, if_neg (by omega), k1]
  ·simp only [if_neg e]
   exact k2.kept (Keep.setCell hB) (by decide) (by decide)
/-- The rows at place off of block B. -/
def RowsB (w : World) (B off n : Nat) (f : Nat → List Int) : Prop := ∃ arr, Box w B arr 103 ∧ ∀ i, i < n → ∃ v, arr[off + i]? = some v ∧ IntsV w v (f i)
theorem RowsF.rowsB {w : World} {P B off n : Nat} {f : Nat → List Int} (h : RowsF w P B off n f) : RowsB w B off n f := by
 obtain ⟨arr, h1, h2⟩ := h
 refine ⟨arr, h1, fun i hi => ?_⟩
 obtain ⟨v, k1, k2, -⟩ := h2 i hi
 exact ⟨v, k1, k2⟩
theorem IntsV.off {w : World} {v : Value} {l : List Int} (h : IntsV w v l) {P : Nat} (hP : w.heap.size ≤ P) : Off P v := by
 obtain ⟨a, cap, h1, h2, h3, h4, h5⟩ := h
 intro ad m c e
 rw [h1] at e
 simp only [Value.slice.injEq] at e
 obtain ⟨rfl, -, -⟩ := e
 obtain ⟨-, arr, h7, -⟩ := h5 ad rfl
 have := h7.lt
 omega
theorem RowsB.rowsF {w : World} {B off n : Nat} {f : Nat → List Int} (h : RowsB w B off n f) : RowsF w w.heap.size B off n f := by
 obtain ⟨arr, h1, h2⟩ := h
 refine ⟨arr, h1, fun i hi => ?_⟩
 obtain ⟨v, k1, k2⟩ := h2 i hi
 exact ⟨v, k1, k2, k2.off (Nat.le_refl _)⟩
theorem RowsF.alloc {w : World} {P B off n : Nat} {f : Nat → List Int} (h : RowsF w P B off n f) (o : Obj) : RowsF (w.alloc o) P B off n f := h.later ((Below.refl _ _).alloc (Nat.le_refl _) _)
theorem RowsF.drew {w : World} {P B off n : Nat} {f : Nat → List Int} (h : RowsF w P B off n f) : RowsF w.drew P B off n f := h.later (Below.drew (Below.refl _ _))
/-- Only block B has turned, and what is new. -/
def Near (w w' : World) (B : Nat) : Prop := w.grownBy w' (some B)
theorem Near.refl (w : World) (B : Nat) : Near w w B := near_refl w _
theorem Near.below {a w w' : World} {B : Nat} (h : Near a w B) (hb : Below w.heap.size w w') : Near a w' B :=
 ⟨hb.os.trans h.os, hb.tape.trans h.tape, hb.output.trans h.output, Nat.le_trans h.size hb.size, fun i hi hne => (hb.block i (Nat.lt_of_lt_of_le hi h.size)).trans (h.block i hi hne)⟩
theorem Near.set {a w : World} {B : Nat} (h : Near a w B) (o : Nat) (u : Value) : Near a (w.setCell ⟨B, o, none⟩ u) B := near_set h o u
theorem Near.setNew {a w : World} {B P : Nat} (h : Near a w B) (hP : a.heap.size ≤ P) (o : Nat) (u : Value) : Near a (w.setCell ⟨P, o, none⟩ u) B :=
 ⟨h.os, h.tape, h.output, by simpa [World.setCell] using h.size, fun i hi hne => (Below.heap_setCell w _ u i (by rintro rfl; exact absurd hi (by simp; omega))).trans (h.block i hi hne)⟩
theorem Near.size {a w : World} {B : Nat} (h : Near a w B) : a.heap.size ≤ w.heap.size := World.grownBy.size h
theorem Near.toBelow {b a w : World} {B : Nat} (h : Near a w B) (hb : Below b.heap.size b a) (hB : b.heap.size ≤ B) : Below b.heap.size b w :=
 below_of_near hb h hb.size hB
end Go.Fra
namespace Go.Fra
open Go Go.RowKit Go.Num Go.Mem
/-- Block M holds n rows; the first k are done. -/
def MFill (w : World) (M n k : Nat) (f : Nat → List Fr) : Prop :=
 ∃ arr, Box w M arr 56 ∧ arr.size = n ∧ ∀ i, i < k → ∃ v, arr[i]? = some v ∧ Frs w 36 v (f i)
theorem MFill.lt {w : World} {M n k : Nat} {f : Nat → List Fr} (h : MFill w M n k f) : M < w.heap.size := by
 obtain ⟨arr, h1, -⟩ := h
 exact h1.lt
theorem MFill.isT {w : World} {M n k : Nat} {f : Nat → List Fr} (h : MFill w M n k f) : IsT w M 56 := by
 obtain ⟨arr, h1, -⟩ := h
 exact h1.isT
theorem MFill.later {w w' : World} {M n k : Nat} {f : Nat → List Fr} (h : MFill w M n k f) (hb : Below w.heap.size w w') : MFill w' M n k f := by
 obtain ⟨arr, h1, h2, h3⟩ := h
 refine ⟨arr, h1.later hb, h2, fun i hi => ?_⟩
 obtain ⟨v, k1, k2⟩ := h3 i hi
 exact ⟨v, k1, k2.later hb⟩
theorem MFill.cell {w : World} {M n k : Nat} {f : Nat → List Fr} (h : MFill w M n k f) {j : Nat} (hj : j < n) : (∃ x, w.cell? ⟨M, j, none⟩ = some x) ∧ ∀ o, w.frozen? ⟨M, o, none⟩ = false := by
 obtain ⟨arr, h1, h2, -⟩ := h
 exact ⟨⟨arr[j]'(by omega), by rw [h1.cell]; exact Array.getElem?_eq_getElem _⟩, h1.free⟩
theorem MFill.start {w : World} {base g n : Nat} {z : Array Value} {f : Nat → List Fr} (h : w.ownsRow base 56 1 (.slice (some ⟨g, 0, none⟩) n n) n (madeCells z n).toList) : MFill w g n 0 f := by
 obtain ⟨h1, h2 | ⟨g', cap, cur, h3, h4, h5, h6, h7, h8, h9⟩⟩ := h
 ·cases h2.1
 ·simp only [Value.slice.injEq, Option.some.injEq, Addr.mk.injEq, and_true, true_and] at h3
  obtain ⟨rfl, rfl⟩ := h3
  exact ⟨cur, h5, by omega, fun i hi => by omega⟩
theorem Box.uniq {w : World} {b : Nat} {cs cs' : Array Value} {T T' : TypeId} (h : Box w b cs T) (h' : Box w b cs' T') : cs = cs' := by
 unfold Box at *
 rw [h] at h'
 injection h' with e
 injection e
theorem Near.box {w w' : World} {M b : Nat} {cs : Array Value} {T : TypeId} (h : Near w w' M) (hb : Box w b cs T) (hne : b ≠ M) : Box w' b cs T := by
 have hl := hb.lt
 unfold Box at *
 rw [World.grownBy.block h b hl (by simpa using hne)]
 exact hb
theorem Frs.near {w w' : World} {M : Nat} {T T' : TypeId} {v : Value} {l : List Fr} (h : Frs w T v l) (k : Near w w' M) (hM : IsT w M T') (hT : T ≠ T') : Frs w' T v l := by
 obtain ⟨a, cap, h1, h2, h3, h4, h5⟩ := h
 refine ⟨a, cap, h1, h2, h3, h4, fun ad had => ?_⟩
 obtain ⟨h6, arr, h7, h8⟩ := h5 ad had
 obtain ⟨cs, hM⟩ := hM
 exact ⟨h6, arr, k.box h7 (h7.ne hM hT), h8⟩
/-- A row is laid behind the others. -/
theorem MFill.step {w w' : World} {M n k : Nat} {f : Nat → List Fr} {v : Value} (h : MFill w M n k f) (hk : k < n) (hn : Near w w' M)
  (hb : ∀ arr, Box w M arr 56 → Box w' M (arr.setIfInBounds k v) 56) (hv : Frs w' 36 v (f k)) : MFill w' M n (k + 1) f := by
 have hM := h.isT
 obtain ⟨arr, h1, h2, h3⟩ := h
 refine ⟨arr.setIfInBounds k v, hb _ h1, by simp [h2], fun i hi => ?_⟩
 rcases Nat.lt_or_ge i k with h | h
 ·obtain ⟨u, k1, k2⟩ := h3 i h
  refine ⟨u, ?_, k2.near hn hM (by decide)⟩
  rw [Array.getElem?_setIfInBounds, if_neg (by omega), k1]
 ·obtain rfl : i = k := by omega
  refine ⟨v, ?_, hv⟩
  rw [Array.getElem?_setIfInBounds, if_pos rfl, if_pos (by omega)]
theorem MFill.matV {w : World} {M : Nat} {m : List (List Fr)} (h : MFill w M m.length m.length (fun i => m.getD i [])) (hm : m.length ≤ 1000000) : MatV w (.slice (some ⟨M, 0, none⟩) m.length m.length) m := by
 obtain ⟨arr, h1, h2, h3⟩ := h
 refine ⟨arr.toList, Row.mk ?_ ?_ (by omega) h1 ?_, ?_, ?_⟩
 ·simp [h2]
 ·simp [h2]
 ·intro i hi
  rw [Nat.zero_add]
  simp at hi
  simp [hi]
 ·simp [h2]
 ·intro i hi hi'
  obtain ⟨v, k1, k2⟩ := h3 i hi'
  have e : arr.toList[i] = v := by
   rw [Array.getElem_toList]
   exact (Array.getElem?_eq_some_iff.1 k1).2
  rw [e]
  have e2 : m.getD i [] = m[i] := by simp [hi']
  rw [← e2]
  exact k2
/-- A result that is a matrix or an error. -/
def MatPost (w : World) (er : Int) (m : List (List Fr)) (e : Ending) (w' : World) : Prop :=
 Below w.heap.size w w' ∧ ∃ v, e = .returned (.tuple #[v, .int .i64 er]) ∧ (er = 0 → MatV w' v m) ∧ (er ≠ 0 → v = .slice none 0 0)
theorem MatPost.no {w w' : World} {er : Int} {m : List (List Fr)} (hb : Below w.heap.size w w') (he : er ≠ 0) : MatPost w er m (.returned (.tuple #[.slice none 0 0, .int .i64 er])) w' :=
 ⟨hb, _, rfl, fun h => absurd h he, fun _ => rfl⟩
theorem MatPost.yes {w w' : World} {m : List (List Fr)} {v : Value} (hb : Below w.heap.size w w') (hv : MatV w' v m) : MatPost w 0 m (.returned (.tuple #[v, .int .i64 0])) w' :=
 ⟨hb, _, rfl, fun _ => hv, fun h => absurd rfl h⟩
def Fr.zero : Fr := ⟨⟨#[48]⟩, ⟨#[49]⟩⟩
def Fr.one : Fr := ⟨⟨#[49]⟩, ⟨#[49]⟩⟩
/-- The diagonal matrix of fractions. -/
def diagRow (l : List Fr) (r : Nat) : List Fr := (List.range l.length).map fun c => if c = r then l.getD r Fr.no else Fr.zero
def diagM (l : List Fr) : List (List Fr) := (List.range l.length).map (diagRow l)
def diagE (l : List Fr) : Int := if l.length < 1 ∨ 4 < l.length then 2 else chkL l
def idE (n : Int) : Int := if n < 1 ∨ 4 < n then 2 else 0
theorem Fill.put {w : World} {G n j : Nat} {T : TypeId} {f : Nat → Fr} {x : Fr} (h : Fill w G T n n (FrC f)) (hj : j < n) :
  Fill ((w.setCell ⟨G, j * 2, none⟩ (.string x.n)).setCell ⟨G, j * 2 + 1, none⟩ (.string x.d)) G T n n (FrC fun c => if c = j then x else f c) := by
 obtain ⟨arr, h1, h2, h3⟩ := h
 refine ⟨(arr.setIfInBounds (j * 2) (.string x.n)).setIfInBounds (j * 2 + 1) (.string x.d), (h1.set _ _).set _ _, by simp [h2], fun i hi => ?_⟩
 by_cases e : i = j
 ·subst e
  refine ⟨.string x.n, .string x.d, ?_, ?_, ?_⟩
  ·rw [Array.getElem?_setIfInBounds, if_neg (by omega), Array.getElem?_setIfInBounds, if_pos rfl, if_pos (by omega)]
  ·rw [Array.getElem?_setIfInBounds, if_pos rfl, if_pos (by simp; omega)]
  ·unfold FrC
   simp only [if_true, and_self]
 ·obtain ⟨x', y', k1, k2, k3⟩ := h3 i hi
  refine ⟨x', y', ?_, ?_, ?_⟩
  ·rw [Array.getElem?_setIfInBounds, if_neg (by omega), Array.getElem?_setIfInBounds, if_neg (by omega), k1]
  ·rw [Array.getElem?_setIfInBounds, if_neg (by omega), Array.getElem?_setIfInBounds, if_neg (by omega), k2]
  ·unfold FrC at *
   simp only [if_neg e]
   exact k3
theorem Fill.other {w : World} {g : Nat} {T : TypeId} {n k : Nat} {f : Nat → Fr} (h : Fill w g T n k (FrC f)) {a : Addr} (u : Value) (hne : g ≠ a.block) : Fill (w.setCell a u) g T n k (FrC f) := by
 obtain ⟨arr, h1, h2, h3⟩ := h
 exact ⟨arr, h1.setOther u hne, h2, h3⟩
theorem Fill.laterF {w w' : World} {g : Nat} {T : TypeId} {n k : Nat} {f : Nat → Fr} (h : Fill w g T n k (FrC f)) (hb : Below w.heap.size w w') : Fill w' g T n k (FrC f) := h.later hb (fun _ _ _ h => h)
theorem Fill.frs {w : World} {g : Nat} {T : TypeId} {n : Nat} {l : List Fr} (h : Fill w g T n n (FrC fun i => l.getD i Fr.no)) (hn : l.length = n) (hl : n ≤ 1000000) : Frs w T (.slice (some ⟨g, 0, none⟩) n n) l := by
 subst hn
 exact Frs.of_fill h hl
theorem Fill.congrF {w : World} {g : Nat} {T : TypeId} {n k : Nat} {f f' : Nat → Fr} (h : Fill w g T n k (FrC f)) (e : ∀ i, i < k → f i = f' i) : Fill w g T n k (FrC f') := by
 obtain ⟨arr, h1, h2, h3⟩ := h
 refine ⟨arr, h1, h2, fun i hi => ?_⟩
 obtain ⟨x, y, k1, k2, k3⟩ := h3 i hi
 refine ⟨x, y, k1, k2, ?_⟩
 unfold FrC at *
 rw [← e i hi]
 exact k3
end Go.Fra
namespace Go.Fra
open Go Go.Num
def cden (qs : List Rat) : Nat := qs.foldl (fun a q => a * (q.den / a.gcd q.den)) 1
def ctop (D : Nat) (q : Rat) : Int := q.num * ((D / q.den : Nat) : Int)
theorem cden_snoc (qs : List Rat) (q : Rat) : cden (qs ++ [q]) = cden qs * (q.den / (cden qs).gcd q.den) := by simp [cden]
theorem cden_take {qs : List Rat} {k : Nat} (h : k < qs.length) : cden (qs.take (k + 1)) = cden (qs.take k) * (qs[k].den / (cden (qs.take k)).gcd qs[k].den) := by
 rw [List.take_succ_eq_append_getElem h, cden_snoc]
theorem snoc_induct {α : Type} {Q : List α → Prop} (h0 : Q []) (h1 : ∀ l a, Q l → Q (l ++ [a])) (l : List α) : Q l := by
 have : ∀ n (l : List α), l.length = n → Q l := by
  intro n
  induction n with
  | zero => intro l hl; rw [List.length_eq_zero_iff] at hl; subst hl; exact h0
  | succ n ih =>
   intro l hl
   have hne : l ≠ [] := fun e => by subst e; simp at hl
   rw [← List.dropLast_concat_getLast hne]
   exact h1 _ _ (ih _ (by simp [hl]))
 exact this _ l rfl
theorem cden_facts (qs : List Rat) : 0 < cden qs ∧ (∀ q ∈ qs, q.den ∣ cden qs) := by
 induction qs using snoc_induct with
 | h0 => exact ⟨by simp [cden], fun q h => by cases h⟩
 | h1 l a ih =>
  obtain ⟨h1, h2⟩ := ih
  rw [cden_snoc]
  have hg : (cden l).gcd a.den ∣ a.den := Nat.gcd_dvd_right _ _
  refine ⟨Nat.mul_pos h1 (Nat.div_pos (Nat.le_of_dvd a.den_pos hg) (Nat.gcd_pos_of_pos_right _ a.den_pos)), fun q hq => ?_⟩
  rcases List.mem_append.1 hq with h | h
  ·exact Nat.dvd_trans (h2 q h) (Nat.dvd_mul_right _ _)
  ·rw [List.mem_singleton] at h
   subst h
   obtain ⟨c, hc⟩ := Nat.gcd_dvd_left (cden l) q.den
   rw [← Nat.mul_div_assoc _ hg, Nat.mul_div_right_comm (Nat.gcd_dvd_left _ _)]
   exact Nat.dvd_mul_left _ _
theorem cden_sz (qs : List Rat) (h : ∀ q ∈ qs, okq q = true) : sz 1000000000 (cden qs) ≤ 67 * qs.length + 1 := by
 induction qs using snoc_induct with
 | h0 => exact sz_le_of_lt (by omega) 1 _ (by simp [cden])
 | h1 l a ih =>
  rw [cden_snoc, List.length_append, List.length_singleton]
  have h1 := ih (fun q hq => h q (by simp [hq]))
  have h2 := (okq_sz (h a (by simp))).2
  have h3 := sz_mul (B := 1000000000) (by omega) (cden l) (a.den / (cden l).gcd a.den)
  have h4 := @sz_div a.den ((cden l).gcd a.den)
  omega
theorem ctop_eq {D : Nat} {q : Rat} (hD : 0 < D) (h : q.den ∣ D) : ((ctop D q : Int) : Rat) / ((D : Nat) : Rat) = q := by
 obtain ⟨c, rfl⟩ := h
 have hc : 0 < c := by rcases Nat.eq_zero_or_pos c with e | e; subst e; simp at hD; exact e
 unfold ctop
 rw [Nat.mul_div_cancel_left _ q.den_pos]
 have e : q = (q.num : Rat) / ((q.den : Nat) : Rat) := by
  rw [← Rat.mkRat_eq_div, Rat.mkRat_self]
 have h1 : ((q.den : Nat) : Rat) ≠ 0 := by
  rw [Ne, Rat.natCast_eq_zero_iff]
  exact q.den_nz
 have h2 : ((c : Nat) : Rat) ≠ 0 := by
  rw [Ne, Rat.natCast_eq_zero_iff]
  omega
 rw [Rat.intCast_mul, Rat.natCast_mul, Rat.intCast_natCast]
 generalize hn : (q.num : Rat) = n at *
 generalize hd : ((q.den : Nat) : Rat) = d at *
 generalize hcc : ((c : Nat) : Rat) = c' at *
 rw [e]
 grind
end Go.Fra
namespace Go.SW
open Go Go.RowKit
section
variable {P : Program} {ops : Array Oper} {Q : Exit → Act → World → Prop}
theorem any_of_walk {a : Act} {w : World} (is : List (K × Nat)) (hc : check ops is = true) (hal : AllocRuns P ops is)
  (hQ : ∀ c (a s : Act) w, s.defers = a.defers → Q (.panic c) a w → Q (.panic c) s w)
  (h : walk P ops Q w.heap.size is [] a w.drew) : wpAny P .any ops Q ops.size (Array.replicate ops.size false) a w.drew := by
 unfold check at hc
 simp only [Bool.and_eq_true, decide_eq_true_eq] at hc
 obtain ⟨⟨⟨⟨⟨h1, h2⟩, h3⟩, h4⟩, h5⟩, h6⟩ := hc
 refine phase_main h1 h2 hQ w.heap.size ops.size is [] [] [] _ a a w.drew ?_ ?_ h3 h4 (by simp) (by simp) hal ?_ h
 ·rw [allocWith_nil]; exact h5
 ·refine ⟨by simp, fun i hi => ?_, fun j o hj hl => ?_, rfl, rfl, fun t _ _ => rfl, by simp, by simp, by simp, by simp⟩
  ·have hmem : i ∈ is.map (·.2) := by simpa using List.all_eq_true.1 h6 i (List.mem_range.2 hi)
   simp [hi] 
   simpa using hmem
  ·have hj' := (Array.getElem?_eq_some_iff.1 hj).1
   simp [hj'] at hl
 ·exact ⟨by simp, by simp, by simp, by simp, Nat.le_refl _⟩
end
theorem rowsIn_wide {n l : Nat} {P : Program} {row : String} {args : Array Value} {w : World} {R : Value → World → Prop} (h : Rows P row args w R) : RowsIn (Fence.wide.inRound l) n P row args w R :=
 fun c cs _ => let ⟨v, w', r, s⟩ := h c cs; ⟨v, w', r, stepsIn_wide.2 s⟩
theorem uponIn_of_upon {P : Program} {n l : Nat} {o : Oper} {a : Act} {K : Act → World → Prop} {Q : Exit → Act → World → Prop} {r : Result Next} (h : o.upon P a K Q r) : o.uponIn (Fence.wide.inRound l) n P a K Q r := by
 cases r with
 | ok x w' =>
  cases x <;> simp only [Oper.upon, Oper.uponIn] at h ⊢ <;> first | exact h | exact ⟨fun e => (by cases e), CallsIn.inRound l (callsIn_wide.2 h)⟩ | exact ⟨fun e => (by cases e), rowsIn_wide h⟩ | exact h.elim
 | halt x w' => cases x <;> simp only [Oper.upon, Oper.uponIn] at h ⊢ <;> first | exact h | exact h.elim
theorem wpIn_of_wp {P : Program} {n l : Nat} {o : Oper} {a : Act} {w : World} {K : Act → World → Prop} {Q : Exit → Act → World → Prop} (hd : ∀ c, o.op ≠ .defer c) (h : o.wp P a w K Q) : o.wpIn (Fence.wide.inRound l) n P a w K Q := by
 refine ⟨fun _ _ => trivial, ?_⟩
 have e : o.semAt (Fence.wide.inRound l).round a.eval = execOp a.eval o := Oper.semAt_eq _ _ _ hd
 rw [e]
 exact uponIn_of_upon h
theorem wpOpIn_of_wpOp {P : Program} {n l : Nat} {ops : Array Oper} {i : Nat} {a : Act} {w : World} {K : Act → World → Prop} {Q : Exit → Act → World → Prop} (hd : ∀ (i : Nat) o, ops[i]? = some o → ∀ c, o.op ≠ .defer c) (hQ : ¬ LetsOut Q) (h : wpOp P ops Q i K a w) : wpOpIn (Fence.wide.inRound l) n P ops Q i K a w := by
 unfold wpOp at h
 unfold wpOpIn
 split
 ·rename_i e; simpa [e] using h
 ·rename_i o e
  simp only [e] at h
  split
  ·rename_i hw
   simp only [hw, if_true] at h
   rcases h with h | h
   ·exact wpIn_of_wp (hd i o e) h
   ·exact absurd h.2 hQ
  ·rename_i hw
   simp only [hw] at h
   exact ⟨fun _ _ => trivial, h⟩
theorem wpAnyIn_of_wpAny {P : Program} {n l : Nat} {ops : Array Oper} {md : Region.Mode} {Q : Exit → Act → World → Prop} (hd : ∀ (i : Nat) o, ops[i]? = some o → ∀ c, o.op ≠ .defer c) (hQ : ¬ LetsOut Q) : ∀ (fuel : Nat) (listed : Array Bool) (a : Act) (w : World), wpAny P md ops Q fuel listed a w → wpAnyIn (Fence.wide.inRound l) n P md ops Q fuel listed a w
 | 0, _, _, _, h => h
 | fuel + 1, _, _, _, h => ⟨h.1, fun i hi => wpOpIn_mono (fun a w h => wpAnyIn_of_wpAny hd hQ fuel _ a w h) (wpOpIn_of_wpOp hd hQ (h.2 i hi))⟩
def noDefer (ops : Array Oper) : Bool := ops.all fun o => match o.op with | .defer _ => false | _ => true
theorem noDefer_spec {ops : Array Oper} (h : noDefer ops = true) : ∀ (i : Nat) o, ops[i]? = some o → ∀ c, o.op ≠ .defer c := fun i o e c hc => by
 have h2 := Array.getElem?_eq_some_iff.1 e
 obtain ⟨hi, rfl⟩ := h2
 have := Array.all_eq_true.1 h i hi
 rw [hc] at this
 cases this
theorem wpIn_region_walk {P : Program} {n l id : Nat} {ops : Array Oper} {Q : Exit → Act → World → Prop} {a : Act} {w : World} (is : List (K × Nat)) (hm : P.follows .mixedOrders = true) (hd : noDefer ops = true) (hc : check ops is = true) (hal : AllocRuns P ops is) (hQ0 : ¬ LetsOut Q)
  (hQ : ∀ c (a s : Act) w, s.defers = a.defers → Q (.panic c) a w → Q (.panic c) s w)
  (h : walk P ops Q w.heap.size is [] a w.drew) : (Code.region id ops true).wpIn (Fence.wide.inRound l) n P Q a w :=
 wpIn_region_any hm (wpAnyIn_of_wpAny (noDefer_spec hd) hQ0 _ _ _ _ (any_of_walk is hc hal hQ h))
end Go.SW
namespace Go.Fra
open Go Go.Num
/-- The sum of products of two lists of the same length. -/
def dotQ (r s : List Rat) : Rat := (List.zipWith (· * ·) r s).foldl (· + ·) 0
def psumI (f : Nat → Int) : Nat → Int
 | 0 => 0
 | k + 1 => psumI f k + f k
def psumQ (f : Nat → Rat) : Nat → Rat
 | 0 => 0
 | k + 1 => psumQ f k + f k
theorem psumQ_congr {f g : Nat → Rat} : ∀ {n : Nat}, (∀ i, i < n → f i = g i) → psumQ f n = psumQ g n
 | 0, _ => rfl
 | n + 1, h => by simp only [psumQ]; rw [psumQ_congr (fun i hi => h i (by omega)), h n (by omega)]
theorem psumQ_div (f : Nat → Int) (d : Rat) : ∀ n, ((psumI f n : Int) : Rat) / d = psumQ (fun i => ((f i : Int) : Rat) / d) n
 | 0 => by simp [psumI, psumQ, Rat.div_def]
 | n + 1 => by
  simp only [psumI, psumQ]
  rw [← psumQ_div f d n, Rat.intCast_add, Rat.div_def, Rat.div_def, Rat.div_def, Rat.add_mul]
theorem foldl_psumQ (xs : List Rat) : xs.foldl (· + ·) 0 = psumQ (fun i => xs.getD i 0) xs.length := by
 induction xs using snoc_induct with
 | h0 => rfl
 | h1 l a ih =>
  rw [List.foldl_append, ih, List.length_append, List.length_singleton]
  simp only [List.foldl_cons, List.foldl_nil, psumQ]
  congr 1
  ·exact psumQ_congr fun i hi => by simp [hi, List.getElem?_append_left]
  ·simp
theorem dotQ_psum {r s : List Rat} (h : s.length = r.length) : dotQ r s = psumQ (fun i => r.getD i 0 * s.getD i 0) r.length := by
 unfold dotQ
 rw [foldl_psumQ, List.length_zipWith, h, Nat.min_self]
 exact psumQ_congr fun i hi => by
  have hs : i < s.length := by omega
  simp [hi, hs, List.getElem?_zipWith]
/-- The quotient of the program is the sum of products. -/
theorem dot_eq {r s : List Rat} (h : s.length = r.length) :
  ((psumI (fun i => (r.map (ctop (cden r))).getD i 0 * (s.map (ctop (cden s))).getD i 0) r.length : Int) : Rat) / ((cden r * cden s : Nat) : Rat) = dotQ r s := by
 rw [dotQ_psum h, psumQ_div]
 refine psumQ_congr fun i hi => ?_
 have hs : i < s.length := by omega
 obtain ⟨hr1, hr2⟩ := cden_facts r
 obtain ⟨hs1, hs2⟩ := cden_facts s
 have e1 := ctop_eq hr1 (hr2 r[i] (List.getElem_mem hi))
 have e2 := ctop_eq hs1 (hs2 s[i] (List.getElem_mem hs))
 have g1 : (r.map (ctop (cden r))).getD i 0 = ctop (cden r) r[i] := by simp [hi]
 have g2 : (s.map (ctop (cden s))).getD i 0 = ctop (cden s) s[i] := by simp [hs]
 have g3 : r.getD i 0 = r[i] := by simp [hi]
 have g4 : s.getD i 0 = s[i] := by simp [hs]
 rw [g1, g2, g3, g4, Rat.intCast_mul, Rat.natCast_mul]
 have n1 : ((cden r : Nat) : Rat) ≠ 0 := by rw [Ne, Rat.natCast_eq_zero_iff]; omega
 have n2 : ((cden s : Nat) : Rat) ≠ 0 := by rw [Ne, Rat.natCast_eq_zero_iff]; omega
 generalize ((ctop (cden r) r[i] : Int) : Rat) = a at *
 generalize ((ctop (cden s) s[i] : Int) : Rat) = b at *
 generalize ((cden r : Nat) : Rat) = c at *
 generalize ((cden s : Nat) : Rat) = d at *
 rw [← e1, ← e2]
 grind
theorem ctop_sz {qs : List Rat} (h : ∀ q ∈ qs, okq q = true) (hl : qs.length ≤ 4) (i : Nat) : sz 1000000000 ((qs.map (ctop (cden qs))).getD i 0).natAbs ≤ 1000 := by
 by_cases hi : i < qs.length
 ·have g1 : (qs.map (ctop (cden qs))).getD i 0 = ctop (cden qs) qs[i] := by simp [hi]
  rw [g1]
  unfold ctop
  have h1 := sz_absmul qs[i].num (cden qs / qs[i].den)
  have h2 := (okq_sz (h _ (List.getElem_mem hi))).1
  have h3 := @sz_div (cden qs) qs[i].den
  have h4 := cden_sz qs h
  omega
 ·have g1 : (qs.map (ctop (cden qs))).getD i 0 = 0 := by
   rw [List.getD_eq_getElem?_getD, List.getElem?_eq_none (by rw [List.length_map]; omega)]
   rfl
  rw [g1]
  simp [sz_zero]
end Go.Fra
namespace Go.SW
open Go Go.RowKit
variable {P : Program} {ops : Array Oper} {Q : Exit → Act → World → Prop} {o : Oper} {i : Nat} {is : List (K × Nat)} {a : Act} {w : World} {N : Nat} {A : List Nat}
theorem walk_pureG (ho : ops[i]? = some o) (hw : Region.wanted o (yielded ops a.tmps) = true) (h : ∀ J : Act → Prop, (∀ a, walk P ops Q N is A a w → J a) → ∃ v, (∀ w', (execOp a.eval o).run P w' = .ok (.value v) w') ∧ J (a.put o.dst v)) : walk P ops Q N ((.pure, i) :: is) A a w := by
 refine walk_pure ho fun J hJ => ?_
 rw [if_pos hw]
 exact h J hJ
theorem walk_loadG {T : TypeId} {x : Operand} {p : Addr} (ho : ops[i]? = some o) (hw : Region.wanted o (yielded ops a.tmps) = true) (hop : o.op = .load T x) (hx : a.eval x = .pointer (some p))
  (h : ∀ J : Value → Prop, (∀ v, walk P ops Q N is A (a.put o.dst v) w → J v) → (w.cell? p).isSome = true ∧ ∃ v, (loadVar T p).run P w = .ok v w ∧ J v) : walk P ops Q N ((.read, i) :: is) A a w := by
 unfold walk
 simp only [ho, hw, if_true]
 obtain ⟨h1, v, h2, h3⟩ := h (fun v => walk P ops Q N is A (a.put o.dst v) w) fun _ h => h
 refine ⟨v, fun w' hb => ?_, h3⟩
 simp only [execOp, hop, hx, Instr.loadAt, Instr.sureAddr, Sem.run_bind, Sem.run_pure, Result.andThen_ok, loadVar_later hb h1 h2]
theorem walk_extG (ho : ops[i]? = some o) (hw : Region.wanted o (yielded ops a.tmps) = true) (h : ∀ w', Below w.heap.size w w' → ∀ J : Act → World → Prop, (∀ a' w'', Below w'.heap.size w' w'' → walk P ops Q N is A a' w'' → J a' w'') → o.wp P a w' J Q) : walk P ops Q N ((.ext, i) :: is) A a w := by
 unfold walk
 simp only [ho, hw, if_true]
 exact fun w' hb => h w' hb _ fun a' w'' h1 h2 => ⟨h1, h2⟩
end Go.SW
namespace Go.Proofs
open Go Go.RowKit Go.SW Go.Num Go.Mem
theorem run_eqTri (w : World) (a1 a2 a3 a4 a5 a6 b1 b2 b3 b4 b5 b6 : ByteArray) :
  (Op.equalIn 10000 38 (.agg #[.string a1, .string a2, .string a3, .string a4, .string a5, .string a6]) (.agg #[.string b1, .string b2, .string b3, .string b4, .string b5, .string b6])).run Tryz.prog w
   = .ok (((a1 == b1) && (a2 == b2)) && ((a3 == b3) && (a4 == b4)) && ((a5 == b5) && (a6 == b6))) w := by
 obtain ⟨i0, hi⟩ := Option.isSome_iff_exists.1 (show (Tryz.prog.info? 36).isSome = true by kernel_rfl)
 rw [run_equalIn_array w 9999 _ _ Tryz.underlying38 hi]
 have hc : Tryz.prog.cellsOf 36 = 2 := by kernel_rfl
 rw [hc]
 go_simp
 simp only [Op.eqItems]
 go_simp
 simp only [beq_toListBytes]
 by_cases h1 : a1.toList = b1.toList <;> by_cases h2 : a2.toList = b2.toList <;> by_cases h3 : a3.toList = b3.toList <;> by_cases h4 : a4.toList = b4.toList <;> by_cases h5 : a5.toList = b5.toList <;> by_cases h6 : a6.toList = b6.toList <;> simp [h1, h2, h3, h4, h5, h6]
theorem run_eqTri_same (a1 a2 a3 a4 a5 a6 : ByteArray) (w : World) :
  (Op.equalIn 10000 38 (.agg #[.string a1, .string a2, .string a3, .string a4, .string a5, .string a6]) (.agg #[.string a1, .string a2, .string a3, .string a4, .string a5, .string a6])).run Tryz.prog w = .ok true w := by
 rw [run_eqTri]
 simp [beq_toListBytes]
end Go.Proofs
namespace Go.Fra
open Go Go.Num
theorem quo_mul (y q : Int) (hy : y ≠ 0) : quo (y * q) y = q := by
 unfold quo Mem.sgd
 rw [Int.natAbs_mul, Nat.mul_div_cancel_left _ (by omega)]
 rcases Int.lt_trichotomy q 0 with h | h | h
 ·rcases Int.lt_or_lt_of_ne hy with h' | h'
  ·have e1 : ¬ y * q < 0 := by have := Int.mul_pos_of_neg_of_neg h' h; omega
   simp [e1, h']; omega
  ·have e1 : y * q < 0 := Int.mul_neg_of_pos_of_neg h' h
   have e2 : ¬ y < 0 := by omega
   simp [e1, e2]; omega
 ·subst h
  simp
 ·rcases Int.lt_or_lt_of_ne hy with h' | h'
  ·have e1 : y * q < 0 := Int.mul_neg_of_neg_of_pos h' h
   simp [e1, h']; omega
  ·have e1 : ¬ y * q < 0 := by have := Int.mul_pos h' h; omega
   have e2 : ¬ y < 0 := by omega
   simp [e1, e2]; omega
theorem quo_one (z : Int) : quo z 1 = z := by
 have := quo_mul 1 z (by omega)
 rwa [Int.one_mul] at this
theorem pick_spec {rs : IM} {k : Nat} : (∃ i, pick rs k = some i ∧ k ≤ i ∧ i < rs.length ∧ rs.at i k ≠ 0) ∨ (pick rs k = none ∧ ∀ j, k ≤ j → j < rs.length → rs.at j k = 0) := by
 cases h : pick rs k with
 | some i =>
  left
  have h' := h
  unfold pick at h'
  rw [List.find?_range_eq_some] at h'
  obtain ⟨h1, h2, h3⟩ := h'
  simp at h1 h2
  exact ⟨i, rfl, h1.1, h2, h1.2⟩
 | none =>
  right
  have h' := h
  unfold pick at h'
  rw [List.find?_range_eq_none] at h'
  exact ⟨rfl, fun j hj hl => by have := h' j hl; simpa [hj] using this⟩
/-- Three rows of six numbers. -/
def Sh (rs : IM) (a b c : Nat → Int) : Prop := rs.length = 3 ∧ (∀ i, i < 3 → (rs.getD i []).length = 6) ∧ ∀ j, j < 6 → rs.at 0 j = a j ∧ rs.at 1 j = b j ∧ rs.at 2 j = c j
theorem clear_at {rs : IM} {a b c : Nat → Int} (h : Sh rs a b c) {k : Nat} {p : Int} {i j : Nat} (hi : i < 3) (hj : j < 6) :
  (clearCol rs k p).at i j = if i = k then rs.at i j else quo (rs.at k k * rs.at i j + -(rs.at i k * rs.at k j)) p := by
 obtain ⟨h1, h2, h3⟩ := h
 unfold IM.at
 rw [clearCol_getD (by omega)]
 unfold clearRow
 by_cases e : i = k
 ·rw [if_pos e, if_pos e]
 ·rw [if_neg e, if_neg e, comb_getD (by rw [h2 i hi]; exact hj)]
  rfl
theorem clear_len {rs : IM} {a b c : Nat → Int} (h : Sh rs a b c) {k : Nat} {p : Int} : (clearCol rs k p).length = 3 ∧ ∀ i, i < 3 → ((clearCol rs k p).getD i []).length = 6 := by
 obtain ⟨h1, h2, h3⟩ := h
 refine ⟨by rw [clearCol_length, h1], fun i hi => ?_⟩
 rw [clearCol_getD (by omega)]
 unfold clearRow
 by_cases e : i = k
 ·rw [if_pos e]; exact h2 i hi
 ·rw [if_neg e, comb_length]; exact h2 i hi
theorem Sh.congr {rs : IM} {a b c a' b' c' : Nat → Int} (h : Sh rs a b c) (k : ∀ j, j < 6 → a j = a' j ∧ b j = b' j ∧ c j = c' j) : Sh rs a' b' c' :=
 ⟨h.1, h.2.1, fun j hj => by obtain ⟨x, y, z⟩ := h.2.2 j hj; obtain ⟨x', y', z'⟩ := k j hj; exact ⟨x.trans x', y.trans y', z.trans z'⟩⟩
theorem Sh.clear0 {rs : IM} {a b c : Nat → Int} (h : Sh rs a b c) (p : Int) : Sh (clearCol rs 0 p) a (fun j => quo (a 0 * b j + -(b 0 * a j)) p) (fun j => quo (a 0 * c j + -(c 0 * a j)) p) := by
 refine ⟨(clear_len h).1, (clear_len h).2, fun j hj => ?_⟩
 rw [clear_at h (by omega) hj, clear_at h (by omega) hj, clear_at h (by omega) hj]
 obtain ⟨x, y, z⟩ := h.2.2 j hj
 obtain ⟨x0, y0, z0⟩ := h.2.2 0 (by omega)
 simp [x, y, z, x0, y0, z0]
theorem Sh.clear1 {rs : IM} {a b c : Nat → Int} (h : Sh rs a b c) (p : Int) : Sh (clearCol rs 1 p) (fun j => quo (b 1 * a j + -(a 1 * b j)) p) b (fun j => quo (b 1 * c j + -(c 1 * b j)) p) := by
 refine ⟨(clear_len h).1, (clear_len h).2, fun j hj => ?_⟩
 rw [clear_at h (by omega) hj, clear_at h (by omega) hj, clear_at h (by omega) hj]
 obtain ⟨x, y, z⟩ := h.2.2 j hj
 obtain ⟨x0, y0, z0⟩ := h.2.2 1 (by omega)
 simp [x, y, z, x0, y0, z0]
theorem Sh.clear2 {rs : IM} {a b c : Nat → Int} (h : Sh rs a b c) (p : Int) : Sh (clearCol rs 2 p) (fun j => quo (c 2 * a j + -(a 2 * c j)) p) (fun j => quo (c 2 * b j + -(b 2 * c j)) p) c := by
 refine ⟨(clear_len h).1, (clear_len h).2, fun j hj => ?_⟩
 rw [clear_at h (by omega) hj, clear_at h (by omega) hj, clear_at h (by omega) hj]
 obtain ⟨x, y, z⟩ := h.2.2 j hj
 obtain ⟨x0, y0, z0⟩ := h.2.2 2 (by omega)
 simp [x, y, z, x0, y0, z0]
theorem Sh.swap {rs : IM} {a b c : Nat → Int} (h : Sh rs a b c) {i k : Nat} (hi : i < 3) (hk : k < 3) (j : Nat) (hj : j < 3) : (swapR rs i k).getD j [] = rs.getD (if j = k then i else if j = i then k else j) [] := swapR_getD h.1 hi hk hj
theorem Sh.swap10 {rs : IM} {a b c : Nat → Int} (h : Sh rs a b c) : Sh (swapR rs 1 0) b a c := by
 refine ⟨by simp [swapR, h.1], fun i hi => ?_, fun j hj => ?_⟩
 ·rw [h.swap (by omega) (by omega) i hi]; exact h.2.1 _ (by split <;> (try split) <;> omega)
 ·obtain ⟨x, y, z⟩ := h.2.2 j hj
  unfold IM.at at x y z ⊢
  rw [h.swap (by omega) (by omega) 0 (by omega), h.swap (by omega) (by omega) 1 (by omega), h.swap (by omega) (by omega) 2 (by omega)]
  exact ⟨y, x, z⟩
theorem Sh.swap20 {rs : IM} {a b c : Nat → Int} (h : Sh rs a b c) : Sh (swapR rs 2 0) c b a := by
 refine ⟨by simp [swapR, h.1], fun i hi => ?_, fun j hj => ?_⟩
 ·rw [h.swap (by omega) (by omega) i hi]; exact h.2.1 _ (by split <;> (try split) <;> omega)
 ·obtain ⟨x, y, z⟩ := h.2.2 j hj
  unfold IM.at at x y z ⊢
  rw [h.swap (by omega) (by omega) 0 (by omega), h.swap (by omega) (by omega) 1 (by omega), h.swap (by omega) (by omega) 2 (by omega)]
  exact ⟨z, y, x⟩
theorem Sh.swap21 {rs : IM} {a b c : Nat → Int} (h : Sh rs a b c) : Sh (swapR rs 2 1) a c b := by
 refine ⟨by simp [swapR, h.1], fun i hi => ?_, fun j hj => ?_⟩
 ·rw [h.swap (by omega) (by omega) i hi]; exact h.2.1 _ (by split <;> (try split) <;> omega)
 ·obtain ⟨x, y, z⟩ := h.2.2 j hj
  unfold IM.at at x y z ⊢
  rw [h.swap (by omega) (by omega) 0 (by omega), h.swap (by omega) (by omega) 1 (by omega), h.swap (by omega) (by omega) 2 (by omega)]
  exact ⟨x, z, y⟩
/-- The determinant of three rows. -/
def det3 (u v w : Nat → Int) : Int := u 0 * (v 1 * w 2 - v 2 * w 1) - u 1 * (v 0 * w 2 - v 2 * w 0) + u 2 * (v 0 * w 1 - v 1 * w 0)
/-- What elimination ends with. -/
def Ends (R : Int × Bool × IM) (u v w : Nat → Int) : Prop :=
 (R.1 = det3 u v w ∨ R.1 = -det3 u v w) ∧ (R.1 ≠ 0 → ∀ j, j < 6 → (u 0 * R.2.2.at 0 j + u 1 * R.2.2.at 1 j + u 2 * R.2.2.at 2 j = R.1 * u j) ∧ (v 0 * R.2.2.at 0 j + v 1 * R.2.2.at 1 j + v 2 * R.2.2.at 2 j = R.1 * v j) ∧ (w 0 * R.2.2.at 0 j + w 1 * R.2.2.at 1 j + w 2 * R.2.2.at 2 j = R.1 * w j))
theorem Ends.swap12 {R : Int × Bool × IM} {u v w : Nat → Int} (h : Ends R u w v) : Ends R u v w := by
 refine ⟨?_, fun h0 j hj => ⟨(h.2 h0 j hj).1, (h.2 h0 j hj).2.2, (h.2 h0 j hj).2.1⟩⟩
 have e : det3 u w v = -det3 u v w := by unfold det3; grind
 rcases h.1 with h | h
 ·right; rw [h, e]
 ·left; rw [h, e]; omega
theorem Ends.swap01 {R : Int × Bool × IM} {u v w : Nat → Int} (h : Ends R v u w) : Ends R u v w := by
 refine ⟨?_, fun h0 j hj => ⟨(h.2 h0 j hj).2.1, (h.2 h0 j hj).1, (h.2 h0 j hj).2.2⟩⟩
 have e : det3 v u w = -det3 u v w := by unfold det3; grind
 rcases h.1 with h | h
 ·right; rw [h, e]
 ·left; rw [h, e]; omega
theorem Ends.swap02 {R : Int × Bool × IM} {u v w : Nat → Int} (h : Ends R w v u) : Ends R u v w := by
 refine ⟨?_, fun h0 j hj => ⟨(h.2 h0 j hj).2.2, (h.2 h0 j hj).2.1, (h.2 h0 j hj).1⟩⟩
 have e : det3 w v u = -det3 u v w := by unfold det3; grind
 rcases h.1 with h | h
 ·right; rw [h, e]
 ·left; rw [h, e]; omega
theorem elim_last {rs : IM} {u v w : Nat → Int} {t : Bool} (h1 : u 0 * v 1 - v 0 * u 1 ≠ 0)
  (h : Sh rs (fun j => v 1 * u j - u 1 * v j) (fun j => u 0 * v j - v 0 * u j) (fun j => u 0 * (v 1 * w j - w 1 * v j) - u 1 * (v 0 * w j - w 0 * v j) + u j * (v 0 * w 1 - w 0 * v 1))) :
  Ends (elim 1 2 rs (u 0 * v 1 - v 0 * u 1) t) u v w := by
 have hd : rs.at 2 2 = det3 u v w := by
  have := (h.2.2 2 (by omega)).2.2
  rw [this]
  unfold det3
  grind
 rcases pick_spec (rs := rs) (k := 2) with ⟨i, e, h2, h3, h4⟩ | ⟨e, h2⟩
 ·obtain rfl : i = 2 := by have := h.1; omega
  unfold elim
  rw [e]
  simp only [if_true]
  unfold elim
  rw [hd] at h4 ⊢
  refine ⟨.inl rfl, fun _ j hj => ?_⟩
  have hc := h.clear2 (u 0 * v 1 - v 0 * u 1)
  obtain ⟨x, y, z⟩ := hc.2.2 j hj
  simp only at x y z
  have ex : (clearCol rs 2 (u 0 * v 1 - v 0 * u 1)).at 0 j = u j * (v 1 * w 2 - w 1 * v 2) - u 1 * (v j * w 2 - w j * v 2) + u 2 * (v j * w 1 - w j * v 1) := by
   rw [x, ← quo_mul (u 0 * v 1 - v 0 * u 1) (u j * (v 1 * w 2 - w 1 * v 2) - u 1 * (v j * w 2 - w j * v 2) + u 2 * (v j * w 1 - w j * v 1)) h1]
   congr 1
   grind
  have ey : (clearCol rs 2 (u 0 * v 1 - v 0 * u 1)).at 1 j = u 0 * (v j * w 2 - w j * v 2) - u j * (v 0 * w 2 - w 0 * v 2) + u 2 * (v 0 * w j - w 0 * v j) := by
   rw [y, ← quo_mul (u 0 * v 1 - v 0 * u 1) (u 0 * (v j * w 2 - w j * v 2) - u j * (v 0 * w 2 - w 0 * v 2) + u 2 * (v 0 * w j - w 0 * v j)) h1]
   congr 1
   grind
  simp only
  rw [ex, ey, z]
  unfold det3
  refine ⟨?_, ?_, ?_⟩ <;> grind
 ·unfold elim
  rw [e]
  simp only
  have := h2 2 (by omega) (by have := h.1; omega)
  rw [hd] at this
  exact ⟨.inl this.symm, fun h => absurd rfl h⟩
theorem elim_mid {rs : IM} {u v w : Nat → Int} {t : Bool} (h0 : u 0 ≠ 0)
  (h : Sh rs u (fun j => u 0 * v j - v 0 * u j) (fun j => u 0 * w j - w 0 * u j)) : Ends (elim 2 1 rs (u 0) t) u v w := by
 have key : ∀ (rs : IM) (v w : Nat → Int) (t : Bool), Sh rs u (fun j => u 0 * v j - v 0 * u j) (fun j => u 0 * w j - w 0 * u j) → u 0 * v 1 - v 0 * u 1 ≠ 0 →
   Ends (elim 1 2 (clearCol rs 1 (u 0)) (rs.at 1 1) t) u v w := fun rs v w t h h1 => by
  have e : rs.at 1 1 = u 0 * v 1 - v 0 * u 1 := (h.2.2 1 (by omega)).2.1
  rw [e]
  refine elim_last h1 ((h.clear1 (u 0)).congr fun j hj => ⟨?_, rfl, ?_⟩)
  ·rw [← quo_mul (u 0) (v 1 * u j - u 1 * v j) h0]
   congr 1
   grind
  ·rw [← quo_mul (u 0) (u 0 * (v 1 * w j - w 1 * v j) - u 1 * (v 0 * w j - w 0 * v j) + u j * (v 0 * w 1 - w 0 * v 1)) h0]
   congr 1
   grind
 rcases pick_spec (rs := rs) (k := 1) with ⟨i, e, h2, h3, h4⟩ | ⟨e, h2⟩
 ·have hl := h.1
  have hi : i = 1 ∨ i = 2 := by omega
  unfold elim
  rw [e]
  rcases hi with rfl | rfl
  ·simp only [if_true]
   refine key rs v w _ h ?_
   rw [(h.2.2 1 (by omega)).2.1] at h4
   exact h4
  ·simp only [show ¬ (2 = 1) by omega, if_false]
   refine (key _ w v _ h.swap21 ?_).swap12
   rw [(h.2.2 1 (by omega)).2.2] at h4
   exact h4
 ·unfold elim
  rw [e]
  have hl := h.1
  have k1 := h2 1 (by omega) (by omega)
  have k2 := h2 2 (by omega) (by omega)
  rw [(h.2.2 1 (by omega)).2.1] at k1
  rw [(h.2.2 1 (by omega)).2.2] at k2
  refine ⟨.inl ?_, fun h => absurd rfl h⟩
  simp only
  have : u 0 * det3 u v w = 0 := by
   unfold det3
   grind
  rcases Int.mul_eq_zero.1 this with h | h
  ·exact absurd h h0
  ·exact h.symm
theorem elim3 {rs : IM} {u v w : Nat → Int} {t : Bool} (h : Sh rs u v w) : Ends (elim 3 0 rs 1 t) u v w := by
 have key : ∀ (rs : IM) (u v w : Nat → Int) (t : Bool), Sh rs u v w → u 0 ≠ 0 → Ends (elim 2 1 (clearCol rs 0 1) (rs.at 0 0) t) u v w := fun rs u v w t h h0 => by
  have e : rs.at 0 0 = u 0 := (h.2.2 0 (by omega)).1
  rw [e]
  refine elim_mid h0 ((h.clear0 1).congr fun j hj => ⟨rfl, ?_, ?_⟩)
  ·rw [quo_one]; omega
  ·rw [quo_one]; omega
 rcases pick_spec (rs := rs) (k := 0) with ⟨i, e, h2, h3, h4⟩ | ⟨e, h2⟩
 ·have hl := h.1
  have hi : i = 0 ∨ i = 1 ∨ i = 2 := by omega
  unfold elim
  rw [e]
  rcases hi with rfl | rfl | rfl
  ·simp only [if_true]
   refine key rs u v w _ h ?_
   rw [(h.2.2 0 (by omega)).1] at h4
   exact h4
  ·simp only [show ¬ (1 = 0) by omega, if_false]
   refine (key _ v u w _ h.swap10 ?_).swap01
   rw [(h.2.2 0 (by omega)).2.1] at h4
   exact h4
  ·simp only [show ¬ (2 = 0) by omega, if_false]
   refine (key _ w v u _ h.swap20 ?_).swap02
   rw [(h.2.2 0 (by omega)).2.2] at h4
   exact h4
 ·unfold elim
  rw [e]
  have hl := h.1
  have k0 := h2 0 (by omega) (by omega)
  have k1 := h2 1 (by omega) (by omega)
  have k2 := h2 2 (by omega) (by omega)
  rw [(h.2.2 0 (by omega)).1] at k0
  rw [(h.2.2 0 (by omega)).2.1] at k1
  rw [(h.2.2 0 (by omega)).2.2] at k2
  refine ⟨.inl ?_, fun h => absurd rfl h⟩
  simp only
  unfold det3
  rw [k0, k1, k2]
  grind
end Go.Fra
namespace Go.Mem
open Go Go.RowKit Go.SW Go.Num
/-- The slice value v is the number n, in groups of nine digits. -/
def Nm (w : World) (v : Value) (n : Nat) : Prop := Row w 3 v (ints (digs 10000 n))
theorem Nm.later {w w' : World} {v : Value} {n : Nat} (h : Nm w v n) (hb : Below w.heap.size w w') : Nm w' v n := Row.later h hb
theorem Nm.setOther {w : World} {v : Value} {n : Nat} (h : Nm w v n) {b : Nat} {cs : Array Value} {T' : TypeId} (hx : Box w b cs T') (hT : 3 ≠ T') (o : Nat) (u : Value) : Nm (w.setCell ⟨b, o, none⟩ u) v n := Row.setOther h hx hT o u
/-- A list of digits that may have zeros at its end. -/
def Gs (w : World) (v : Value) (l : List Nat) : Prop := Row w 3 v (ints l)
theorem Gs.later {w w' : World} {v : Value} {l : List Nat} (h : Gs w v l) (hb : Below w.heap.size w w') : Gs w' v l := Row.later h hb
theorem Gs.cases {w : World} {v : Value} {l : List Nat} (h : Gs w v l) :
  (v = .slice none 0 0 ∧ l = []) ∨ ∃ b off cap, v = .slice (some ⟨b, off, none⟩) l.length cap ∧ l.length ≤ cap ∧ cap ≤ 9223372036854775807 ∧ b < w.heap.size ∧ (∃ arr, Box w b arr 3) ∧ ∀ i, i < l.length → w.cell? ⟨b, off + i, none⟩ = some (.int .i64 (l.getD i 0 : Nat)) := by
 rcases Row.cases h with ⟨h1, h2⟩ | ⟨b, off, cap, arr, h1, h2, h3, h4, h5⟩
 ·refine .inl ⟨h1, ?_⟩
  unfold ints at h2
  simpa using h2
 ·refine .inr ⟨b, off, cap, by rw [h1, ints_length], by rwa [ints_length] at h2, h3, h4.lt, ⟨arr, h4⟩, fun i hi => ?_⟩
  rw [h4.cell, h5 i (by rw [ints_length]; exact hi)]
  simp [ints, hi]
/-- How digits are read, nil or not. -/
theorem Gs.read {w : World} {v : Value} {l : List Nat} (h : Gs w v l) :
  ∃ a cap, v = .slice a l.length cap ∧ l.length ≤ cap ∧ cap ≤ 9223372036854775807 ∧ ∀ k, k < l.length → ∃ b off, a = some ⟨b, off, none⟩ ∧ b < w.heap.size ∧ w.cell? ⟨b, off + k, none⟩ = some (.int .i64 (l.getD k 0 : Nat)) := by
 rcases Gs.cases h with ⟨rfl, rfl⟩ | ⟨b, off, cap, rfl, h1, h2, h3, _, h5⟩
 ·exact ⟨none, 0, rfl, by simp, by simp, fun k hk => by cases hk⟩
 ·exact ⟨some ⟨b, off, none⟩, cap, rfl, h1, h2, fun k hk => ⟨b, off, rfl, h3, h5 k hk⟩⟩
theorem Nm.of_gs {w : World} {v : Value} {l : List Nat} (h : Gs w v l) (hd : Dig 10000 l) (ht : Top l) : Nm w v (val 10000 l) := by
 unfold Nm; rw [digs_val (by omega) hd ht]; exact h
theorem Nm.gs {w : World} {v : Value} {n : Nat} (h : Nm w v n) : Gs w v (digs 10000 n) := h
theorem Gs.of_owns {w : World} {base k : Nat} {v : Value} {s : List Nat} (h : w.ownsRow base 3 1 v k (ints s)) : Gs w v s := Row.of_owns h
theorem made_ints (n : Nat) : (madeCells #[Value.int .i64 0] n).toList = ints (List.replicate n 0) := by
 rw [toList_madeCells_one]; simp [ints]
theorem ints_set (l : List Nat) (k d : Nat) : (ints l).set k (.int .i64 (d : Int)) = ints (l.set k d) := by simp [ints, List.map_set]
theorem ints_get {l : List Nat} {k : Nat} (h : k < l.length) : (ints l)[k]? = some (.int .i64 (l.getD k 0 : Nat)) := by simp [ints, h]
theorem Gs.of_box {w : World} {g n m : Nat} {l post : List Nat} (h : Box w g (ints (l ++ post)).toArray 3) (hl : l.length = n) (hm : n ≤ m) (hm2 : m ≤ 9223372036854775807) : Gs w (.slice (some ⟨g, 0, none⟩) n m) l := by
 refine Row.mk (by rw [ints_length]; omega) (by rw [ints_length]; omega) hm2 h fun i hi => ?_
 rw [ints_length] at hi
 rw [Nat.zero_add, List.getElem?_toArray]
 simp [ints, hi, List.getElem?_append_left]
theorem Nm.lit {w : World} {d : Nat} (h0 : 0 < d) (h1 : d < 10000) : Nm (w.alloc (.cells #[.int .i64 d] 3 (0, 0))) (.slice (some ⟨w.heap.size, 0, none⟩) 1 1) d := by
 have e : digs 10000 d = [d] := by rw [digs_pos (by omega) h0, Nat.mod_eq_of_lt h1, Nat.div_eq_of_lt h1, digs_zero]
 unfold Nm
 rw [e]
 refine Row.mk rfl (by simp [ints]) (by omega) (Box.new _ _ _) fun i hi => ?_
 match i, hi with
 | 0, _ => rfl
theorem Nm.zero (w : World) : Nm w (.slice none 0 0) 0 := by unfold Nm; rw [digs_zero]; exact Row.nil _ _
theorem ints_oneCell (l : List Nat) : ∀ v ∈ ints l, v.oneCell' = true := fun v hv => by
 obtain ⟨d, _, rfl⟩ := List.mem_map.1 hv; rfl
theorem Gs.src {w : World} {a : Option Addr} {l : List Nat} (h : ∀ k, k < l.length → ∃ b off, a = some ⟨b, off, none⟩ ∧ b < w.heap.size ∧ w.cell? ⟨b, off + k, none⟩ = some (.int .i64 (l.getD k 0 : Nat))) (hl : 0 < (ints l).length) :
  ∃ ad, a = some ad ∧ ∀ j v, (ints l)[j]? = some v → w.cell? (ad.add j) = some v := by
 rw [ints_length] at hl
 obtain ⟨b, off, rfl, _, _⟩ := h 0 hl
 refine ⟨_, rfl, fun j v hv => ?_⟩
 have hj : j < l.length := by
  have := (List.getElem?_eq_some_iff.1 hv).1; rwa [ints_length] at this
 obtain ⟨b', off', h1, _, h3⟩ := h j hj
 simp only [Option.some.injEq, Addr.mk.injEq, and_true] at h1
 obtain ⟨rfl, rfl⟩ := h1
 rw [ints_get hj] at hv
 rw [Addr.add_lit, h3, ← hv]
theorem Nm.slice {w : World} {v : Value} {n : Nat} (h : Nm w v n) : ∃ pa l ca, v = .slice pa l ca := by
 obtain ⟨a, cap, h1, -⟩ := h
 exact ⟨_, _, _, h1⟩
/-- The value v is the integer z: a sign and digits. -/
def Pl (w : World) (v : Value) (z : Int) : Prop := ∃ pa l ca, v = .agg #[.bool (decide (z < 0)), .slice pa l ca] ∧ Nm w (.slice pa l ca) z.natAbs
theorem Pl.later {w w' : World} {v : Value} {z : Int} (h : Pl w v z) (hb : Below w.heap.size w w') : Pl w' v z := by
 obtain ⟨pa, l, ca, h1, h2⟩ := h
 exact ⟨pa, l, ca, h1, h2.later hb⟩
theorem Pl.mk {w : World} {m : Value} {z : Int} {b : Bool} {n : Nat} (h : Nm w m n) (hn : n = z.natAbs) (hb : b = decide (z < 0)) : Pl w (.agg #[.bool b, m]) z := by
 obtain ⟨pa, l, ca, rfl⟩ := h.slice
 exact ⟨pa, l, ca, by rw [hb], hn ▸ h⟩
theorem Pl.cast {w : World} {v : Value} {y z : Int} (h : Pl w v y) (e : y = z) : Pl w v z := e ▸ h
theorem Nm.alloc {w : World} {v : Value} {n : Nat} (h : Nm w v n) (o : Obj) : Nm (w.alloc o) v n := h.later ((Below.refl _ _).alloc (Nat.le_refl _) _)
theorem Gs.alloc {w : World} {v : Value} {n : List Nat} (h : Gs w v n) (o : Obj) : Gs (w.alloc o) v n := h.later ((Below.refl _ _).alloc (Nat.le_refl _) _)
theorem Pl.agg {w : World} {v : Value} {z : Int} (h : Pl w v z) : ∃ b pa l ca, v = .agg #[.bool b, .slice pa l ca] := by
 obtain ⟨pa, l, ca, h1, -⟩ := h
 exact ⟨_, _, _, _, h1⟩
theorem Pl.setOther {w : World} {v : Value} {z : Int} (h : Pl w v z) {b : Nat} {cs : Array Value} {T' : TypeId} (hx : Box w b cs T') (hT : 3 ≠ T') (o : Nat) (u : Value) : Pl (w.setCell ⟨b, o, none⟩ u) v z := by
 obtain ⟨pa, l, ca, h1, h2⟩ := h
 exact ⟨pa, l, ca, h1, h2.setOther hx hT o u⟩
theorem Pl.set2 {w : World} {v : Value} {z : Int} (h : Pl w v z) {b : Nat} {cs : Array Value} {T' : TypeId} (hx : Box w b cs T') (hT : 3 ≠ T') (o1 o2 : Nat) (u1 u2 : Value) : Pl ((w.setCell ⟨b, o1, none⟩ u1).setCell ⟨b, o2, none⟩ u2) v z :=
 (h.setOther hx hT o1 u1).setOther (hx.set o1 u1) hT o2 u2
/-- A sign of a number with digits. -/
theorem Pl.nm {w : World} {b : Bool} {pa : Option Addr} {l ca : Nat} {z : Int} (h : Pl w (.agg #[.bool b, .slice pa l ca]) z) : Nm w (.slice pa l ca) z.natAbs ∧ b = decide (z < 0) := by
 obtain ⟨pa', l', ca', e, h2⟩ := h
 simp only [Value.agg.injEq, Array.mk.injEq, List.cons.injEq, Value.bool.injEq, and_true] at e
 obtain ⟨e1, e2⟩ := e
 rw [e2]
 exact ⟨h2, e1⟩
theorem sgd_turn (z : Int) : sgd z.natAbs (!decide (z < 0)) = -z := sgd_opp z
theorem sgd_self (z : Int) : sgd z.natAbs (decide (z < 0)) = z := by
 unfold sgd
 by_cases h : z < 0 <;> simp [h] <;> omega
theorem sgd_neg' (n : Nat) (b : Bool) : (b && decide (0 < n)) = decide (sgd n b < 0) := by
 rw [← sgd_neg, Bool.eq_iff_iff]
 simp
 omega
/-- The length of digits, and how they are found from memory. -/
theorem Nm.read {w : World} {v : Value} {n : Nat} (h : Nm w v n) : ∃ a cap, v = .slice a (sz 10000 n) cap ∧ sz 10000 n ≤ cap ∧ cap ≤ 9223372036854775807 ∧ ∀ k, k < sz 10000 n → ∃ b off, a = some ⟨b, off, none⟩ ∧ b < w.heap.size ∧ w.cell? ⟨b, off + k, none⟩ = some (.int .i64 ((digs 10000 n).getD k 0 : Nat)) := Gs.read h.gs
theorem Nm.lenp {w : World} {pa : Option Addr} {l c n : Nat} (h : Nm w (.slice pa l c) n) (hn : 0 < n) : 0 < l := by
 obtain ⟨a, cap, e, -⟩ := h.read
 simp only [Value.slice.injEq] at e
 rw [e.2.1]
 unfold sz
 rw [List.length_pos_iff, Ne, digs_eq_nil (by omega)]
 omega
theorem Nm.len0 {w : World} {pa : Option Addr} {l c n : Nat} (h : Nm w (.slice pa l c) n) (hn : n = 0) : l = 0 := by
 obtain ⟨a, cap, e, -⟩ := h.read
 simp only [Value.slice.injEq] at e
 rw [e.2.1, hn, sz_zero]
end Go.Mem
