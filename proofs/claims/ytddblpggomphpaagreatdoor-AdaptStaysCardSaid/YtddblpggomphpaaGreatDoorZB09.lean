/- Lemmas for the proof. No condition. -/
import Derived.Test.YtddblpggomphpaaGreatDoorZB02
import Derived.Test.YtddblpggomphpaaGreatDoorZB07
import Derived.Test.YtddblpggomphpaaGreatDoorZB08
set_option linter.unusedVariables false
set_option linter.unusedSimpArgs false
namespace Go.Proofs.matrix
open Go Go.Num Go.Fra
def mk3 (f : Nat → Nat → Rat) : RM := (List.range 3).map fun i => (List.range 3).map (f i)
def mul3 (f g : Nat → Nat → Rat) (i j : Nat) : Rat := f i 0 * g 0 j + f i 1 * g 1 j + f i 2 * g 2 j
def one3 (i j : Nat) : Rat := if i = j then 1 else 0
def detR (f : Nat → Nat → Rat) : Rat := f 0 0 * (f 1 1 * f 2 2 - f 1 2 * f 2 1) - f 0 1 * (f 1 0 * f 2 2 - f 1 2 * f 2 0) + f 0 2 * (f 1 0 * f 2 1 - f 1 1 * f 2 0)
theorem mk3_congr {f g : Nat → Nat → Rat} (h : ∀ i, i < 3 → ∀ j, j < 3 → f i j = g i j) : mk3 f = mk3 g := by
 show [[f 0 0, f 0 1, f 0 2], [f 1 0, f 1 1, f 1 2], [f 2 0, f 2 1, f 2 2]] = [[g 0 0, g 0 1, g 0 2], [g 1 0, g 1 1, g 1 2], [g 2 0, g 2 1, g 2 2]]
 rw [h 0 (by omega) 0 (by omega), h 0 (by omega) 1 (by omega), h 0 (by omega) 2 (by omega), h 1 (by omega) 0 (by omega), h 1 (by omega) 1 (by omega), h 1 (by omega) 2 (by omega), h 2 (by omega) 0 (by omega), h 2 (by omega) 1 (by omega), h 2 (by omega) 2 (by omega)]
theorem dot3 (a b c x y z : Rat) : dotQ [a, b, c] [x, y, z] = a * x + b * y + c * z := by
 show ((0 + a * x) + b * y) + c * z = _
 rw [Rat.zero_add]
theorem mk3_mul (f g : Nat → Nat → Rat) : mulQ (mk3 f) (mk3 g) 3 = mk3 (mul3 f g) := by
 have e : ∀ i j, dotQ [f i 0, f i 1, f i 2] [g 0 j, g 1 j, g 2 j] = mul3 f g i j := fun i j => dot3 _ _ _ _ _ _
 show [[dotQ [f 0 0, f 0 1, f 0 2] [g 0 0, g 1 0, g 2 0], dotQ [f 0 0, f 0 1, f 0 2] [g 0 1, g 1 1, g 2 1], dotQ [f 0 0, f 0 1, f 0 2] [g 0 2, g 1 2, g 2 2]],
  [dotQ [f 1 0, f 1 1, f 1 2] [g 0 0, g 1 0, g 2 0], dotQ [f 1 0, f 1 1, f 1 2] [g 0 1, g 1 1, g 2 1], dotQ [f 1 0, f 1 1, f 1 2] [g 0 2, g 1 2, g 2 2]],
  [dotQ [f 2 0, f 2 1, f 2 2] [g 0 0, g 1 0, g 2 0], dotQ [f 2 0, f 2 1, f 2 2] [g 0 1, g 1 1, g 2 1], dotQ [f 2 0, f 2 1, f 2 2] [g 0 2, g 1 2, g 2 2]]] = _
 simp only [e]
 rfl
theorem mul3_det (f g : Nat → Nat → Rat) : detR (mul3 f g) = detR f * detR g := by
 unfold detR mul3
 grind
theorem one3_det : detR one3 = 1 := by decide +kernel
theorem det_congr {f g : Nat → Nat → Rat} (h : ∀ i, i < 3 → ∀ j, j < 3 → f i j = g i j) : detR f = detR g := by
 unfold detR
 rw [h 0 (by omega) 0 (by omega), h 0 (by omega) 1 (by omega), h 0 (by omega) 2 (by omega), h 1 (by omega) 0 (by omega), h 1 (by omega) 1 (by omega), h 1 (by omega) 2 (by omega), h 2 (by omega) 0 (by omega), h 2 (by omega) 1 (by omega), h 2 (by omega) 2 (by omega)]
theorem row_sum {a b c x y z D E R e : Rat} (hD : D ≠ 0) (hR : R ≠ 0) (h : a * D * x + b * D * y + c * D * z = R * e) (he : e * E = e * D) :
  a * (x * E / R) + b * (y * E / R) + c * (z * E / R) = e := by
 have h1 : a * x + b * y + c * z = R * e / D := by grind
 have h2 : a * (x * E / R) + b * (y * E / R) + c * (z * E / R) = (a * x + b * y + c * z) * E / R := by grind
 rw [h2, h1]
 grind
theorem inv3 (f : Nat → Nat → Rat) : ((elimQ (mk3 f)).1 = 0 ↔ detR f = 0) ∧ ((elimQ (mk3 f)).1 ≠ 0 → ∀ r, r < 3 → ∀ c, c < 3 → mul3 f (invQ (mk3 f)) r c = one3 r c) := by
 obtain ⟨D, hD⟩ : ∃ D : Nat → Nat, ∀ i, D i = cden [f i 0, f i 1, f i 2] := ⟨_, fun _ => rfl⟩
 have hD0 : ∀ i, 0 < D i := fun i => by rw [hD]; exact (cden_facts _).1
 have hDq : ∀ i, ((D i : Nat) : Rat) ≠ 0 := fun i => by have := hD0 i; intro h; have : D i = 0 := (by exact_mod_cast h); omega
 have ht : ∀ i j, j < 3 → ((ctop (D i) (f i j) : Int) : Rat) = f i j * ((D i : Nat) : Rat) := fun i j hj => by
  have hm : f i j ∈ [f i 0, f i 1, f i 2] := by
   have : j = 0 ∨ j = 1 ∨ j = 2 := by omega
   rcases this with rfl | rfl | rfl <;> simp
  have h2 := ctop_eq (hD0 i) (by rw [hD]; exact (cden_facts _).2 _ hm : (f i j).den ∣ D i)
  have := hDq i
  grind
 have hs : Sh (ext ((mk3 f).map rtop)) (fun j => if j < 3 then ctop (D 0) (f 0 j) else if j = 3 then 1 else 0) (fun j => if j < 3 then ctop (D 1) (f 1 j) else if j = 4 then 1 else 0) (fun j => if j < 3 then ctop (D 2) (f 2 j) else if j = 5 then 1 else 0) := by
  rw [hD 0, hD 1, hD 2]
  refine ⟨rfl, fun i hi => ?_, fun j hj => ?_⟩
  ·have : i = 0 ∨ i = 1 ∨ i = 2 := by omega
   rcases this with rfl | rfl | rfl <;> rfl
  ·have : j = 0 ∨ j = 1 ∨ j = 2 ∨ j = 3 ∨ j = 4 ∨ j = 5 := by omega
   rcases this with rfl | rfl | rfl | rfl | rfl | rfl <;> exact ⟨rfl, rfl, rfl⟩
 have he : Go.Fra.Ends (elimQ (mk3 f)) _ _ _ := elim3 (t := false) hs
 have hi : ∀ i c, invQ (mk3 f) i c = ((((elimQ (mk3 f)).2.2.at i (3 + c) * ((cden ((mk3 f).getD c []) : Nat) : Int) : Int) : Rat) / (((elimQ (mk3 f)).1 : Int) : Rat)) := fun i c => rfl
 have hc : ∀ c, c < 3 → cden ((mk3 f).getD c []) = D c := fun c hc => by
  rw [hD]
  have : c = 0 ∨ c = 1 ∨ c = 2 := by omega
  rcases this with rfl | rfl | rfl <;> rfl
 generalize elimQ (mk3 f) = R at *
 obtain ⟨R1, Rt, X⟩ := R
 simp only at he hi ⊢
 obtain ⟨h1, h2⟩ := he
 simp only at h1 h2
 refine ⟨?_, fun h0 r hr c hc3 => ?_⟩
 ·have k0 := hDq 0
  have k1 := hDq 1
  have k2 := hDq 2
  have e : (det3 (fun j => if j < 3 then ctop (D 0) (f 0 j) else if j = 3 then 1 else 0) (fun j => if j < 3 then ctop (D 1) (f 1 j) else if j = 4 then 1 else 0) (fun j => if j < 3 then ctop (D 2) (f 2 j) else if j = 5 then 1 else 0) : Int) = (detR f * (((D 0 : Nat) : Rat) * ((D 1 : Nat) : Rat) * ((D 2 : Nat) : Rat)) : Rat) := by
   have t0 := ht 0
   have t1 := ht 1
   have t2 := ht 2
   simp only [det3, Nat.zero_lt_succ, if_true, show (1 : Nat) < 3 by omega, show (2 : Nat) < 3 by omega, show (0 : Nat) < 3 by omega, Rat.intCast_add, Rat.intCast_sub, Rat.intCast_mul]
   rw [t0 0 (by omega), t0 1 (by omega), t0 2 (by omega), t1 0 (by omega), t1 1 (by omega), t1 2 (by omega), t2 0 (by omega), t2 1 (by omega), t2 2 (by omega)]
   unfold detR
   grind
  generalize det3 _ _ _ = d at *
  have hd : R1 = 0 ↔ (d : Rat) = 0 := by
   have : ((d : Int) : Rat) = 0 ↔ d = 0 := by exact_mod_cast Iff.rfl
   rw [this]
   omega
  rw [hd, e]
  generalize ((D 0 : Nat) : Rat) = x at *
  generalize ((D 1 : Nat) : Rat) = y at *
  generalize ((D 2 : Nat) : Rat) = z at *
  constructor
  ·intro h
   grind
  ·intro h
   rw [h]
   grind
 ·have hR : ((R1 : Int) : Rat) ≠ 0 := by
   intro h
   have : R1 = 0 := by exact_mod_cast h
   exact h0 this
  obtain ⟨e0, e1, e2⟩ := h2 h0 (3 + c) (by omega)
  unfold mul3
  rw [hi, hi, hi, hc c hc3]
  simp only [Rat.intCast_mul, Rat.intCast_natCast]
  simp only [show (1 : Nat) < 3 by omega, show (2 : Nat) < 3 by omega, show (0 : Nat) < 3 by omega, if_true, show ¬ 3 + c < 3 by omega, if_false] at e0 e1 e2
  have cast : ∀ {p q s x y z R e : Int}, p * x + q * y + s * z = R * e → (p : Rat) * x + q * y + s * z = R * (e : Rat) := fun h => by exact_mod_cast h
  have g0 := cast e0
  have g1 := cast e1
  have g2 := cast e2
  rw [ht 0 0 (by omega), ht 0 1 (by omega), ht 0 2 (by omega)] at g0
  rw [ht 1 0 (by omega), ht 1 1 (by omega), ht 1 2 (by omega)] at g1
  rw [ht 2 0 (by omega), ht 2 1 (by omega), ht 2 2 (by omega)] at g2
  have hr3 : r = 0 ∨ r = 1 ∨ r = 2 := by omega
  have hc3' : c = 0 ∨ c = 1 ∨ c = 2 := by omega
  rcases hr3 with rfl | rfl | rfl
  ·refine (row_sum (hDq 0) hR g0 ?_).trans ?_ <;> rcases hc3' with rfl | rfl | rfl <;> simp [one3]
  ·refine (row_sum (hDq 1) hR g1 ?_).trans ?_ <;> rcases hc3' with rfl | rfl | rfl <;> simp [one3]
  ·refine (row_sum (hDq 2) hR g2 ?_).trans ?_ <;> rcases hc3' with rfl | rfl | rfl <;> simp [one3]
end Go.Proofs.matrix
namespace Go.Proofs.matrix
open Go Go.RowKit Go.SW Go.Num Go.Mem Go.Proofs Go.Dec Go.Fra
theorem run_neqFr_same (a1 a2 : ByteArray) (w : World) :
  (binOp .neq 36 (.agg #[.string a1, .string a2]) (.agg #[.string a1, .string a2])).run Tryz.prog w = .ok (.bool false) w := by
 go_simp
set_option maxRecDepth 10000 in
set_option maxHeartbeats 400000 in
theorem Equal_ok (v1 v2 : Value) (l : List Fr) (w : World) (h1 : Frs w 36 v1 l) (h2 : Frs w 36 v2 l) :
  Calls Tryz.prog 65 #[v1, v2] w (fun e w' => e = .returned (.bool true) ∧ Below w.heap.size w w') := by
 obtain ⟨a, cap, rfl, hc1, hc2, hr1⟩ := h1.read
 obtain ⟨a', cap', rfl, hc1', hc2', hr2⟩ := h2.read
 have H1 := Lib.hid hr1
 have H2 := Lib.hid hr2
 have HEQ := @run_neqFr_same
 clear h1 h2 hr1 hr2
 go_enter Tryz.func65, Tryz.ntmps65
 go_wp2_with fail
 go_loopw [13] (fun iv wr => ∃ k : Nat, iv = .int .i64 (k : Int) ∧ k ≤ l.length ∧ Below w.heap.size w wr) (fun iv _ => l.length - (intOf iv).toNat)
 case atStart => exact ⟨0, rfl, by omega, Below.refl _ _⟩
 case round =>
  obtain ⟨k, rfl, hk, hb⟩ := hrel
  rcases Nat.lt_or_ge k l.length with hlt | hge
  ·obtain ⟨b, off, rfl, hbl, hx1, hx2⟩ := H1.out k hlt
   obtain ⟨b', off', rfl, hbl', hy1, hy2⟩ := H2.out k hlt
   have hc3 := (hb.cell (p := ⟨b, off + k * 2, none⟩) hbl).trans hx1
   have hc4 := (hb.cell (p := ⟨b, off + k * 2 + 1, none⟩) hbl).trans hx2
   have hc5 := (hb.cell (p := ⟨b', off' + k * 2, none⟩) hbl').trans hy1
   have hc6 := (hb.cell (p := ⟨b', off' + k * 2 + 1, none⟩) hbl').trans hy2
   clear hx1 hx2 hy1 hy2
   generalize hlk : l[k] = lk at *
   obtain ⟨s, t⟩ := lk
   have HLK := Lib.hid hlk
   clear hlk
   go_wp2_with fail
   go_quiet (fail)
   go_wp2_with fail
   go_roundw
   case rel => exact ⟨k + 1, by go_num, by omega, below_drewN hb _⟩
   case measure => simp [intOf]; omega
  ·obtain rfl : k = l.length := by omega
   go_wp2_with fail
   go_ret
   exact ⟨rfl, hb⟩
set_option maxRecDepth 10000 in
theorem same1_ok (v1 v2 : Value) (l : List Fr) (w : World) (h1 : Frs w 36 v1 l) (h2 : Frs w 36 v2 l) :
  Calls Tryz.prog 64 #[v1, v2] w (fun e w' => e = .returned (.bool true) ∧ Below w.heap.size w w') := by
 have H := Lib.hid (Equal_ok v1 v2 l w h1 h2)
 obtain ⟨a, cap, rfl, -⟩ := h1.read
 obtain ⟨a', cap', rfl, -⟩ := h2.read
 clear h1 h2
 go_enter Tryz.func64, Tryz.ntmps64
 go_wp2_with fail
 refine H.out.mono ?_
 rintro e w1 ⟨rfl, hb⟩
 go_wp2_with fail
 go_ret
 exact ⟨rfl, hb⟩
set_option maxRecDepth 10000 in
set_option maxHeartbeats 400000 in
theorem EqualFunc_ok (v1 v2 : Value) (m : List (List Fr)) (w : World) (h1 : MatV w v1 m) (h2 : MatV w v2 m) :
  Calls Tryz.prog 63 #[v1, v2, .func (.func 64) #[] #[]] w (fun e w' => e = .returned (.bool true) ∧ Below w.heap.size w w') := by
 obtain ⟨rs, hR, hm, hF⟩ := h1
 obtain ⟨rs', hR', hm', hF'⟩ := h2
 have hll : rs'.length = rs.length := by omega
 have HS : Hid (∀ k (h : k < rs.length) (h' : k < rs'.length) W, Below w.heap.size w W → Calls Tryz.prog 64 #[rs[k], rs'[k]] W (fun e w' => e = .returned (.bool true) ∧ Below W.heap.size W w')) :=
  Lib.hid fun k h h' W hb => same1_ok _ _ (m[k]'(by omega)) W ((hF k h (by omega)).later hb) ((hF' k h' (by omega)).later hb)
 have HV : Hid (∀ k (h : k < rs.length), ∃ a n c, rs[k] = .slice a n c) := Lib.hid fun k h => by
  obtain ⟨a, c, e, -⟩ := (hF k h (by omega)).read
  exact ⟨_, _, _, e⟩
 have HV' : Hid (∀ k (h : k < rs'.length), ∃ a n c, rs'[k] = .slice a n c) := Lib.hid fun k h => by
  obtain ⟨a, c, e, -⟩ := (hF' k h (by omega)).read
  exact ⟨_, _, _, e⟩
 have key : ∀ (v : Value) (xs : List Value), Row w 56 v xs → ∃ a cap, v = .slice a xs.length cap ∧ xs.length ≤ cap ∧ cap ≤ 9223372036854775807 ∧ ∀ k (_ : k < xs.length), ∃ b off, a = some ⟨b, off, none⟩ ∧ b < w.heap.size ∧ w.cell? ⟨b, off + k, none⟩ = some xs[k] := fun v xs h => by
  rcases h.cases with ⟨rfl, rfl⟩ | ⟨b, off, cap, arr, rfl, k1, k2, k3, k4⟩
  ·exact ⟨none, 0, rfl, by simp, by simp, fun k h => by simp at h⟩
  ·exact ⟨_, _, rfl, k1, k2, fun k hk => ⟨b, off, rfl, k3.lt, (k3.cell _).trans (k4 k hk)⟩⟩
 obtain ⟨a, cap, rfl, hc1, hc2, hr1⟩ := key _ _ hR
 obtain ⟨a', cap', rfl, hc1', hc2', hr2⟩ := key _ _ hR'
 have H1 := Lib.hid hr1
 have H2 := Lib.hid hr2
 clear key hR hR' hr1 hr2 hF hF' hm hm'
 have HL := Lib.hid hll
 rw [hll]
 rw [hll] at hc1'
 clear hll
 go_enter Tryz.func63, Tryz.ntmps63
 go_wp2_with fail
 go_loopw [17] (fun iv wr => ∃ k : Nat, iv = .int .i64 (k : Int) ∧ k ≤ rs.length ∧ Below w.heap.size w wr) (fun iv _ => rs.length - (intOf iv).toNat)
 case atStart => exact ⟨0, rfl, by omega, Below.refl _ _⟩
 case round =>
  obtain ⟨k, rfl, hk, hb⟩ := hrel
  rcases Nat.lt_or_ge k rs.length with hlt | hge
  ·have hlt' : k < rs'.length := by rw [HL.out]; exact hlt
   obtain ⟨b, off, rfl, hbl, hx⟩ := H1.out k hlt
   obtain ⟨b', off', rfl, hbl', hy⟩ := H2.out k hlt'
   have HC := Lib.hid (HS.out k hlt hlt')
   obtain ⟨x1, x2, x3, ex⟩ := HV.out k hlt
   obtain ⟨y1, y2, y3, ey⟩ := HV'.out k hlt'
   rw [ex] at hx HC
   rw [ey] at hy HC
   have hc3 := (hb.cell (p := ⟨b, off + k, none⟩) hbl).trans hx
   have hc4 := (hb.cell (p := ⟨b', off' + k, none⟩) hbl').trans hy
   clear hx hy ex ey
   go_wp2_with fail
   refine (HC.out _ hb).mono ?_
   rintro e w2 ⟨rfl, hb2⟩
   go_wp2_with fail
   go_roundw
   case rel => exact ⟨k + 1, by go_num, by omega, Bt hb hb2⟩
   case measure => simp [intOf]; omega
  ·obtain rfl : k = rs.length := by omega
   go_wp2_with fail
   go_ret
   exact ⟨rfl, hb⟩
set_option maxRecDepth 10000 in
theorem Same_ok (v1 v2 : Value) (m : List (List Fr)) (w : World) (h1 : MatV w v1 m) (h2 : MatV w v2 m) :
  Calls Tryz.prog 24 #[v1, v2] w (fun e w' => e = .returned (.bool true) ∧ Below w.heap.size w w') := by
 have H := Lib.hid (EqualFunc_ok v1 v2 m w h1 h2)
 obtain ⟨rs, hR, -⟩ := h1
 obtain ⟨rs', hR', -⟩ := h2
 obtain ⟨a, cap, rfl, -⟩ := hR
 obtain ⟨a', cap', rfl, -⟩ := hR'
 go_enter Tryz.func24, Tryz.ntmps24
 go_wp2_with fail
 refine H.out.mono ?_
 rintro e w1 ⟨rfl, hb⟩
 go_wp2_with fail
 go_ret
 exact ⟨rfl, hb⟩
end Go.Proofs.matrix
