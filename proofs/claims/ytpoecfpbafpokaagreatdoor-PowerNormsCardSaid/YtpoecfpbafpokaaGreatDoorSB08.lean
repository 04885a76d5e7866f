/- Lemmas for the proof. No condition. -/
import Derived.Test.YtpoecfpbafpokaaGreatDoorSB01
import Derived.Test.YtpoecfpbafpokaaGreatDoorSB07
set_option linter.unusedVariables false
set_option linter.unusedSimpArgs false
set_option maxRecDepth 100000
set_option maxHeartbeats 16000000
namespace Go.Proofs.verdigrislaw04
open Go Go.RowKit Go.SW Go.Num Go.Mem Go.Proofs Go.Dec Go.Fra Go.Proofs.band
theorem works_ok (w : World) (ht : Bld.Pow w) (he : whole.Er w) : Calls Tryz.prog 11 #[] w (fun e w' => e = .returned (.bool true) ∧ Below w.heap.size w w') := by
  have HP := zh ht
  have HE := zh he
  have HB := zh (Below.refl w.heap.size w)
  clear ht he
  have P0 : power.pwE 4000000000000 9000000000000 1 2 = ((2000000000000, 3000000000000), 0) := power.pwE_is (lo := 4000000000000) (hi := 9000000000000) (a := 2000000000000) (b := 3000000000000) (p := 1) (q := 2) (by decide +kernel)
  have C0 : Hid (∀ W, Bld.Pow W → whole.Er W → Calls Tryz.prog 15 #[.agg #[.int .i64 4000000000000, .int .i64 9000000000000], .int .i64 1, .int .i64 2] W (fun e w' => e = .returned (.tuple #[.agg #[.int .i64 2000000000000, .int .i64 3000000000000], .int .i64 0]) ∧ Below W.heap.size W w')) := zh fun W h1 h2 => by
    have := power.Power_ok 4000000000000 9000000000000 1 2 W h1 h2
    rw [P0] at this
    exact this
  clear P0
  have P1 : power.pwE 0 1000000000000 3 1 = ((0, 1000000000000), 0) := power.pwE_is (lo := 0) (hi := 1000000000000) (a := 0) (b := 1000000000000) (p := 3) (q := 1) (by decide +kernel)
  have C1 : Hid (∀ W, Bld.Pow W → whole.Er W → Calls Tryz.prog 15 #[.agg #[.int .i64 0, .int .i64 1000000000000], .int .i64 3, .int .i64 1] W (fun e w' => e = .returned (.tuple #[.agg #[.int .i64 0, .int .i64 1000000000000], .int .i64 0]) ∧ Below W.heap.size W w')) := zh fun W h1 h2 => by
    have := power.Power_ok 0 1000000000000 3 1 W h1 h2
    rw [P1] at this
    exact this
  clear P1
  have P2 : power.pwE 2000000000000 2000000000000 1 2 = ((1414213562373, 1414213562374), 0) := power.pwE_is (lo := 2000000000000) (hi := 2000000000000) (a := 1414213562373) (b := 1414213562374) (p := 1) (q := 2) (by decide +kernel)
  have C2 : Hid (∀ W, Bld.Pow W → whole.Er W → Calls Tryz.prog 17 #[.agg #[.int .i64 2000000000000, .int .i64 2000000000000], .int .i64 2] W (fun e w' => e = .returned (.tuple #[.agg #[.int .i64 1414213562373, .int .i64 1414213562374], .int .i64 0]) ∧ Below W.heap.size W w')) := zh fun W h1 h2 => by
    have := power.Root_ok 2000000000000 2000000000000 2 W h1 h2
    rw [P2] at this
    exact this
  clear P2
  have P3 : power.pwE 1 1 1 3 = ((100000000, 100000000), 0) := power.pwE_is (lo := 1) (hi := 1) (a := 100000000) (b := 100000000) (p := 1) (q := 3) (by decide +kernel)
  have C3 : Hid (∀ W, Bld.Pow W → whole.Er W → Calls Tryz.prog 17 #[.agg #[.int .i64 1, .int .i64 1], .int .i64 3] W (fun e w' => e = .returned (.tuple #[.agg #[.int .i64 100000000, .int .i64 100000000], .int .i64 0]) ∧ Below W.heap.size W w')) := zh fun W h1 h2 => by
    have := power.Root_ok 1 1 3 W h1 h2
    rw [P3] at this
    exact this
  clear P3
  have P4 : power.pwE 8000000000000 8000000000000 2 3 = ((4000000000000, 4000000000000), 0) := power.pwE_is (lo := 8000000000000) (hi := 8000000000000) (a := 4000000000000) (b := 4000000000000) (p := 2) (q := 3) (by decide +kernel)
  have C4 : Hid (∀ W, Bld.Pow W → whole.Er W → Calls Tryz.prog 15 #[.agg #[.int .i64 8000000000000, .int .i64 8000000000000], .int .i64 2, .int .i64 3] W (fun e w' => e = .returned (.tuple #[.agg #[.int .i64 4000000000000, .int .i64 4000000000000], .int .i64 0]) ∧ Below W.heap.size W w')) := zh fun W h1 h2 => by
    have := power.Power_ok 8000000000000 8000000000000 2 3 W h1 h2
    rw [P4] at this
    exact this
  clear P4
  have P5 : power.pwE 1000000000000 1000000000000 36 12 = ((1000000000000, 1000000000000), 0) := power.pwE_is (lo := 1000000000000) (hi := 1000000000000) (a := 1000000000000) (b := 1000000000000) (p := 36) (q := 12) (by decide +kernel)
  have C5 : Hid (∀ W, Bld.Pow W → whole.Er W → Calls Tryz.prog 15 #[.agg #[.int .i64 1000000000000, .int .i64 1000000000000], .int .i64 36, .int .i64 12] W (fun e w' => e = .returned (.tuple #[.agg #[.int .i64 1000000000000, .int .i64 1000000000000], .int .i64 0]) ∧ Below W.heap.size W w')) := zh fun W h1 h2 => by
    have := power.Power_ok 1000000000000 1000000000000 36 12 W h1 h2
    rw [P5] at this
    exact this
  clear P5
  have P6 : power.pwE (-1) 1 1 2 = ((0, 0), 2) := by decide +kernel
  have C6 : Hid (∀ W, Bld.Pow W → whole.Er W → Calls Tryz.prog 15 #[.agg #[.int .i64 (-1), .int .i64 1], .int .i64 1, .int .i64 2] W (fun e w' => e = .returned (.tuple #[.agg #[.int .i64 0, .int .i64 0], .int .i64 2]) ∧ Below W.heap.size W w')) := zh fun W h1 h2 => by
    have := power.Power_ok (-1) 1 1 2 W h1 h2
    rw [P6] at this
    exact this
  clear P6
  have P7 : power.pwE 1000000000000 1000000000000 37 1 = ((0, 0), 2) := by decide +kernel
  have C7 : Hid (∀ W, Bld.Pow W → whole.Er W → Calls Tryz.prog 15 #[.agg #[.int .i64 1000000000000, .int .i64 1000000000000], .int .i64 37, .int .i64 1] W (fun e w' => e = .returned (.tuple #[.agg #[.int .i64 0, .int .i64 0], .int .i64 2]) ∧ Below W.heap.size W w')) := zh fun W h1 h2 => by
    have := power.Power_ok 1000000000000 1000000000000 37 1 W h1 h2
    rw [P7] at this
    exact this
  clear P7
  have P8 : power.pwE 1000000000000 1000000000000 1 13 = ((0, 0), 2) := by decide +kernel
  have C8 : Hid (∀ W, Bld.Pow W → whole.Er W → Calls Tryz.prog 15 #[.agg #[.int .i64 1000000000000, .int .i64 1000000000000], .int .i64 1, .int .i64 13] W (fun e w' => e = .returned (.tuple #[.agg #[.int .i64 0, .int .i64 0], .int .i64 2]) ∧ Below W.heap.size W w')) := zh fun W h1 h2 => by
    have := power.Power_ok 1000000000000 1000000000000 1 13 W h1 h2
    rw [P8] at this
    exact this
  clear P8
  have P9 : power.pwE 1001000000000000 1001000000000000 2 1 = ((0, 0), 6) := power.pwE_big (lo := 1001000000000000) (hi := 1001000000000000) (p := 2) (q := 1) (by decide +kernel)
  have C9 : Hid (∀ W, Bld.Pow W → whole.Er W → Calls Tryz.prog 15 #[.agg #[.int .i64 1001000000000000, .int .i64 1001000000000000], .int .i64 2, .int .i64 1] W (fun e w' => e = .returned (.tuple #[.agg #[.int .i64 0, .int .i64 0], .int .i64 6]) ∧ Below W.heap.size W w')) := zh fun W h1 h2 => by
    have := power.Power_ok 1001000000000000 1001000000000000 2 1 W h1 h2
    rw [P9] at this
    exact this
  clear P9
  have P10 : power.exE (ofF 8 27).1 2 3 = (⟨⟨#[52]⟩, ⟨#[57]⟩⟩, 0) := by decide +kernel
  have C10 := zh (fun W h => power.Exact_ok (ofF 8 27).1 2 3 W h)
  rw [P10] at C10
  clear P10
  have Q10 := zh (fun W h => q_ok 8 27 zo zo zo zo W h)
  generalize (ofF 8 27).1 = x10 at *
  obtain ⟨s10, t10⟩ := x10
  simp only [Fr.v, res_mk, Fr.no] at C10 Q10
  have P11 : power.exE (ofF 2 1).1 1 2 = (Fr.no, 4) := by decide +kernel
  have C11 := zh (fun W h => power.Exact_ok (ofF 2 1).1 1 2 W h)
  rw [P11] at C11
  clear P11
  have Q11 := zh (fun W h => q_ok 2 1 zo zo zo zo W h)
  generalize (ofF 2 1).1 = x11 at *
  obtain ⟨s11, t11⟩ := x11
  simp only [Fr.v, res_mk, Fr.no] at C11 Q11
  have P12 : power.exE (ofF 0 1).1 1 12 = (⟨⟨#[48]⟩, ⟨#[49]⟩⟩, 0) := by decide +kernel
  have C12 := zh (fun W h => power.Exact_ok (ofF 0 1).1 1 12 W h)
  rw [P12] at C12
  clear P12
  have Q12 := zh (fun W h => q_ok 0 1 zo zo zo zo W h)
  generalize (ofF 0 1).1 = x12 at *
  obtain ⟨s12, t12⟩ := x12
  simp only [Fr.v, res_mk, Fr.no] at C12 Q12
  have P13 : power.exE (ofF (-1) 1).1 2 1 = (Fr.no, 2) := by decide +kernel
  have C13 := zh (fun W h => power.Exact_ok (ofF (-1) 1).1 2 1 W h)
  rw [P13] at C13
  clear P13
  have Q13 := zh (fun W h => q_ok (-1) 1 zo zo zo zo W h)
  generalize (ofF (-1) 1).1 = x13 at *
  obtain ⟨s13, t13⟩ := x13
  simp only [Fr.v, res_mk, Fr.no] at C13 Q13
  have P14 : power.nrmE [(3000000000000, 3000000000000), ((-4000000000000), (-4000000000000))] = ((5000000000000, 5000000000000), 0) := power.nrmE_is (a := 5000000000000) (b := 5000000000000) (by decide +kernel)
  have C14 : Hid (∀ T v W, Bds W T v [(3000000000000, 3000000000000), ((-4000000000000), (-4000000000000))] → Bld.Pow W → whole.Er W → Calls Tryz.prog 25 #[v] W (fun e w' => e = .returned (.tuple #[.agg #[.int .i64 5000000000000, .int .i64 5000000000000], .int .i64 0]) ∧ Below W.heap.size W w')) := zh fun T v W h0 h1 h2 => by
    have := power.Norm_ok v T _ W h0 h1 h2
    rw [P14] at this
    exact this
  clear P14
  have P15 : power.nrmE [((-1), 2)] = ((0, 2), 0) := power.nrmE_is (a := 0) (b := 2) (by decide +kernel)
  have C15 : Hid (∀ T v W, Bds W T v [((-1), 2)] → Bld.Pow W → whole.Er W → Calls Tryz.prog 25 #[v] W (fun e w' => e = .returned (.tuple #[.agg #[.int .i64 0, .int .i64 2], .int .i64 0]) ∧ Below W.heap.size W w')) := zh fun T v W h0 h1 h2 => by
    have := power.Norm_ok v T _ W h0 h1 h2
    rw [P15] at this
    exact this
  clear P15
  have P16 : power.nrmE [(1, 1), (1, 1)] = ((1, 2), 0) := power.nrmE_is (a := 1) (b := 2) (by decide +kernel)
  have C16 : Hid (∀ T v W, Bds W T v [(1, 1), (1, 1)] → Bld.Pow W → whole.Er W → Calls Tryz.prog 25 #[v] W (fun e w' => e = .returned (.tuple #[.agg #[.int .i64 1, .int .i64 2], .int .i64 0]) ∧ Below W.heap.size W w')) := zh fun T v W h0 h1 h2 => by
    have := power.Norm_ok v T _ W h0 h1 h2
    rw [P16] at this
    exact this
  clear P16
  have P17 : power.nrmE [] = ((0, 0), 2) := by decide +kernel
  have C17 : Hid (∀ T v W, Bds W T v [] → Bld.Pow W → whole.Er W → Calls Tryz.prog 25 #[v] W (fun e w' => e = .returned (.tuple #[.agg #[.int .i64 0, .int .i64 0], .int .i64 2]) ∧ Below W.heap.size W w')) := zh fun T v W h0 h1 h2 => by
    have := power.Norm_ok v T _ W h0 h1 h2
    rw [P17] at this
    exact this
  clear P17
  go_enter Tryz.func11, Tryz.ntmps11
  go_wp2_with fail
  refine (is_ok 2000000000000 3000000000000 _).mono ?_
  rintro e u1 ⟨⟨v0, rfl, a0, b0, rfl, ha, hb⟩, h1⟩
  have HA := zh ha
  have HX := zh hb
  replace HB := zh (Bt HB.out h1)
  clear ha h1 hb
  go_wp2_with fail
  refine (b_ok 4000000000000 9000000000000 _).mono ?_
  rintro e u2 ⟨rfl, h2⟩
  replace HA := HA.bl h2
  replace HX := HX.bl h2
  replace HB := zh (Bt HB.out h2)
  clear h2
  go_wp2_with fail
  refine (C0.out _ (HP.out.later HB.out) (HE.out.later HB.out)).mono ?_
  rintro e u2 ⟨rfl, h2⟩
  replace HA := HA.bl h2
  replace HX := HX.bl h2
  replace HB := zh (Bt HB.out h2)
  clear h2
  go_wp2_with fail
  refine (is1_ok 2000000000000 3000000000000 a0 b0 _ HA.out HX.out).mono ?_
  rintro e u2 ⟨rfl, h2⟩
  replace HB := zh (Bt HB.out h2)
  clear h2 HA HX
  go_wp2_with fail
  refine (is_ok 0 1000000000000 _).mono ?_
  rintro e u1 ⟨⟨v1, rfl, a1, b1, rfl, ha, hb⟩, h1⟩
  have HA := zh ha
  have HX := zh hb
  replace HB := zh (Bt HB.out h1)
  clear ha h1 hb
  go_wp2_with fail
  refine (b_ok 0 1000000000000 _).mono ?_
  rintro e u2 ⟨rfl, h2⟩
  replace HA := HA.bl h2
  replace HX := HX.bl h2
  replace HB := zh (Bt HB.out h2)
  clear h2
  go_wp2_with fail
  refine (C1.out _ (HP.out.later HB.out) (HE.out.later HB.out)).mono ?_
  rintro e u2 ⟨rfl, h2⟩
  replace HA := HA.bl h2
  replace HX := HX.bl h2
  replace HB := zh (Bt HB.out h2)
  clear h2
  go_wp2_with fail
  refine (is1_ok 0 1000000000000 a1 b1 _ HA.out HX.out).mono ?_
  rintro e u2 ⟨rfl, h2⟩
  replace HB := zh (Bt HB.out h2)
  clear h2 HA HX
  go_wp2_with fail
  refine (is_ok 1414213562373 1414213562374 _).mono ?_
  rintro e u1 ⟨⟨v2, rfl, a2, b2, rfl, ha, hb⟩, h1⟩
  have HA := zh ha
  have HX := zh hb
  replace HB := zh (Bt HB.out h1)
  clear ha h1 hb
  go_wp2_with fail
  refine (b_ok 2000000000000 2000000000000 _).mono ?_
  rintro e u2 ⟨rfl, h2⟩
  replace HA := HA.bl h2
  replace HX := HX.bl h2
  replace HB := zh (Bt HB.out h2)
  clear h2
  go_wp2_with fail
  refine (C2.out _ (HP.out.later HB.out) (HE.out.later HB.out)).mono ?_
  rintro e u2 ⟨rfl, h2⟩
  replace HA := HA.bl h2
  replace HX := HX.bl h2
  replace HB := zh (Bt HB.out h2)
  clear h2
  go_wp2_with fail
  refine (is1_ok 1414213562373 1414213562374 a2 b2 _ HA.out HX.out).mono ?_
  rintro e u2 ⟨rfl, h2⟩
  replace HB := zh (Bt HB.out h2)
  clear h2 HA HX
  go_wp2_with fail
  refine (is_ok 100000000 100000000 _).mono ?_
  rintro e u1 ⟨⟨v3, rfl, a3, b3, rfl, ha, hb⟩, h1⟩
  have HA := zh ha
  have HX := zh hb
  replace HB := zh (Bt HB.out h1)
  clear ha h1 hb
  go_wp2_with fail
  refine (b_ok 1 1 _).mono ?_
  rintro e u2 ⟨rfl, h2⟩
  replace HA := HA.bl h2
  replace HX := HX.bl h2
  replace HB := zh (Bt HB.out h2)
  clear h2
  go_wp2_with fail
  refine (C3.out _ (HP.out.later HB.out) (HE.out.later HB.out)).mono ?_
  rintro e u2 ⟨rfl, h2⟩
  replace HA := HA.bl h2
  replace HX := HX.bl h2
  replace HB := zh (Bt HB.out h2)
  clear h2
  go_wp2_with fail
  refine (is1_ok 100000000 100000000 a3 b3 _ HA.out HX.out).mono ?_
  rintro e u2 ⟨rfl, h2⟩
  replace HB := zh (Bt HB.out h2)
  clear h2 HA HX
  go_wp2_with fail
  refine (is_ok 4000000000000 4000000000000 _).mono ?_
  rintro e u1 ⟨⟨v4, rfl, a4, b4, rfl, ha, hb⟩, h1⟩
  have HA := zh ha
  have HX := zh hb
  replace HB := zh (Bt HB.out h1)
  clear ha h1 hb
  go_wp2_with fail
  refine (b_ok 8000000000000 8000000000000 _).mono ?_
  rintro e u2 ⟨rfl, h2⟩
  replace HA := HA.bl h2
  replace HX := HX.bl h2
  replace HB := zh (Bt HB.out h2)
  clear h2
  go_wp2_with fail
  refine (C4.out _ (HP.out.later HB.out) (HE.out.later HB.out)).mono ?_
  rintro e u2 ⟨rfl, h2⟩
  replace HA := HA.bl h2
  replace HX := HX.bl h2
  replace HB := zh (Bt HB.out h2)
  clear h2
  go_wp2_with fail
  refine (is1_ok 4000000000000 4000000000000 a4 b4 _ HA.out HX.out).mono ?_
  rintro e u2 ⟨rfl, h2⟩
  replace HB := zh (Bt HB.out h2)
  clear h2 HA HX
  go_wp2_with fail
  refine (is_ok 1000000000000 1000000000000 _).mono ?_
  rintro e u1 ⟨⟨v5, rfl, a5, b5, rfl, ha, hb⟩, h1⟩
  have HA := zh ha
  have HX := zh hb
  replace HB := zh (Bt HB.out h1)
  clear ha h1 hb
  go_wp2_with fail
  refine (b_ok 1000000000000 1000000000000 _).mono ?_
  rintro e u2 ⟨rfl, h2⟩
  replace HA := HA.bl h2
  replace HX := HX.bl h2
  replace HB := zh (Bt HB.out h2)
  clear h2
  go_wp2_with fail
  refine (C5.out _ (HP.out.later HB.out) (HE.out.later HB.out)).mono ?_
  rintro e u2 ⟨rfl, h2⟩
  replace HA := HA.bl h2
  replace HX := HX.bl h2
  replace HB := zh (Bt HB.out h2)
  clear h2
  go_wp2_with fail
  refine (is1_ok 1000000000000 1000000000000 a5 b5 _ HA.out HX.out).mono ?_
  rintro e u2 ⟨rfl, h2⟩
  replace HB := zh (Bt HB.out h2)
  clear h2 HA HX
  go_wp2_with fail
  refine (fails_ok 2 _).mono ?_
  rintro e u1 ⟨⟨v6, rfl, a6, rfl, ha⟩, h1⟩
  have HA := zh ha
  replace HB := zh (Bt HB.out h1)
  clear ha h1
  go_wp2_with fail
  refine (b_ok (-1) 1 _).mono ?_
  rintro e u2 ⟨rfl, h2⟩
  replace HA := HA.bl h2
  replace HB := zh (Bt HB.out h2)
  clear h2
  go_wp2_with fail
  refine (C6.out _ (HP.out.later HB.out) (HE.out.later HB.out)).mono ?_
  rintro e u2 ⟨rfl, h2⟩
  replace HA := HA.bl h2
  replace HB := zh (Bt HB.out h2)
  clear h2
  go_wp2_with fail
  refine (fails1_ok 2 a6 _ HA.out).mono ?_
  rintro e u2 ⟨rfl, h2⟩
  replace HB := zh (Bt HB.out h2)
  clear h2 HA
  go_wp2_with fail
  refine (fails_ok 2 _).mono ?_
  rintro e u1 ⟨⟨v7, rfl, a7, rfl, ha⟩, h1⟩
  have HA := zh ha
  replace HB := zh (Bt HB.out h1)
  clear ha h1
  go_wp2_with fail
  refine (b_ok 1000000000000 1000000000000 _).mono ?_
  rintro e u2 ⟨rfl, h2⟩
  replace HA := HA.bl h2
  replace HB := zh (Bt HB.out h2)
  clear h2
  go_wp2_with fail
  refine (C7.out _ (HP.out.later HB.out) (HE.out.later HB.out)).mono ?_
  rintro e u2 ⟨rfl, h2⟩
  replace HA := HA.bl h2
  replace HB := zh (Bt HB.out h2)
  clear h2
  go_wp2_with fail
  refine (fails1_ok 2 a7 _ HA.out).mono ?_
  rintro e u2 ⟨rfl, h2⟩
  replace HB := zh (Bt HB.out h2)
  clear h2 HA
  go_wp2_with fail
  refine (fails_ok 2 _).mono ?_
  rintro e u1 ⟨⟨v8, rfl, a8, rfl, ha⟩, h1⟩
  have HA := zh ha
  replace HB := zh (Bt HB.out h1)
  clear ha h1
  go_wp2_with fail
  refine (b_ok 1000000000000 1000000000000 _).mono ?_
  rintro e u2 ⟨rfl, h2⟩
  replace HA := HA.bl h2
  replace HB := zh (Bt HB.out h2)
  clear h2
  go_wp2_with fail
  refine (C8.out _ (HP.out.later HB.out) (HE.out.later HB.out)).mono ?_
  rintro e u2 ⟨rfl, h2⟩
  replace HA := HA.bl h2
  replace HB := zh (Bt HB.out h2)
  clear h2
  go_wp2_with fail
  refine (fails1_ok 2 a8 _ HA.out).mono ?_
  rintro e u2 ⟨rfl, h2⟩
  replace HB := zh (Bt HB.out h2)
  clear h2 HA
  go_wp2_with fail
  refine (fails_ok 6 _).mono ?_
  rintro e u1 ⟨⟨v9, rfl, a9, rfl, ha⟩, h1⟩
  have HA := zh ha
  replace HB := zh (Bt HB.out h1)
  clear ha h1
  go_wp2_with fail
  refine (b_ok 1001000000000000 1001000000000000 _).mono ?_
  rintro e u2 ⟨rfl, h2⟩
  replace HA := HA.bl h2
  replace HB := zh (Bt HB.out h2)
  clear h2
  go_wp2_with fail
  refine (C9.out _ (HP.out.later HB.out) (HE.out.later HB.out)).mono ?_
  rintro e u2 ⟨rfl, h2⟩
  replace HA := HA.bl h2
  replace HB := zh (Bt HB.out h2)
  clear h2
  go_wp2_with fail
  refine (fails1_ok 6 a9 _ HA.out).mono ?_
  rintro e u2 ⟨rfl, h2⟩
  replace HB := zh (Bt HB.out h2)
  clear h2 HA
  go_wp2_with fail
  refine (exact_ok ⟨#[52]⟩ ⟨#[57]⟩ _).mono ?_
  rintro e u1 ⟨⟨v10, rfl, a10, b10, rfl, ha, hb⟩, h1⟩
  have HA := zh ha
  have HX := zh hb
  replace HB := zh (Bt HB.out h1)
  clear ha h1 hb
  go_wp2_with fail
  refine (Q10.out _ (HP.out.later HB.out)).mono ?_
  rintro e u2 ⟨rfl, h2⟩
  replace HA := HA.bl h2
  replace HX := HX.bl h2
  replace HB := zh (Bt HB.out h2)
  clear h2
  go_wp2_with fail
  refine (C10.out _ (HP.out.later HB.out)).mono ?_
  rintro e u2 ⟨rfl, h2⟩
  replace HA := HA.bl h2
  replace HX := HX.bl h2
  replace HB := zh (Bt HB.out h2)
  clear h2
  go_wp2_with fail
  refine (exact1_ok ⟨#[52]⟩ ⟨#[57]⟩ a10 b10 _ HA.out HX.out).mono ?_
  rintro e u2 ⟨rfl, h2⟩
  replace HB := zh (Bt HB.out h2)
  clear h2 HA HX
  go_wp2_with fail
  refine (none_ok 4 _).mono ?_
  rintro e u1 ⟨⟨v11, rfl, a11, rfl, ha⟩, h1⟩
  have HA := zh ha
  replace HB := zh (Bt HB.out h1)
  clear ha h1
  go_wp2_with fail
  refine (Q11.out _ (HP.out.later HB.out)).mono ?_
  rintro e u2 ⟨rfl, h2⟩
  replace HA := HA.bl h2
  replace HB := zh (Bt HB.out h2)
  clear h2
  go_wp2_with fail
  refine (C11.out _ (HP.out.later HB.out)).mono ?_
  rintro e u2 ⟨rfl, h2⟩
  replace HA := HA.bl h2
  replace HB := zh (Bt HB.out h2)
  clear h2
  go_wp2_with fail
  refine (none1_ok 4 a11 _ HA.out).mono ?_
  rintro e u2 ⟨rfl, h2⟩
  replace HB := zh (Bt HB.out h2)
  clear h2 HA
  go_wp2_with fail
  refine (exact_ok ⟨#[48]⟩ ⟨#[49]⟩ _).mono ?_
  rintro e u1 ⟨⟨v12, rfl, a12, b12, rfl, ha, hb⟩, h1⟩
  have HA := zh ha
  have HX := zh hb
  replace HB := zh (Bt HB.out h1)
  clear ha h1 hb
  go_wp2_with fail
  refine (Q12.out _ (HP.out.later HB.out)).mono ?_
  rintro e u2 ⟨rfl, h2⟩
  replace HA := HA.bl h2
  replace HX := HX.bl h2
  replace HB := zh (Bt HB.out h2)
  clear h2
  go_wp2_with fail
  refine (C12.out _ (HP.out.later HB.out)).mono ?_
  rintro e u2 ⟨rfl, h2⟩
  replace HA := HA.bl h2
  replace HX := HX.bl h2
  replace HB := zh (Bt HB.out h2)
  clear h2
  go_wp2_with fail
  refine (exact1_ok ⟨#[48]⟩ ⟨#[49]⟩ a12 b12 _ HA.out HX.out).mono ?_
  rintro e u2 ⟨rfl, h2⟩
  replace HB := zh (Bt HB.out h2)
  clear h2 HA HX
  go_wp2_with fail
  refine (none_ok 2 _).mono ?_
  rintro e u1 ⟨⟨v13, rfl, a13, rfl, ha⟩, h1⟩
  have HA := zh ha
  replace HB := zh (Bt HB.out h1)
  clear ha h1
  go_wp2_with fail
  refine (Q13.out _ (HP.out.later HB.out)).mono ?_
  rintro e u2 ⟨rfl, h2⟩
  replace HA := HA.bl h2
  replace HB := zh (Bt HB.out h2)
  clear h2
  go_wp2_with fail
  refine (C13.out _ (HP.out.later HB.out)).mono ?_
  rintro e u2 ⟨rfl, h2⟩
  replace HA := HA.bl h2
  replace HB := zh (Bt HB.out h2)
  clear h2
  go_wp2_with fail
  refine (none1_ok 2 a13 _ HA.out).mono ?_
  rintro e u2 ⟨rfl, h2⟩
  replace HB := zh (Bt HB.out h2)
  clear h2 HA
  go_wp2_with fail
  refine (is_ok 5000000000000 5000000000000 _).mono ?_
  rintro e u1 ⟨⟨v14, rfl, a14, b14, rfl, ha, hb⟩, h1⟩
  have HA := zh ha
  have HX := zh hb
  replace HB := zh (Bt HB.out h1)
  clear ha h1 hb
  go_wp2_with fail
  refine (b_ok 3000000000000 3000000000000 _).mono ?_
  rintro e u2 ⟨rfl, h2⟩
  replace HA := HA.bl h2
  replace HX := HX.bl h2
  replace HB := zh (Bt HB.out h2)
  clear h2
  go_wp2_with fail
  refine (b_ok (-4000000000000) (-4000000000000) _).mono ?_
  rintro e u2 ⟨rfl, h2⟩
  replace HA := HA.bl h2
  replace HX := HX.bl h2
  replace HB := zh (Bt HB.out h2)
  clear h2
  go_wp2_with fail
  obtain ⟨wz, EW, h2, Z⟩ := al1 u2 #[.int .i64 3000000000000, .int .i64 3000000000000, .int .i64 (-4000000000000), .int .i64 (-4000000000000)] 23
  rw [EW]
  clear EW
  replace HA := HA.bl h2
  replace HX := HX.bl h2
  replace HB := zh (Bt HB.out h2)
  clear h2
  refine (C14.out _ _ _ (Bds.two Z.out) (HP.out.later HB.out) (HE.out.later HB.out)).mono ?_
  rintro e u2 ⟨rfl, h2⟩
  replace HA := HA.bl h2
  replace HX := HX.bl h2
  replace HB := zh (Bt HB.out h2)
  clear h2
  go_wp2_with fail
  clear Z
  refine (is1_ok 5000000000000 5000000000000 a14 b14 _ HA.out HX.out).mono ?_
  rintro e u2 ⟨rfl, h2⟩
  replace HB := zh (Bt HB.out h2)
  clear h2 HA HX
  go_wp2_with fail
  refine (is_ok 0 2 _).mono ?_
  rintro e u1 ⟨⟨v15, rfl, a15, b15, rfl, ha, hb⟩, h1⟩
  have HA := zh ha
  have HX := zh hb
  replace HB := zh (Bt HB.out h1)
  clear ha h1 hb
  go_wp2_with fail
  refine (b_ok (-1) 2 _).mono ?_
  rintro e u2 ⟨rfl, h2⟩
  replace HA := HA.bl h2
  replace HX := HX.bl h2
  replace HB := zh (Bt HB.out h2)
  clear h2
  go_wp2_with fail
  obtain ⟨wz, EW, h2, Z⟩ := al1 u2 #[.int .i64 (-1), .int .i64 2] 23
  rw [EW]
  clear EW
  replace HA := HA.bl h2
  replace HX := HX.bl h2
  replace HB := zh (Bt HB.out h2)
  clear h2
  refine (C15.out _ _ _ (Bds.one Z.out) (HP.out.later HB.out) (HE.out.later HB.out)).mono ?_
  rintro e u2 ⟨rfl, h2⟩
  replace HA := HA.bl h2
  replace HX := HX.bl h2
  replace HB := zh (Bt HB.out h2)
  clear h2
  go_wp2_with fail
  clear Z
  refine (is1_ok 0 2 a15 b15 _ HA.out HX.out).mono ?_
  rintro e u2 ⟨rfl, h2⟩
  replace HB := zh (Bt HB.out h2)
  clear h2 HA HX
  go_wp2_with fail
  refine (is_ok 1 2 _).mono ?_
  rintro e u1 ⟨⟨v16, rfl, a16, b16, rfl, ha, hb⟩, h1⟩
  have HA := zh ha
  have HX := zh hb
  replace HB := zh (Bt HB.out h1)
  clear ha h1 hb
  go_wp2_with fail
  refine (b_ok 1 1 _).mono ?_
  rintro e u2 ⟨rfl, h2⟩
  replace HA := HA.bl h2
  replace HX := HX.bl h2
  replace HB := zh (Bt HB.out h2)
  clear h2
  go_wp2_with fail
  refine (b_ok 1 1 _).mono ?_
  rintro e u2 ⟨rfl, h2⟩
  replace HA := HA.bl h2
  replace HX := HX.bl h2
  replace HB := zh (Bt HB.out h2)
  clear h2
  go_wp2_with fail
  obtain ⟨wz, EW, h2, Z⟩ := al1 u2 #[.int .i64 1, .int .i64 1, .int .i64 1, .int .i64 1] 23
  rw [EW]
  clear EW
  replace HA := HA.bl h2
  replace HX := HX.bl h2
  replace HB := zh (Bt HB.out h2)
  clear h2
  refine (C16.out _ _ _ (Bds.two Z.out) (HP.out.later HB.out) (HE.out.later HB.out)).mono ?_
  rintro e u2 ⟨rfl, h2⟩
  replace HA := HA.bl h2
  replace HX := HX.bl h2
  replace HB := zh (Bt HB.out h2)
  clear h2
  go_wp2_with fail
  clear Z
  refine (is1_ok 1 2 a16 b16 _ HA.out HX.out).mono ?_
  rintro e u2 ⟨rfl, h2⟩
  replace HB := zh (Bt HB.out h2)
  clear h2 HA HX
  go_wp2_with fail
  refine (fails_ok 2 _).mono ?_
  rintro e u1 ⟨⟨v17, rfl, a17, rfl, ha⟩, h1⟩
  have HA := zh ha
  replace HB := zh (Bt HB.out h1)
  clear ha h1
  go_wp2_with fail
  refine (C17.out 23 _ _ Bds.nil (HP.out.later HB.out) (HE.out.later HB.out)).mono ?_
  rintro e u2 ⟨rfl, h2⟩
  replace HA := HA.bl h2
  replace HB := zh (Bt HB.out h2)
  clear h2
  go_wp2_with fail
  refine (fails1_ok 2 a17 _ HA.out).mono ?_
  rintro e u2 ⟨rfl, h2⟩
  replace HB := zh (Bt HB.out h2)
  clear h2 HA
  go_wp2_with fail
  go_ret
  exact ⟨rfl, HB.out⟩
end Go.Proofs.verdigrislaw04
