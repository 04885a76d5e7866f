/- verdigrislaw04.PowerKnown returns true. Conditions: those of the given row. -/
import Derived.Test.YtpoecfpbafpokaaGreatDoorSB01
import Derived.Test.YtpoecfpbafpokaaGreatDoorSB03
import Derived.Test.YtpoecfpbafpokaaGreatDoorSB05
import Derived.Test.YtpoecfpbafpokaaGreatDoorSB08
import Derived.Test.YtpoecfpbafpokaaGreatDoorSE01
import Derived.Test.YtpoecfpbafpokaaGreatDoorCards
import Derived.Test.YtpoecfpbafpokaaGreatDoorTie
import Derived.ChangeSame
import Derived.ChangeVars
import Derived.JoinedOf
import Derived.SevenTiedAt
set_option linter.unusedVariables false
set_option linter.unusedSimpArgs false
set_option maxRecDepth 100000
set_option maxHeartbeats 16000000
namespace Go.Proofs.verdigrislaw04
open Go Go.RowKit Go.SW Go.Num Go.Mem Go.Proofs Go.Dec Go.Fra Go.Proofs.band
theorem PowerKnown_ok (w : World) (ht : Bld.Pow w) (he : whole.Er w) : Calls Tryz.prog 7 #[] w (fun e w' => e = .returned (.bool true) ∧ Below w.heap.size w w') := by
  have HP := zh ht
  have HE := zh he
  have HB := zh (Below.refl w.heap.size w)
  have HW := zh (fun W h1 h2 => works_ok W h1 h2)
  clear ht he
  have P0 : power.pwE 1 0 0 0 = ((0, 0), 30) := by decide +kernel
  have C0 : Hid (∀ W, Bld.Pow W → whole.Er W → Calls Tryz.prog 15 #[.agg #[.int .i64 1, .int .i64 0], .int .i64 0, .int .i64 0] W (fun e w' => e = .returned (.tuple #[.agg #[.int .i64 0, .int .i64 0], .int .i64 30]) ∧ Below W.heap.size W w')) := zh fun W h1 h2 => by
    have := power.Power_ok 1 0 0 0 W h1 h2
    rw [P0] at this
    exact this
  clear P0
  have P1 : power.pwE 0 0 0 1 = ((0, 0), 2) := by decide +kernel
  have C1 : Hid (∀ W, Bld.Pow W → whole.Er W → Calls Tryz.prog 15 #[.agg #[.int .i64 0, .int .i64 0], .int .i64 0, .int .i64 1] W (fun e w' => e = .returned (.tuple #[.agg #[.int .i64 0, .int .i64 0], .int .i64 2]) ∧ Below W.heap.size W w')) := zh fun W h1 h2 => by
    have := power.Power_ok 0 0 0 1 W h1 h2
    rw [P1] at this
    exact this
  clear P1
  have P2 : power.pwE 0 0 1 0 = ((0, 0), 2) := by decide +kernel
  have C2 : Hid (∀ W, Bld.Pow W → whole.Er W → Calls Tryz.prog 15 #[.agg #[.int .i64 0, .int .i64 0], .int .i64 1, .int .i64 0] W (fun e w' => e = .returned (.tuple #[.agg #[.int .i64 0, .int .i64 0], .int .i64 2]) ∧ Below W.heap.size W w')) := zh fun W h1 h2 => by
    have := power.Power_ok 0 0 1 0 W h1 h2
    rw [P2] at this
    exact this
  clear P2
  have P3 : power.pwE 0 0 36 1 = ((0, 0), 0) := power.pwE_is (lo := 0) (hi := 0) (a := 0) (b := 0) (p := 36) (q := 1) (by decide +kernel)
  have C3 : Hid (∀ W, Bld.Pow W → whole.Er W → Calls Tryz.prog 15 #[.agg #[.int .i64 0, .int .i64 0], .int .i64 36, .int .i64 1] W (fun e w' => e = .returned (.tuple #[.agg #[.int .i64 0, .int .i64 0], .int .i64 0]) ∧ Below W.heap.size W w')) := zh fun W h1 h2 => by
    have := power.Power_ok 0 0 36 1 W h1 h2
    rw [P3] at this
    exact this
  clear P3
  have P4 : power.pwE 0 0 1 12 = ((0, 0), 0) := power.pwE_is (lo := 0) (hi := 0) (a := 0) (b := 0) (p := 1) (q := 12) (by decide +kernel)
  have C4 : Hid (∀ W, Bld.Pow W → whole.Er W → Calls Tryz.prog 17 #[.agg #[.int .i64 0, .int .i64 0], .int .i64 12] W (fun e w' => e = .returned (.tuple #[.agg #[.int .i64 0, .int .i64 0], .int .i64 0]) ∧ Below W.heap.size W w')) := zh fun W h1 h2 => by
    have := power.Root_ok 0 0 12 W h1 h2
    rw [P4] at this
    exact this
  clear P4
  have P5 : power.pwE 0 1 36 1 = ((0, 1), 0) := power.pwE_is (lo := 0) (hi := 1) (a := 0) (b := 1) (p := 36) (q := 1) (by decide +kernel)
  have C5 : Hid (∀ W, Bld.Pow W → whole.Er W → Calls Tryz.prog 15 #[.agg #[.int .i64 0, .int .i64 1], .int .i64 36, .int .i64 1] W (fun e w' => e = .returned (.tuple #[.agg #[.int .i64 0, .int .i64 1], .int .i64 0]) ∧ Below W.heap.size W w')) := zh fun W h1 h2 => by
    have := power.Power_ok 0 1 36 1 W h1 h2
    rw [P5] at this
    exact this
  clear P5
  have P6 : power.pwE 1000000000000000000 1000000000000000000 12 12 = ((1000000000000000000, 1000000000000000000), 0) := power.pwE_is (lo := 1000000000000000000) (hi := 1000000000000000000) (a := 1000000000000000000) (b := 1000000000000000000) (p := 12) (q := 12) (by decide +kernel)
  have C6 : Hid (∀ W, Bld.Pow W → whole.Er W → Calls Tryz.prog 15 #[.agg #[.int .i64 1000000000000000000, .int .i64 1000000000000000000], .int .i64 12, .int .i64 12] W (fun e w' => e = .returned (.tuple #[.agg #[.int .i64 1000000000000000000, .int .i64 1000000000000000000], .int .i64 0]) ∧ Below W.heap.size W w')) := zh fun W h1 h2 => by
    have := power.Power_ok 1000000000000000000 1000000000000000000 12 12 W h1 h2
    rw [P6] at this
    exact this
  clear P6
  have P7 : power.pwE 0 1000000000000000000 13 12 = ((0, 0), 6) := power.pwE_big (lo := 0) (hi := 1000000000000000000) (p := 13) (q := 12) (by decide +kernel)
  have C7 : Hid (∀ W, Bld.Pow W → whole.Er W → Calls Tryz.prog 15 #[.agg #[.int .i64 0, .int .i64 1000000000000000000], .int .i64 13, .int .i64 12] W (fun e w' => e = .returned (.tuple #[.agg #[.int .i64 0, .int .i64 0], .int .i64 6]) ∧ Below W.heap.size W w')) := zh fun W h1 h2 => by
    have := power.Power_ok 0 1000000000000000000 13 12 W h1 h2
    rw [P7] at this
    exact this
  clear P7
  have P8 : power.pwE 1000000000000000000 1000000000000000000 1 6 = ((10000000000000, 10000000000000), 0) := power.pwE_is (lo := 1000000000000000000) (hi := 1000000000000000000) (a := 10000000000000) (b := 10000000000000) (p := 1) (q := 6) (by decide +kernel)
  have C8 : Hid (∀ W, Bld.Pow W → whole.Er W → Calls Tryz.prog 17 #[.agg #[.int .i64 1000000000000000000, .int .i64 1000000000000000000], .int .i64 6] W (fun e w' => e = .returned (.tuple #[.agg #[.int .i64 10000000000000, .int .i64 10000000000000], .int .i64 0]) ∧ Below W.heap.size W w')) := zh fun W h1 h2 => by
    have := power.Root_ok 1000000000000000000 1000000000000000000 6 W h1 h2
    rw [P8] at this
    exact this
  clear P8
  have P9 : power.pwE 1000000000000000 1000000000000000 2 1 = ((1000000000000000000, 1000000000000000000), 0) := power.pwE_is (lo := 1000000000000000) (hi := 1000000000000000) (a := 1000000000000000000) (b := 1000000000000000000) (p := 2) (q := 1) (by decide +kernel)
  have C9 : Hid (∀ W, Bld.Pow W → whole.Er W → Calls Tryz.prog 15 #[.agg #[.int .i64 1000000000000000, .int .i64 1000000000000000], .int .i64 2, .int .i64 1] W (fun e w' => e = .returned (.tuple #[.agg #[.int .i64 1000000000000000000, .int .i64 1000000000000000000], .int .i64 0]) ∧ Below W.heap.size W w')) := zh fun W h1 h2 => by
    have := power.Power_ok 1000000000000000 1000000000000000 2 1 W h1 h2
    rw [P9] at this
    exact this
  clear P9
  have P10 : power.pwE 1000000000000000 1000000000000001 2 1 = ((0, 0), 6) := power.pwE_big (lo := 1000000000000000) (hi := 1000000000000001) (p := 2) (q := 1) (by decide +kernel)
  have C10 : Hid (∀ W, Bld.Pow W → whole.Er W → Calls Tryz.prog 15 #[.agg #[.int .i64 1000000000000000, .int .i64 1000000000000001], .int .i64 2, .int .i64 1] W (fun e w' => e = .returned (.tuple #[.agg #[.int .i64 0, .int .i64 0], .int .i64 6]) ∧ Below W.heap.size W w')) := zh fun W h1 h2 => by
    have := power.Power_ok 1000000000000000 1000000000000001 2 1 W h1 h2
    rw [P10] at this
    exact this
  clear P10
  have P11 : power.pwE 10000000000000 10000000000000 5 1 = ((100000000000000000, 100000000000000000), 0) := power.pwE_is (lo := 10000000000000) (hi := 10000000000000) (a := 100000000000000000) (b := 100000000000000000) (p := 5) (q := 1) (by decide +kernel)
  have C11 : Hid (∀ W, Bld.Pow W → whole.Er W → Calls Tryz.prog 15 #[.agg #[.int .i64 10000000000000, .int .i64 10000000000000], .int .i64 5, .int .i64 1] W (fun e w' => e = .returned (.tuple #[.agg #[.int .i64 100000000000000000, .int .i64 100000000000000000], .int .i64 0]) ∧ Below W.heap.size W w')) := zh fun W h1 h2 => by
    have := power.Power_ok 10000000000000 10000000000000 5 1 W h1 h2
    rw [P11] at this
    exact this
  clear P11
  go_enter Tryz.func7, Tryz.ntmps7
  go_wp2_with fail
  refine (HW.out _ (HP.out.later HB.out) (HE.out.later HB.out)).mono ?_
  rintro e u ⟨rfl, h⟩
  replace HB := zh (Bt HB.out h)
  clear h
  go_wp2_with fail
  refine (b_ok 1 0 _).mono ?_
  rintro e u2 ⟨rfl, h⟩
  replace HB := zh (Bt HB.out h)
  clear h
  go_wp2_with fail
  obtain ⟨wb, EW, hz, B⟩ := al1 u2 #[.int .i64 1, .int .i64 0] 23
  rw [EW]
  clear EW
  replace HB := zh (Bt HB.out hz)
  clear hz
  obtain ⟨cB, lB⟩ := B.cl
  have HK := zh (Below.refl wb.heap.size wb)
  refine wp_region_walk ((.read, 1) :: (.ext, 0) :: (.ext, 2) :: (.pure, 3) :: (.pure, 4) :: (.ext, 5) :: (.pure, 6) :: (.ext, 7) :: (.ext, 8) :: (.ext, 9) :: (.pure, 10) :: (.pure, 11) :: (.ext, 12) :: (.pure, 13) :: (.pure, 14) :: (.ext, 15) :: (.ext, 16) :: (.ext, 17) :: (.pure, 18) :: (.pure, 19) :: (.ext, 20) :: (.pure, 21) :: (.pure, 22) :: (.ext, 23) :: (.ext, 24) :: (.ext, 25) :: (.pure, 26) :: (.pure, 27) :: (.ext, 28) :: (.pure, 29) :: (.pure, 30) :: (.ext, 31) :: (.ext, 32) :: (.ext, 33) :: (.pure, 34) :: (.pure, 35) :: (.ext, 36) :: (.pure, 37) :: (.pure, 38) :: (.ext, 39) :: (.ext, 40) :: (.ext, 41) :: (.pure, 42) :: (.pure, 43) :: (.ext, 44) :: (.pure, 45) :: (.pure, 46) :: (.ext, 47) :: (.ext, 48) :: (.ext, 49) :: (.pure, 50) :: (.pure, 51) :: (.ext, 52) :: (.pure, 53) :: (.pure, 54) :: (.ext, 55) :: (.ext, 56) :: (.ext, 57) :: (.pure, 58) :: (.pure, 59) :: (.ext, 60) :: (.pure, 61) :: (.pure, 62) :: (.ext, 63) :: (.ext, 64) :: (.ext, 65) :: (.pure, 66) :: (.pure, 67) :: (.ext, 68) :: (.pure, 69) :: (.pure, 70) :: (.ext, 71) :: (.ext, 72) :: (.ext, 73) :: (.pure, 74) :: (.pure, 75) :: (.ext, 76) :: (.pure, 77) :: (.pure, 78) :: (.ext, 79) :: (.ext, 80) :: (.ext, 81) :: (.pure, 82) :: (.pure, 83) :: (.ext, 84) :: (.pure, 85) :: (.pure, 86) :: (.ext, 87) :: (.ext, 88) :: (.ext, 89) :: (.pure, 90) :: (.pure, 91) :: (.ext, 92) :: (.pure, 93) :: (.fin, 94) :: []) zk (Eq.trans (b := check (opsOf Tryz.f7 4) list4) zk chk4) zR zP ?_
  refine Wk.out ?_
  repeat (first | (apply wk_skip; (rfl); (rfl); (rfl); (intro J hJ; go_simp; (with_reducible refine hJ _ ?_); clear hJ J)) | (apply wk_len; (rfl); (rfl); (rfl); (rfl); (exact zk); (intro J hJ; go_simp; (with_reducible refine hJ _ ?_); clear hJ J)) | (apply wk_pure; (rfl); (rfl); (intro J hJ; go_simp; (with_reducible refine hJ _ ?_); clear hJ J)) | (apply wk_load; (rfl); (rfl); (rfl); (rfl); (intro J hJ; go_simp; (with_reducible refine hJ _ ?_); clear hJ J; try go_simp)))
  refine wk_ext rfl rfl (fun we hbe J hJ => ?_)
  go_simp
  have hx : Below wb.heap.size wb we := belA
  have HX2 := zh (Bt HB.out hx)
  refine (fails_ok 30 _).mono ?_
  rintro e u0a ⟨⟨v0, rfl, a0, rfl, ha⟩, h2⟩
  have hy := Bt hx h2
  refine hJ _ _ h2 ?_
  clear hJ J hbe hx h2 HX2
  replace HB := zh (Bt HB.out hy)
  replace HK := zh (Bt HK.out hy)
  clear hy
  have HA := zh ha
  clear ha
  repeat (first | (apply wk_skip; (rfl); (rfl); (rfl); (intro J hJ; go_simp; (with_reducible refine hJ _ ?_); clear hJ J)) | (apply wk_len; (rfl); (rfl); (rfl); (rfl); (exact zk); (intro J hJ; go_simp; (with_reducible refine hJ _ ?_); clear hJ J)) | (apply wk_pure; (rfl); (rfl); (intro J hJ; go_simp; (with_reducible refine hJ _ ?_); clear hJ J)) | (apply wk_load; (rfl); (rfl); (rfl); (rfl); (intro J hJ; go_simp; (with_reducible refine hJ _ ?_); clear hJ J; try go_simp)))
  refine wk_ext rfl rfl (fun we hbe J hJ => ?_)
  go_simp
  have hx : Below u0a.heap.size u0a we := belA
  have HX2 := zh (Bt HB.out hx)
  refine (C0.out _ (HP.out.later HX2.out) (HE.out.later HX2.out)).mono ?_
  rintro e u0c ⟨rfl, h2⟩
  have hy := Bt hx h2
  refine hJ _ _ h2 ?_
  clear hJ J hbe hx h2 HX2
  replace HA := HA.bl hy
  replace HB := zh (Bt HB.out hy)
  replace HK := zh (Bt HK.out hy)
  clear hy
  repeat (first | (apply wk_skip; (rfl); (rfl); (rfl); (intro J hJ; go_simp; (with_reducible refine hJ _ ?_); clear hJ J)) | (apply wk_len; (rfl); (rfl); (rfl); (rfl); (exact zk); (intro J hJ; go_simp; (with_reducible refine hJ _ ?_); clear hJ J)) | (apply wk_pure; (rfl); (rfl); (intro J hJ; go_simp; (with_reducible refine hJ _ ?_); clear hJ J)) | (apply wk_load; (rfl); (rfl); (rfl); (rfl); (intro J hJ; go_simp; (with_reducible refine hJ _ ?_); clear hJ J; try go_simp)))
  refine wk_ext rfl rfl (fun we hbe J hJ => ?_)
  go_simp
  have hx : Below u0c.heap.size u0c we := belA
  have HX2 := zh (Bt HB.out hx)
  refine (fails1_ok 30 a0 _ (HA.out.later hx)).mono ?_
  rintro e u0d ⟨rfl, h2⟩
  have hy := Bt hx h2
  refine hJ _ _ h2 ?_
  clear hJ J hbe hx h2 HX2
  replace HB := zh (Bt HB.out hy)
  replace HK := zh (Bt HK.out hy)
  clear hy
  clear HA
  repeat (first | (apply wk_skip; (rfl); (rfl); (rfl); (intro J hJ; go_simp; (with_reducible refine hJ _ ?_); clear hJ J)) | (apply wk_len; (rfl); (rfl); (rfl); (rfl); (exact zk); (intro J hJ; go_simp; (with_reducible refine hJ _ ?_); clear hJ J)) | (apply wk_pure; (rfl); (rfl); (intro J hJ; go_simp; (with_reducible refine hJ _ ?_); clear hJ J)) | (apply wk_load; (rfl); (rfl); (rfl); (rfl); (intro J hJ; go_simp; (with_reducible refine hJ _ ?_); clear hJ J; try go_simp)))
  refine wk_ext rfl rfl (fun we hbe J hJ => ?_)
  go_simp
  have hx : Below u0d.heap.size u0d we := belA
  have HX2 := zh (Bt HB.out hx)
  refine (fails_ok 2 _).mono ?_
  rintro e u1a ⟨⟨v1, rfl, a1, rfl, ha⟩, h2⟩
  have hy := Bt hx h2
  refine hJ _ _ h2 ?_
  clear hJ J hbe hx h2 HX2
  replace HB := zh (Bt HB.out hy)
  replace HK := zh (Bt HK.out hy)
  clear hy
  have HA := zh ha
  clear ha
  repeat (first | (apply wk_skip; (rfl); (rfl); (rfl); (intro J hJ; go_simp; (with_reducible refine hJ _ ?_); clear hJ J)) | (apply wk_len; (rfl); (rfl); (rfl); (rfl); (exact zk); (intro J hJ; go_simp; (with_reducible refine hJ _ ?_); clear hJ J)) | (apply wk_pure; (rfl); (rfl); (intro J hJ; go_simp; (with_reducible refine hJ _ ?_); clear hJ J)) | (apply wk_load; (rfl); (rfl); (rfl); (rfl); (intro J hJ; go_simp; (with_reducible refine hJ _ ?_); clear hJ J; try go_simp)))
  refine wk_ext rfl rfl (fun we hbe J hJ => ?_)
  go_simp
  have hx : Below u1a.heap.size u1a we := belA
  have HX2 := zh (Bt HB.out hx)
  refine (b_ok 0 0 _).mono ?_
  rintro e u1b ⟨rfl, h2⟩
  have hy := Bt hx h2
  refine hJ _ _ h2 ?_
  clear hJ J hbe hx h2 HX2
  replace HA := HA.bl hy
  replace HB := zh (Bt HB.out hy)
  replace HK := zh (Bt HK.out hy)
  clear hy
  repeat (first | (apply wk_skip; (rfl); (rfl); (rfl); (intro J hJ; go_simp; (with_reducible refine hJ _ ?_); clear hJ J)) | (apply wk_len; (rfl); (rfl); (rfl); (rfl); (exact zk); (intro J hJ; go_simp; (with_reducible refine hJ _ ?_); clear hJ J)) | (apply wk_pure; (rfl); (rfl); (intro J hJ; go_simp; (with_reducible refine hJ _ ?_); clear hJ J)) | (apply wk_load; (rfl); (rfl); (rfl); (rfl); (intro J hJ; go_simp; (with_reducible refine hJ _ ?_); clear hJ J; try go_simp)))
  refine wk_ext rfl rfl (fun we hbe J hJ => ?_)
  go_simp
  have hx : Below u1b.heap.size u1b we := belA
  have HX2 := zh (Bt HB.out hx)
  refine (C1.out _ (HP.out.later HX2.out) (HE.out.later HX2.out)).mono ?_
  rintro e u1c ⟨rfl, h2⟩
  have hy := Bt hx h2
  refine hJ _ _ h2 ?_
  clear hJ J hbe hx h2 HX2
  replace HA := HA.bl hy
  replace HB := zh (Bt HB.out hy)
  replace HK := zh (Bt HK.out hy)
  clear hy
  repeat (first | (apply wk_skip; (rfl); (rfl); (rfl); (intro J hJ; go_simp; (with_reducible refine hJ _ ?_); clear hJ J)) | (apply wk_len; (rfl); (rfl); (rfl); (rfl); (exact zk); (intro J hJ; go_simp; (with_reducible refine hJ _ ?_); clear hJ J)) | (apply wk_pure; (rfl); (rfl); (intro J hJ; go_simp; (with_reducible refine hJ _ ?_); clear hJ J)) | (apply wk_load; (rfl); (rfl); (rfl); (rfl); (intro J hJ; go_simp; (with_reducible refine hJ _ ?_); clear hJ J; try go_simp)))
  refine wk_ext rfl rfl (fun we hbe J hJ => ?_)
  go_simp
  have hx : Below u1c.heap.size u1c we := belA
  have HX2 := zh (Bt HB.out hx)
  refine (fails1_ok 2 a1 _ (HA.out.later hx)).mono ?_
  rintro e u1d ⟨rfl, h2⟩
  have hy := Bt hx h2
  refine hJ _ _ h2 ?_
  clear hJ J hbe hx h2 HX2
  replace HB := zh (Bt HB.out hy)
  replace HK := zh (Bt HK.out hy)
  clear hy
  clear HA
  repeat (first | (apply wk_skip; (rfl); (rfl); (rfl); (intro J hJ; go_simp; (with_reducible refine hJ _ ?_); clear hJ J)) | (apply wk_len; (rfl); (rfl); (rfl); (rfl); (exact zk); (intro J hJ; go_simp; (with_reducible refine hJ _ ?_); clear hJ J)) | (apply wk_pure; (rfl); (rfl); (intro J hJ; go_simp; (with_reducible refine hJ _ ?_); clear hJ J)) | (apply wk_load; (rfl); (rfl); (rfl); (rfl); (intro J hJ; go_simp; (with_reducible refine hJ _ ?_); clear hJ J; try go_simp)))
  refine wk_ext rfl rfl (fun we hbe J hJ => ?_)
  go_simp
  have hx : Below u1d.heap.size u1d we := belA
  have HX2 := zh (Bt HB.out hx)
  refine (fails_ok 2 _).mono ?_
  rintro e u2a ⟨⟨v2, rfl, a2, rfl, ha⟩, h2⟩
  have hy := Bt hx h2
  refine hJ _ _ h2 ?_
  clear hJ J hbe hx h2 HX2
  replace HB := zh (Bt HB.out hy)
  replace HK := zh (Bt HK.out hy)
  clear hy
  have HA := zh ha
  clear ha
  repeat (first | (apply wk_skip; (rfl); (rfl); (rfl); (intro J hJ; go_simp; (with_reducible refine hJ _ ?_); clear hJ J)) | (apply wk_len; (rfl); (rfl); (rfl); (rfl); (exact zk); (intro J hJ; go_simp; (with_reducible refine hJ _ ?_); clear hJ J)) | (apply wk_pure; (rfl); (rfl); (intro J hJ; go_simp; (with_reducible refine hJ _ ?_); clear hJ J)) | (apply wk_load; (rfl); (rfl); (rfl); (rfl); (intro J hJ; go_simp; (with_reducible refine hJ _ ?_); clear hJ J; try go_simp)))
  refine wk_ext rfl rfl (fun we hbe J hJ => ?_)
  go_simp
  have hx : Below u2a.heap.size u2a we := belA
  have HX2 := zh (Bt HB.out hx)
  refine (b_ok 0 0 _).mono ?_
  rintro e u2b ⟨rfl, h2⟩
  have hy := Bt hx h2
  refine hJ _ _ h2 ?_
  clear hJ J hbe hx h2 HX2
  replace HA := HA.bl hy
  replace HB := zh (Bt HB.out hy)
  replace HK := zh (Bt HK.out hy)
  clear hy
  repeat (first | (apply wk_skip; (rfl); (rfl); (rfl); (intro J hJ; go_simp; (with_reducible refine hJ _ ?_); clear hJ J)) | (apply wk_len; (rfl); (rfl); (rfl); (rfl); (exact zk); (intro J hJ; go_simp; (with_reducible refine hJ _ ?_); clear hJ J)) | (apply wk_pure; (rfl); (rfl); (intro J hJ; go_simp; (with_reducible refine hJ _ ?_); clear hJ J)) | (apply wk_load; (rfl); (rfl); (rfl); (rfl); (intro J hJ; go_simp; (with_reducible refine hJ _ ?_); clear hJ J; try go_simp)))
  refine wk_ext rfl rfl (fun we hbe J hJ => ?_)
  go_simp
  have hx : Below u2b.heap.size u2b we := belA
  have HX2 := zh (Bt HB.out hx)
  refine (C2.out _ (HP.out.later HX2.out) (HE.out.later HX2.out)).mono ?_
  rintro e u2c ⟨rfl, h2⟩
  have hy := Bt hx h2
  refine hJ _ _ h2 ?_
  clear hJ J hbe hx h2 HX2
  replace HA := HA.bl hy
  replace HB := zh (Bt HB.out hy)
  replace HK := zh (Bt HK.out hy)
  clear hy
  repeat (first | (apply wk_skip; (rfl); (rfl); (rfl); (intro J hJ; go_simp; (with_reducible refine hJ _ ?_); clear hJ J)) | (apply wk_len; (rfl); (rfl); (rfl); (rfl); (exact zk); (intro J hJ; go_simp; (with_reducible refine hJ _ ?_); clear hJ J)) | (apply wk_pure; (rfl); (rfl); (intro J hJ; go_simp; (with_reducible refine hJ _ ?_); clear hJ J)) | (apply wk_load; (rfl); (rfl); (rfl); (rfl); (intro J hJ; go_simp; (with_reducible refine hJ _ ?_); clear hJ J; try go_simp)))
  refine wk_ext rfl rfl (fun we hbe J hJ => ?_)
  go_simp
  have hx : Below u2c.heap.size u2c we := belA
  have HX2 := zh (Bt HB.out hx)
  refine (fails1_ok 2 a2 _ (HA.out.later hx)).mono ?_
  rintro e u2d ⟨rfl, h2⟩
  have hy := Bt hx h2
  refine hJ _ _ h2 ?_
  clear hJ J hbe hx h2 HX2
  replace HB := zh (Bt HB.out hy)
  replace HK := zh (Bt HK.out hy)
  clear hy
  clear HA
  repeat (first | (apply wk_skip; (rfl); (rfl); (rfl); (intro J hJ; go_simp; (with_reducible refine hJ _ ?_); clear hJ J)) | (apply wk_len; (rfl); (rfl); (rfl); (rfl); (exact zk); (intro J hJ; go_simp; (with_reducible refine hJ _ ?_); clear hJ J)) | (apply wk_pure; (rfl); (rfl); (intro J hJ; go_simp; (with_reducible refine hJ _ ?_); clear hJ J)) | (apply wk_load; (rfl); (rfl); (rfl); (rfl); (intro J hJ; go_simp; (with_reducible refine hJ _ ?_); clear hJ J; try go_simp)))
  refine wk_ext rfl rfl (fun we hbe J hJ => ?_)
  go_simp
  have hx : Below u2d.heap.size u2d we := belA
  have HX2 := zh (Bt HB.out hx)
  refine (is_ok 0 0 _).mono ?_
  rintro e u3a ⟨⟨v3, rfl, a3, b3, rfl, ha, hb⟩, h2⟩
  have hy := Bt hx h2
  refine hJ _ _ h2 ?_
  clear hJ J hbe hx h2 HX2
  replace HB := zh (Bt HB.out hy)
  replace HK := zh (Bt HK.out hy)
  clear hy
  have HA := zh ha
  clear ha
  have HX := zh hb
  clear hb
  repeat (first | (apply wk_skip; (rfl); (rfl); (rfl); (intro J hJ; go_simp; (with_reducible refine hJ _ ?_); clear hJ J)) | (apply wk_len; (rfl); (rfl); (rfl); (rfl); (exact zk); (intro J hJ; go_simp; (with_reducible refine hJ _ ?_); clear hJ J)) | (apply wk_pure; (rfl); (rfl); (intro J hJ; go_simp; (with_reducible refine hJ _ ?_); clear hJ J)) | (apply wk_load; (rfl); (rfl); (rfl); (rfl); (intro J hJ; go_simp; (with_reducible refine hJ _ ?_); clear hJ J; try go_simp)))
  refine wk_ext rfl rfl (fun we hbe J hJ => ?_)
  go_simp
  have hx : Below u3a.heap.size u3a we := belA
  have HX2 := zh (Bt HB.out hx)
  refine (b_ok 0 0 _).mono ?_
  rintro e u3b ⟨rfl, h2⟩
  have hy := Bt hx h2
  refine hJ _ _ h2 ?_
  clear hJ J hbe hx h2 HX2
  replace HA := HA.bl hy
  replace HX := HX.bl hy
  replace HB := zh (Bt HB.out hy)
  replace HK := zh (Bt HK.out hy)
  clear hy
  repeat (first | (apply wk_skip; (rfl); (rfl); (rfl); (intro J hJ; go_simp; (with_reducible refine hJ _ ?_); clear hJ J)) | (apply wk_len; (rfl); (rfl); (rfl); (rfl); (exact zk); (intro J hJ; go_simp; (with_reducible refine hJ _ ?_); clear hJ J)) | (apply wk_pure; (rfl); (rfl); (intro J hJ; go_simp; (with_reducible refine hJ _ ?_); clear hJ J)) | (apply wk_load; (rfl); (rfl); (rfl); (rfl); (intro J hJ; go_simp; (with_reducible refine hJ _ ?_); clear hJ J; try go_simp)))
  refine wk_ext rfl rfl (fun we hbe J hJ => ?_)
  go_simp
  have hx : Below u3b.heap.size u3b we := belA
  have HX2 := zh (Bt HB.out hx)
  refine (C3.out _ (HP.out.later HX2.out) (HE.out.later HX2.out)).mono ?_
  rintro e u3c ⟨rfl, h2⟩
  have hy := Bt hx h2
  refine hJ _ _ h2 ?_
  clear hJ J hbe hx h2 HX2
  replace HA := HA.bl hy
  replace HX := HX.bl hy
  replace HB := zh (Bt HB.out hy)
  replace HK := zh (Bt HK.out hy)
  clear hy
  repeat (first | (apply wk_skip; (rfl); (rfl); (rfl); (intro J hJ; go_simp; (with_reducible refine hJ _ ?_); clear hJ J)) | (apply wk_len; (rfl); (rfl); (rfl); (rfl); (exact zk); (intro J hJ; go_simp; (with_reducible refine hJ _ ?_); clear hJ J)) | (apply wk_pure; (rfl); (rfl); (intro J hJ; go_simp; (with_reducible refine hJ _ ?_); clear hJ J)) | (apply wk_load; (rfl); (rfl); (rfl); (rfl); (intro J hJ; go_simp; (with_reducible refine hJ _ ?_); clear hJ J; try go_simp)))
  refine wk_ext rfl rfl (fun we hbe J hJ => ?_)
  go_simp
  have hx : Below u3c.heap.size u3c we := belA
  have HX2 := zh (Bt HB.out hx)
  refine (is1_ok 0 0 a3 b3 _ (HA.out.later hx) (HX.out.later hx)).mono ?_
  rintro e u3d ⟨rfl, h2⟩
  have hy := Bt hx h2
  refine hJ _ _ h2 ?_
  clear hJ J hbe hx h2 HX2
  replace HB := zh (Bt HB.out hy)
  replace HK := zh (Bt HK.out hy)
  clear hy
  clear HA HX
  repeat (first | (apply wk_skip; (rfl); (rfl); (rfl); (intro J hJ; go_simp; (with_reducible refine hJ _ ?_); clear hJ J)) | (apply wk_len; (rfl); (rfl); (rfl); (rfl); (exact zk); (intro J hJ; go_simp; (with_reducible refine hJ _ ?_); clear hJ J)) | (apply wk_pure; (rfl); (rfl); (intro J hJ; go_simp; (with_reducible refine hJ _ ?_); clear hJ J)) | (apply wk_load; (rfl); (rfl); (rfl); (rfl); (intro J hJ; go_simp; (with_reducible refine hJ _ ?_); clear hJ J; try go_simp)))
  refine wk_ext rfl rfl (fun we hbe J hJ => ?_)
  go_simp
  have hx : Below u3d.heap.size u3d we := belA
  have HX2 := zh (Bt HB.out hx)
  refine (is_ok 0 0 _).mono ?_
  rintro e u4a ⟨⟨v4, rfl, a4, b4, rfl, ha, hb⟩, h2⟩
  have hy := Bt hx h2
  refine hJ _ _ h2 ?_
  clear hJ J hbe hx h2 HX2
  replace HB := zh (Bt HB.out hy)
  replace HK := zh (Bt HK.out hy)
  clear hy
  have HA := zh ha
  clear ha
  have HX := zh hb
  clear hb
  repeat (first | (apply wk_skip; (rfl); (rfl); (rfl); (intro J hJ; go_simp; (with_reducible refine hJ _ ?_); clear hJ J)) | (apply wk_len; (rfl); (rfl); (rfl); (rfl); (exact zk); (intro J hJ; go_simp; (with_reducible refine hJ _ ?_); clear hJ J)) | (apply wk_pure; (rfl); (rfl); (intro J hJ; go_simp; (with_reducible refine hJ _ ?_); clear hJ J)) | (apply wk_load; (rfl); (rfl); (rfl); (rfl); (intro J hJ; go_simp; (with_reducible refine hJ _ ?_); clear hJ J; try go_simp)))
  refine wk_ext rfl rfl (fun we hbe J hJ => ?_)
  go_simp
  have hx : Below u4a.heap.size u4a we := belA
  have HX2 := zh (Bt HB.out hx)
  refine (b_ok 0 0 _).mono ?_
  rintro e u4b ⟨rfl, h2⟩
  have hy := Bt hx h2
  refine hJ _ _ h2 ?_
  clear hJ J hbe hx h2 HX2
  replace HA := HA.bl hy
  replace HX := HX.bl hy
  replace HB := zh (Bt HB.out hy)
  replace HK := zh (Bt HK.out hy)
  clear hy
  repeat (first | (apply wk_skip; (rfl); (rfl); (rfl); (intro J hJ; go_simp; (with_reducible refine hJ _ ?_); clear hJ J)) | (apply wk_len; (rfl); (rfl); (rfl); (rfl); (exact zk); (intro J hJ; go_simp; (with_reducible refine hJ _ ?_); clear hJ J)) | (apply wk_pure; (rfl); (rfl); (intro J hJ; go_simp; (with_reducible refine hJ _ ?_); clear hJ J)) | (apply wk_load; (rfl); (rfl); (rfl); (rfl); (intro J hJ; go_simp; (with_reducible refine hJ _ ?_); clear hJ J; try go_simp)))
  refine wk_ext rfl rfl (fun we hbe J hJ => ?_)
  go_simp
  have hx : Below u4b.heap.size u4b we := belA
  have HX2 := zh (Bt HB.out hx)
  refine (C4.out _ (HP.out.later HX2.out) (HE.out.later HX2.out)).mono ?_
  rintro e u4c ⟨rfl, h2⟩
  have hy := Bt hx h2
  refine hJ _ _ h2 ?_
  clear hJ J hbe hx h2 HX2
  replace HA := HA.bl hy
  replace HX := HX.bl hy
  replace HB := zh (Bt HB.out hy)
  replace HK := zh (Bt HK.out hy)
  clear hy
  repeat (first | (apply wk_skip; (rfl); (rfl); (rfl); (intro J hJ; go_simp; (with_reducible refine hJ _ ?_); clear hJ J)) | (apply wk_len; (rfl); (rfl); (rfl); (rfl); (exact zk); (intro J hJ; go_simp; (with_reducible refine hJ _ ?_); clear hJ J)) | (apply wk_pure; (rfl); (rfl); (intro J hJ; go_simp; (with_reducible refine hJ _ ?_); clear hJ J)) | (apply wk_load; (rfl); (rfl); (rfl); (rfl); (intro J hJ; go_simp; (with_reducible refine hJ _ ?_); clear hJ J; try go_simp)))
  refine wk_ext rfl rfl (fun we hbe J hJ => ?_)
  go_simp
  have hx : Below u4c.heap.size u4c we := belA
  have HX2 := zh (Bt HB.out hx)
  refine (is1_ok 0 0 a4 b4 _ (HA.out.later hx) (HX.out.later hx)).mono ?_
  rintro e u4d ⟨rfl, h2⟩
  have hy := Bt hx h2
  refine hJ _ _ h2 ?_
  clear hJ J hbe hx h2 HX2
  replace HB := zh (Bt HB.out hy)
  replace HK := zh (Bt HK.out hy)
  clear hy
  clear HA HX
  repeat (first | (apply wk_skip; (rfl); (rfl); (rfl); (intro J hJ; go_simp; (with_reducible refine hJ _ ?_); clear hJ J)) | (apply wk_len; (rfl); (rfl); (rfl); (rfl); (exact zk); (intro J hJ; go_simp; (with_reducible refine hJ _ ?_); clear hJ J)) | (apply wk_pure; (rfl); (rfl); (intro J hJ; go_simp; (with_reducible refine hJ _ ?_); clear hJ J)) | (apply wk_load; (rfl); (rfl); (rfl); (rfl); (intro J hJ; go_simp; (with_reducible refine hJ _ ?_); clear hJ J; try go_simp)))
  refine wk_ext rfl rfl (fun we hbe J hJ => ?_)
  go_simp
  have hx : Below u4d.heap.size u4d we := belA
  have HX2 := zh (Bt HB.out hx)
  refine (is_ok 0 1 _).mono ?_
  rintro e u5a ⟨⟨v5, rfl, a5, b5, rfl, ha, hb⟩, h2⟩
  have hy := Bt hx h2
  refine hJ _ _ h2 ?_
  clear hJ J hbe hx h2 HX2
  replace HB := zh (Bt HB.out hy)
  replace HK := zh (Bt HK.out hy)
  clear hy
  have HA := zh ha
  clear ha
  have HX := zh hb
  clear hb
  repeat (first | (apply wk_skip; (rfl); (rfl); (rfl); (intro J hJ; go_simp; (with_reducible refine hJ _ ?_); clear hJ J)) | (apply wk_len; (rfl); (rfl); (rfl); (rfl); (exact zk); (intro J hJ; go_simp; (with_reducible refine hJ _ ?_); clear hJ J)) | (apply wk_pure; (rfl); (rfl); (intro J hJ; go_simp; (with_reducible refine hJ _ ?_); clear hJ J)) | (apply wk_load; (rfl); (rfl); (rfl); (rfl); (intro J hJ; go_simp; (with_reducible refine hJ _ ?_); clear hJ J; try go_simp)))
  refine wk_ext rfl rfl (fun we hbe J hJ => ?_)
  go_simp
  have hx : Below u5a.heap.size u5a we := belA
  have HX2 := zh (Bt HB.out hx)
  refine (b_ok 0 1 _).mono ?_
  rintro e u5b ⟨rfl, h2⟩
  have hy := Bt hx h2
  refine hJ _ _ h2 ?_
  clear hJ J hbe hx h2 HX2
  replace HA := HA.bl hy
  replace HX := HX.bl hy
  replace HB := zh (Bt HB.out hy)
  replace HK := zh (Bt HK.out hy)
  clear hy
  repeat (first | (apply wk_skip; (rfl); (rfl); (rfl); (intro J hJ; go_simp; (with_reducible refine hJ _ ?_); clear hJ J)) | (apply wk_len; (rfl); (rfl); (rfl); (rfl); (exact zk); (intro J hJ; go_simp; (with_reducible refine hJ _ ?_); clear hJ J)) | (apply wk_pure; (rfl); (rfl); (intro J hJ; go_simp; (with_reducible refine hJ _ ?_); clear hJ J)) | (apply wk_load; (rfl); (rfl); (rfl); (rfl); (intro J hJ; go_simp; (with_reducible refine hJ _ ?_); clear hJ J; try go_simp)))
  refine wk_ext rfl rfl (fun we hbe J hJ => ?_)
  go_simp
  have hx : Below u5b.heap.size u5b we := belA
  have HX2 := zh (Bt HB.out hx)
  refine (C5.out _ (HP.out.later HX2.out) (HE.out.later HX2.out)).mono ?_
  rintro e u5c ⟨rfl, h2⟩
  have hy := Bt hx h2
  refine hJ _ _ h2 ?_
  clear hJ J hbe hx h2 HX2
  replace HA := HA.bl hy
  replace HX := HX.bl hy
  replace HB := zh (Bt HB.out hy)
  replace HK := zh (Bt HK.out hy)
  clear hy
  repeat (first | (apply wk_skip; (rfl); (rfl); (rfl); (intro J hJ; go_simp; (with_reducible refine hJ _ ?_); clear hJ J)) | (apply wk_len; (rfl); (rfl); (rfl); (rfl); (exact zk); (intro J hJ; go_simp; (with_reducible refine hJ _ ?_); clear hJ J)) | (apply wk_pure; (rfl); (rfl); (intro J hJ; go_simp; (with_reducible refine hJ _ ?_); clear hJ J)) | (apply wk_load; (rfl); (rfl); (rfl); (rfl); (intro J hJ; go_simp; (with_reducible refine hJ _ ?_); clear hJ J; try go_simp)))
  refine wk_ext rfl rfl (fun we hbe J hJ => ?_)
  go_simp
  have hx : Below u5c.heap.size u5c we := belA
  have HX2 := zh (Bt HB.out hx)
  refine (is1_ok 0 1 a5 b5 _ (HA.out.later hx) (HX.out.later hx)).mono ?_
  rintro e u5d ⟨rfl, h2⟩
  have hy := Bt hx h2
  refine hJ _ _ h2 ?_
  clear hJ J hbe hx h2 HX2
  replace HB := zh (Bt HB.out hy)
  replace HK := zh (Bt HK.out hy)
  clear hy
  clear HA HX
  repeat (first | (apply wk_skip; (rfl); (rfl); (rfl); (intro J hJ; go_simp; (with_reducible refine hJ _ ?_); clear hJ J)) | (apply wk_len; (rfl); (rfl); (rfl); (rfl); (exact zk); (intro J hJ; go_simp; (with_reducible refine hJ _ ?_); clear hJ J)) | (apply wk_pure; (rfl); (rfl); (intro J hJ; go_simp; (with_reducible refine hJ _ ?_); clear hJ J)) | (apply wk_load; (rfl); (rfl); (rfl); (rfl); (intro J hJ; go_simp; (with_reducible refine hJ _ ?_); clear hJ J; try go_simp)))
  refine wk_ext rfl rfl (fun we hbe J hJ => ?_)
  go_simp
  have hx : Below u5d.heap.size u5d we := belA
  have HX2 := zh (Bt HB.out hx)
  refine (is_ok 1000000000000000000 1000000000000000000 _).mono ?_
  rintro e u6a ⟨⟨v6, rfl, a6, b6, rfl, ha, hb⟩, h2⟩
  have hy := Bt hx h2
  refine hJ _ _ h2 ?_
  clear hJ J hbe hx h2 HX2
  replace HB := zh (Bt HB.out hy)
  replace HK := zh (Bt HK.out hy)
  clear hy
  have HA := zh ha
  clear ha
  have HX := zh hb
  clear hb
  repeat (first | (apply wk_skip; (rfl); (rfl); (rfl); (intro J hJ; go_simp; (with_reducible refine hJ _ ?_); clear hJ J)) | (apply wk_len; (rfl); (rfl); (rfl); (rfl); (exact zk); (intro J hJ; go_simp; (with_reducible refine hJ _ ?_); clear hJ J)) | (apply wk_pure; (rfl); (rfl); (intro J hJ; go_simp; (with_reducible refine hJ _ ?_); clear hJ J)) | (apply wk_load; (rfl); (rfl); (rfl); (rfl); (intro J hJ; go_simp; (with_reducible refine hJ _ ?_); clear hJ J; try go_simp)))
  refine wk_ext rfl rfl (fun we hbe J hJ => ?_)
  go_simp
  have hx : Below u6a.heap.size u6a we := belA
  have HX2 := zh (Bt HB.out hx)
  refine (b_ok 1000000000000000000 1000000000000000000 _).mono ?_
  rintro e u6b ⟨rfl, h2⟩
  have hy := Bt hx h2
  refine hJ _ _ h2 ?_
  clear hJ J hbe hx h2 HX2
  replace HA := HA.bl hy
  replace HX := HX.bl hy
  replace HB := zh (Bt HB.out hy)
  replace HK := zh (Bt HK.out hy)
  clear hy
  repeat (first | (apply wk_skip; (rfl); (rfl); (rfl); (intro J hJ; go_simp; (with_reducible refine hJ _ ?_); clear hJ J)) | (apply wk_len; (rfl); (rfl); (rfl); (rfl); (exact zk); (intro J hJ; go_simp; (with_reducible refine hJ _ ?_); clear hJ J)) | (apply wk_pure; (rfl); (rfl); (intro J hJ; go_simp; (with_reducible refine hJ _ ?_); clear hJ J)) | (apply wk_load; (rfl); (rfl); (rfl); (rfl); (intro J hJ; go_simp; (with_reducible refine hJ _ ?_); clear hJ J; try go_simp)))
  refine wk_ext rfl rfl (fun we hbe J hJ => ?_)
  go_simp
  have hx : Below u6b.heap.size u6b we := belA
  have HX2 := zh (Bt HB.out hx)
  refine (C6.out _ (HP.out.later HX2.out) (HE.out.later HX2.out)).mono ?_
  rintro e u6c ⟨rfl, h2⟩
  have hy := Bt hx h2
  refine hJ _ _ h2 ?_
  clear hJ J hbe hx h2 HX2
  replace HA := HA.bl hy
  replace HX := HX.bl hy
  replace HB := zh (Bt HB.out hy)
  replace HK := zh (Bt HK.out hy)
  clear hy
  repeat (first | (apply wk_skip; (rfl); (rfl); (rfl); (intro J hJ; go_simp; (with_reducible refine hJ _ ?_); clear hJ J)) | (apply wk_len; (rfl); (rfl); (rfl); (rfl); (exact zk); (intro J hJ; go_simp; (with_reducible refine hJ _ ?_); clear hJ J)) | (apply wk_pure; (rfl); (rfl); (intro J hJ; go_simp; (with_reducible refine hJ _ ?_); clear hJ J)) | (apply wk_load; (rfl); (rfl); (rfl); (rfl); (intro J hJ; go_simp; (with_reducible refine hJ _ ?_); clear hJ J; try go_simp)))
  refine wk_ext rfl rfl (fun we hbe J hJ => ?_)
  go_simp
  have hx : Below u6c.heap.size u6c we := belA
  have HX2 := zh (Bt HB.out hx)
  refine (is1_ok 1000000000000000000 1000000000000000000 a6 b6 _ (HA.out.later hx) (HX.out.later hx)).mono ?_
  rintro e u6d ⟨rfl, h2⟩
  have hy := Bt hx h2
  refine hJ _ _ h2 ?_
  clear hJ J hbe hx h2 HX2
  replace HB := zh (Bt HB.out hy)
  replace HK := zh (Bt HK.out hy)
  clear hy
  clear HA HX
  repeat (first | (apply wk_skip; (rfl); (rfl); (rfl); (intro J hJ; go_simp; (with_reducible refine hJ _ ?_); clear hJ J)) | (apply wk_len; (rfl); (rfl); (rfl); (rfl); (exact zk); (intro J hJ; go_simp; (with_reducible refine hJ _ ?_); clear hJ J)) | (apply wk_pure; (rfl); (rfl); (intro J hJ; go_simp; (with_reducible refine hJ _ ?_); clear hJ J)) | (apply wk_load; (rfl); (rfl); (rfl); (rfl); (intro J hJ; go_simp; (with_reducible refine hJ _ ?_); clear hJ J; try go_simp)))
  refine wk_ext rfl rfl (fun we hbe J hJ => ?_)
  go_simp
  have hx : Below u6d.heap.size u6d we := belA
  have HX2 := zh (Bt HB.out hx)
  refine (fails_ok 6 _).mono ?_
  rintro e u7a ⟨⟨v7, rfl, a7, rfl, ha⟩, h2⟩
  have hy := Bt hx h2
  refine hJ _ _ h2 ?_
  clear hJ J hbe hx h2 HX2
  replace HB := zh (Bt HB.out hy)
  replace HK := zh (Bt HK.out hy)
  clear hy
  have HA := zh ha
  clear ha
  repeat (first | (apply wk_skip; (rfl); (rfl); (rfl); (intro J hJ; go_simp; (with_reducible refine hJ _ ?_); clear hJ J)) | (apply wk_len; (rfl); (rfl); (rfl); (rfl); (exact zk); (intro J hJ; go_simp; (with_reducible refine hJ _ ?_); clear hJ J)) | (apply wk_pure; (rfl); (rfl); (intro J hJ; go_simp; (with_reducible refine hJ _ ?_); clear hJ J)) | (apply wk_load; (rfl); (rfl); (rfl); (rfl); (intro J hJ; go_simp; (with_reducible refine hJ _ ?_); clear hJ J; try go_simp)))
  refine wk_ext rfl rfl (fun we hbe J hJ => ?_)
  go_simp
  have hx : Below u7a.heap.size u7a we := belA
  have HX2 := zh (Bt HB.out hx)
  refine (b_ok 0 1000000000000000000 _).mono ?_
  rintro e u7b ⟨rfl, h2⟩
  have hy := Bt hx h2
  refine hJ _ _ h2 ?_
  clear hJ J hbe hx h2 HX2
  replace HA := HA.bl hy
  replace HB := zh (Bt HB.out hy)
  replace HK := zh (Bt HK.out hy)
  clear hy
  repeat (first | (apply wk_skip; (rfl); (rfl); (rfl); (intro J hJ; go_simp; (with_reducible refine hJ _ ?_); clear hJ J)) | (apply wk_len; (rfl); (rfl); (rfl); (rfl); (exact zk); (intro J hJ; go_simp; (with_reducible refine hJ _ ?_); clear hJ J)) | (apply wk_pure; (rfl); (rfl); (intro J hJ; go_simp; (with_reducible refine hJ _ ?_); clear hJ J)) | (apply wk_load; (rfl); (rfl); (rfl); (rfl); (intro J hJ; go_simp; (with_reducible refine hJ _ ?_); clear hJ J; try go_simp)))
  refine wk_ext rfl rfl (fun we hbe J hJ => ?_)
  go_simp
  have hx : Below u7b.heap.size u7b we := belA
  have HX2 := zh (Bt HB.out hx)
  refine (C7.out _ (HP.out.later HX2.out) (HE.out.later HX2.out)).mono ?_
  rintro e u7c ⟨rfl, h2⟩
  have hy := Bt hx h2
  refine hJ _ _ h2 ?_
  clear hJ J hbe hx h2 HX2
  replace HA := HA.bl hy
  replace HB := zh (Bt HB.out hy)
  replace HK := zh (Bt HK.out hy)
  clear hy
  repeat (first | (apply wk_skip; (rfl); (rfl); (rfl); (intro J hJ; go_simp; (with_reducible refine hJ _ ?_); clear hJ J)) | (apply wk_len; (rfl); (rfl); (rfl); (rfl); (exact zk); (intro J hJ; go_simp; (with_reducible refine hJ _ ?_); clear hJ J)) | (apply wk_pure; (rfl); (rfl); (intro J hJ; go_simp; (with_reducible refine hJ _ ?_); clear hJ J)) | (apply wk_load; (rfl); (rfl); (rfl); (rfl); (intro J hJ; go_simp; (with_reducible refine hJ _ ?_); clear hJ J; try go_simp)))
  refine wk_ext rfl rfl (fun we hbe J hJ => ?_)
  go_simp
  have hx : Below u7c.heap.size u7c we := belA
  have HX2 := zh (Bt HB.out hx)
  refine (fails1_ok 6 a7 _ (HA.out.later hx)).mono ?_
  rintro e u7d ⟨rfl, h2⟩
  have hy := Bt hx h2
  refine hJ _ _ h2 ?_
  clear hJ J hbe hx h2 HX2
  replace HB := zh (Bt HB.out hy)
  replace HK := zh (Bt HK.out hy)
  clear hy
  clear HA
  repeat (first | (apply wk_skip; (rfl); (rfl); (rfl); (intro J hJ; go_simp; (with_reducible refine hJ _ ?_); clear hJ J)) | (apply wk_len; (rfl); (rfl); (rfl); (rfl); (exact zk); (intro J hJ; go_simp; (with_reducible refine hJ _ ?_); clear hJ J)) | (apply wk_pure; (rfl); (rfl); (intro J hJ; go_simp; (with_reducible refine hJ _ ?_); clear hJ J)) | (apply wk_load; (rfl); (rfl); (rfl); (rfl); (intro J hJ; go_simp; (with_reducible refine hJ _ ?_); clear hJ J; try go_simp)))
  refine wk_ext rfl rfl (fun we hbe J hJ => ?_)
  go_simp
  have hx : Below u7d.heap.size u7d we := belA
  have HX2 := zh (Bt HB.out hx)
  refine (is_ok 10000000000000 10000000000000 _).mono ?_
  rintro e u8a ⟨⟨v8, rfl, a8, b8, rfl, ha, hb⟩, h2⟩
  have hy := Bt hx h2
  refine hJ _ _ h2 ?_
  clear hJ J hbe hx h2 HX2
  replace HB := zh (Bt HB.out hy)
  replace HK := zh (Bt HK.out hy)
  clear hy
  have HA := zh ha
  clear ha
  have HX := zh hb
  clear hb
  repeat (first | (apply wk_skip; (rfl); (rfl); (rfl); (intro J hJ; go_simp; (with_reducible refine hJ _ ?_); clear hJ J)) | (apply wk_len; (rfl); (rfl); (rfl); (rfl); (exact zk); (intro J hJ; go_simp; (with_reducible refine hJ _ ?_); clear hJ J)) | (apply wk_pure; (rfl); (rfl); (intro J hJ; go_simp; (with_reducible refine hJ _ ?_); clear hJ J)) | (apply wk_load; (rfl); (rfl); (rfl); (rfl); (intro J hJ; go_simp; (with_reducible refine hJ _ ?_); clear hJ J; try go_simp)))
  refine wk_ext rfl rfl (fun we hbe J hJ => ?_)
  go_simp
  have hx : Below u8a.heap.size u8a we := belA
  have HX2 := zh (Bt HB.out hx)
  refine (b_ok 1000000000000000000 1000000000000000000 _).mono ?_
  rintro e u8b ⟨rfl, h2⟩
  have hy := Bt hx h2
  refine hJ _ _ h2 ?_
  clear hJ J hbe hx h2 HX2
  replace HA := HA.bl hy
  replace HX := HX.bl hy
  replace HB := zh (Bt HB.out hy)
  replace HK := zh (Bt HK.out hy)
  clear hy
  repeat (first | (apply wk_skip; (rfl); (rfl); (rfl); (intro J hJ; go_simp; (with_reducible refine hJ _ ?_); clear hJ J)) | (apply wk_len; (rfl); (rfl); (rfl); (rfl); (exact zk); (intro J hJ; go_simp; (with_reducible refine hJ _ ?_); clear hJ J)) | (apply wk_pure; (rfl); (rfl); (intro J hJ; go_simp; (with_reducible refine hJ _ ?_); clear hJ J)) | (apply wk_load; (rfl); (rfl); (rfl); (rfl); (intro J hJ; go_simp; (with_reducible refine hJ _ ?_); clear hJ J; try go_simp)))
  refine wk_ext rfl rfl (fun we hbe J hJ => ?_)
  go_simp
  have hx : Below u8b.heap.size u8b we := belA
  have HX2 := zh (Bt HB.out hx)
  refine (C8.out _ (HP.out.later HX2.out) (HE.out.later HX2.out)).mono ?_
  rintro e u8c ⟨rfl, h2⟩
  have hy := Bt hx h2
  refine hJ _ _ h2 ?_
  clear hJ J hbe hx h2 HX2
  replace HA := HA.bl hy
  replace HX := HX.bl hy
  replace HB := zh (Bt HB.out hy)
  replace HK := zh (Bt HK.out hy)
  clear hy
  repeat (first | (apply wk_skip; (rfl); (rfl); (rfl); (intro J hJ; go_simp; (with_reducible refine hJ _ ?_); clear hJ J)) | (apply wk_len; (rfl); (rfl); (rfl); (rfl); (exact zk); (intro J hJ; go_simp; (with_reducible refine hJ _ ?_); clear hJ J)) | (apply wk_pure; (rfl); (rfl); (intro J hJ; go_simp; (with_reducible refine hJ _ ?_); clear hJ J)) | (apply wk_load; (rfl); (rfl); (rfl); (rfl); (intro J hJ; go_simp; (with_reducible refine hJ _ ?_); clear hJ J; try go_simp)))
  refine wk_ext rfl rfl (fun we hbe J hJ => ?_)
  go_simp
  have hx : Below u8c.heap.size u8c we := belA
  have HX2 := zh (Bt HB.out hx)
  refine (is1_ok 10000000000000 10000000000000 a8 b8 _ (HA.out.later hx) (HX.out.later hx)).mono ?_
  rintro e u8d ⟨rfl, h2⟩
  have hy := Bt hx h2
  refine hJ _ _ h2 ?_
  clear hJ J hbe hx h2 HX2
  replace HB := zh (Bt HB.out hy)
  replace HK := zh (Bt HK.out hy)
  clear hy
  clear HA HX
  repeat (first | (apply wk_skip; (rfl); (rfl); (rfl); (intro J hJ; go_simp; (with_reducible refine hJ _ ?_); clear hJ J)) | (apply wk_len; (rfl); (rfl); (rfl); (rfl); (exact zk); (intro J hJ; go_simp; (with_reducible refine hJ _ ?_); clear hJ J)) | (apply wk_pure; (rfl); (rfl); (intro J hJ; go_simp; (with_reducible refine hJ _ ?_); clear hJ J)) | (apply wk_load; (rfl); (rfl); (rfl); (rfl); (intro J hJ; go_simp; (with_reducible refine hJ _ ?_); clear hJ J; try go_simp)))
  refine wk_ext rfl rfl (fun we hbe J hJ => ?_)
  go_simp
  have hx : Below u8d.heap.size u8d we := belA
  have HX2 := zh (Bt HB.out hx)
  refine (is_ok 1000000000000000000 1000000000000000000 _).mono ?_
  rintro e u9a ⟨⟨v9, rfl, a9, b9, rfl, ha, hb⟩, h2⟩
  have hy := Bt hx h2
  refine hJ _ _ h2 ?_
  clear hJ J hbe hx h2 HX2
  replace HB := zh (Bt HB.out hy)
  replace HK := zh (Bt HK.out hy)
  clear hy
  have HA := zh ha
  clear ha
  have HX := zh hb
  clear hb
  repeat (first | (apply wk_skip; (rfl); (rfl); (rfl); (intro J hJ; go_simp; (with_reducible refine hJ _ ?_); clear hJ J)) | (apply wk_len; (rfl); (rfl); (rfl); (rfl); (exact zk); (intro J hJ; go_simp; (with_reducible refine hJ _ ?_); clear hJ J)) | (apply wk_pure; (rfl); (rfl); (intro J hJ; go_simp; (with_reducible refine hJ _ ?_); clear hJ J)) | (apply wk_load; (rfl); (rfl); (rfl); (rfl); (intro J hJ; go_simp; (with_reducible refine hJ _ ?_); clear hJ J; try go_simp)))
  refine wk_ext rfl rfl (fun we hbe J hJ => ?_)
  go_simp
  have hx : Below u9a.heap.size u9a we := belA
  have HX2 := zh (Bt HB.out hx)
  refine (b_ok 1000000000000000 1000000000000000 _).mono ?_
  rintro e u9b ⟨rfl, h2⟩
  have hy := Bt hx h2
  refine hJ _ _ h2 ?_
  clear hJ J hbe hx h2 HX2
  replace HA := HA.bl hy
  replace HX := HX.bl hy
  replace HB := zh (Bt HB.out hy)
  replace HK := zh (Bt HK.out hy)
  clear hy
  repeat (first | (apply wk_skip; (rfl); (rfl); (rfl); (intro J hJ; go_simp; (with_reducible refine hJ _ ?_); clear hJ J)) | (apply wk_len; (rfl); (rfl); (rfl); (rfl); (exact zk); (intro J hJ; go_simp; (with_reducible refine hJ _ ?_); clear hJ J)) | (apply wk_pure; (rfl); (rfl); (intro J hJ; go_simp; (with_reducible refine hJ _ ?_); clear hJ J)) | (apply wk_load; (rfl); (rfl); (rfl); (rfl); (intro J hJ; go_simp; (with_reducible refine hJ _ ?_); clear hJ J; try go_simp)))
  refine wk_ext rfl rfl (fun we hbe J hJ => ?_)
  go_simp
  have hx : Below u9b.heap.size u9b we := belA
  have HX2 := zh (Bt HB.out hx)
  refine (C9.out _ (HP.out.later HX2.out) (HE.out.later HX2.out)).mono ?_
  rintro e u9c ⟨rfl, h2⟩
  have hy := Bt hx h2
  refine hJ _ _ h2 ?_
  clear hJ J hbe hx h2 HX2
  replace HA := HA.bl hy
  replace HX := HX.bl hy
  replace HB := zh (Bt HB.out hy)
  replace HK := zh (Bt HK.out hy)
  clear hy
  repeat (first | (apply wk_skip; (rfl); (rfl); (rfl); (intro J hJ; go_simp; (with_reducible refine hJ _ ?_); clear hJ J)) | (apply wk_len; (rfl); (rfl); (rfl); (rfl); (exact zk); (intro J hJ; go_simp; (with_reducible refine hJ _ ?_); clear hJ J)) | (apply wk_pure; (rfl); (rfl); (intro J hJ; go_simp; (with_reducible refine hJ _ ?_); clear hJ J)) | (apply wk_load; (rfl); (rfl); (rfl); (rfl); (intro J hJ; go_simp; (with_reducible refine hJ _ ?_); clear hJ J; try go_simp)))
  refine wk_ext rfl rfl (fun we hbe J hJ => ?_)
  go_simp
  have hx : Below u9c.heap.size u9c we := belA
  have HX2 := zh (Bt HB.out hx)
  refine (is1_ok 1000000000000000000 1000000000000000000 a9 b9 _ (HA.out.later hx) (HX.out.later hx)).mono ?_
  rintro e u9d ⟨rfl, h2⟩
  have hy := Bt hx h2
  refine hJ _ _ h2 ?_
  clear hJ J hbe hx h2 HX2
  replace HB := zh (Bt HB.out hy)
  replace HK := zh (Bt HK.out hy)
  clear hy
  clear HA HX
  repeat (first | (apply wk_skip; (rfl); (rfl); (rfl); (intro J hJ; go_simp; (with_reducible refine hJ _ ?_); clear hJ J)) | (apply wk_len; (rfl); (rfl); (rfl); (rfl); (exact zk); (intro J hJ; go_simp; (with_reducible refine hJ _ ?_); clear hJ J)) | (apply wk_pure; (rfl); (rfl); (intro J hJ; go_simp; (with_reducible refine hJ _ ?_); clear hJ J)) | (apply wk_load; (rfl); (rfl); (rfl); (rfl); (intro J hJ; go_simp; (with_reducible refine hJ _ ?_); clear hJ J; try go_simp)))
  refine wk_ext rfl rfl (fun we hbe J hJ => ?_)
  go_simp
  have hx : Below u9d.heap.size u9d we := belA
  have HX2 := zh (Bt HB.out hx)
  refine (fails_ok 6 _).mono ?_
  rintro e u10a ⟨⟨v10, rfl, a10, rfl, ha⟩, h2⟩
  have hy := Bt hx h2
  refine hJ _ _ h2 ?_
  clear hJ J hbe hx h2 HX2
  replace HB := zh (Bt HB.out hy)
  replace HK := zh (Bt HK.out hy)
  clear hy
  have HA := zh ha
  clear ha
  repeat (first | (apply wk_skip; (rfl); (rfl); (rfl); (intro J hJ; go_simp; (with_reducible refine hJ _ ?_); clear hJ J)) | (apply wk_len; (rfl); (rfl); (rfl); (rfl); (exact zk); (intro J hJ; go_simp; (with_reducible refine hJ _ ?_); clear hJ J)) | (apply wk_pure; (rfl); (rfl); (intro J hJ; go_simp; (with_reducible refine hJ _ ?_); clear hJ J)) | (apply wk_load; (rfl); (rfl); (rfl); (rfl); (intro J hJ; go_simp; (with_reducible refine hJ _ ?_); clear hJ J; try go_simp)))
  refine wk_ext rfl rfl (fun we hbe J hJ => ?_)
  go_simp
  have hx : Below u10a.heap.size u10a we := belA
  have HX2 := zh (Bt HB.out hx)
  refine (b_ok 1000000000000000 1000000000000001 _).mono ?_
  rintro e u10b ⟨rfl, h2⟩
  have hy := Bt hx h2
  refine hJ _ _ h2 ?_
  clear hJ J hbe hx h2 HX2
  replace HA := HA.bl hy
  replace HB := zh (Bt HB.out hy)
  replace HK := zh (Bt HK.out hy)
  clear hy
  repeat (first | (apply wk_skip; (rfl); (rfl); (rfl); (intro J hJ; go_simp; (with_reducible refine hJ _ ?_); clear hJ J)) | (apply wk_len; (rfl); (rfl); (rfl); (rfl); (exact zk); (intro J hJ; go_simp; (with_reducible refine hJ _ ?_); clear hJ J)) | (apply wk_pure; (rfl); (rfl); (intro J hJ; go_simp; (with_reducible refine hJ _ ?_); clear hJ J)) | (apply wk_load; (rfl); (rfl); (rfl); (rfl); (intro J hJ; go_simp; (with_reducible refine hJ _ ?_); clear hJ J; try go_simp)))
  refine wk_ext rfl rfl (fun we hbe J hJ => ?_)
  go_simp
  have hx : Below u10b.heap.size u10b we := belA
  have HX2 := zh (Bt HB.out hx)
  refine (C10.out _ (HP.out.later HX2.out) (HE.out.later HX2.out)).mono ?_
  rintro e u10c ⟨rfl, h2⟩
  have hy := Bt hx h2
  refine hJ _ _ h2 ?_
  clear hJ J hbe hx h2 HX2
  replace HA := HA.bl hy
  replace HB := zh (Bt HB.out hy)
  replace HK := zh (Bt HK.out hy)
  clear hy
  repeat (first | (apply wk_skip; (rfl); (rfl); (rfl); (intro J hJ; go_simp; (with_reducible refine hJ _ ?_); clear hJ J)) | (apply wk_len; (rfl); (rfl); (rfl); (rfl); (exact zk); (intro J hJ; go_simp; (with_reducible refine hJ _ ?_); clear hJ J)) | (apply wk_pure; (rfl); (rfl); (intro J hJ; go_simp; (with_reducible refine hJ _ ?_); clear hJ J)) | (apply wk_load; (rfl); (rfl); (rfl); (rfl); (intro J hJ; go_simp; (with_reducible refine hJ _ ?_); clear hJ J; try go_simp)))
  refine wk_ext rfl rfl (fun we hbe J hJ => ?_)
  go_simp
  have hx : Below u10c.heap.size u10c we := belA
  have HX2 := zh (Bt HB.out hx)
  refine (fails1_ok 6 a10 _ (HA.out.later hx)).mono ?_
  rintro e u10d ⟨rfl, h2⟩
  have hy := Bt hx h2
  refine hJ _ _ h2 ?_
  clear hJ J hbe hx h2 HX2
  replace HB := zh (Bt HB.out hy)
  replace HK := zh (Bt HK.out hy)
  clear hy
  clear HA
  repeat (first | (apply wk_skip; (rfl); (rfl); (rfl); (intro J hJ; go_simp; (with_reducible refine hJ _ ?_); clear hJ J)) | (apply wk_len; (rfl); (rfl); (rfl); (rfl); (exact zk); (intro J hJ; go_simp; (with_reducible refine hJ _ ?_); clear hJ J)) | (apply wk_pure; (rfl); (rfl); (intro J hJ; go_simp; (with_reducible refine hJ _ ?_); clear hJ J)) | (apply wk_load; (rfl); (rfl); (rfl); (rfl); (intro J hJ; go_simp; (with_reducible refine hJ _ ?_); clear hJ J; try go_simp)))
  refine wk_ext rfl rfl (fun we hbe J hJ => ?_)
  go_simp
  have hx : Below u10d.heap.size u10d we := belA
  have HX2 := zh (Bt HB.out hx)
  refine (is_ok 100000000000000000 100000000000000000 _).mono ?_
  rintro e u11a ⟨⟨v11, rfl, a11, b11, rfl, ha, hb⟩, h2⟩
  have hy := Bt hx h2
  refine hJ _ _ h2 ?_
  clear hJ J hbe hx h2 HX2
  replace HB := zh (Bt HB.out hy)
  replace HK := zh (Bt HK.out hy)
  clear hy
  have HA := zh ha
  clear ha
  have HX := zh hb
  clear hb
  repeat (first | (apply wk_skip; (rfl); (rfl); (rfl); (intro J hJ; go_simp; (with_reducible refine hJ _ ?_); clear hJ J)) | (apply wk_len; (rfl); (rfl); (rfl); (rfl); (exact zk); (intro J hJ; go_simp; (with_reducible refine hJ _ ?_); clear hJ J)) | (apply wk_pure; (rfl); (rfl); (intro J hJ; go_simp; (with_reducible refine hJ _ ?_); clear hJ J)) | (apply wk_load; (rfl); (rfl); (rfl); (rfl); (intro J hJ; go_simp; (with_reducible refine hJ _ ?_); clear hJ J; try go_simp)))
  refine wk_ext rfl rfl (fun we hbe J hJ => ?_)
  go_simp
  have hx : Below u11a.heap.size u11a we := belA
  have HX2 := zh (Bt HB.out hx)
  refine (b_ok 10000000000000 10000000000000 _).mono ?_
  rintro e u11b ⟨rfl, h2⟩
  have hy := Bt hx h2
  refine hJ _ _ h2 ?_
  clear hJ J hbe hx h2 HX2
  replace HA := HA.bl hy
  replace HX := HX.bl hy
  replace HB := zh (Bt HB.out hy)
  replace HK := zh (Bt HK.out hy)
  clear hy
  repeat (first | (apply wk_skip; (rfl); (rfl); (rfl); (intro J hJ; go_simp; (with_reducible refine hJ _ ?_); clear hJ J)) | (apply wk_len; (rfl); (rfl); (rfl); (rfl); (exact zk); (intro J hJ; go_simp; (with_reducible refine hJ _ ?_); clear hJ J)) | (apply wk_pure; (rfl); (rfl); (intro J hJ; go_simp; (with_reducible refine hJ _ ?_); clear hJ J)) | (apply wk_load; (rfl); (rfl); (rfl); (rfl); (intro J hJ; go_simp; (with_reducible refine hJ _ ?_); clear hJ J; try go_simp)))
  refine wk_ext rfl rfl (fun we hbe J hJ => ?_)
  go_simp
  have hx : Below u11b.heap.size u11b we := belA
  have HX2 := zh (Bt HB.out hx)
  refine (C11.out _ (HP.out.later HX2.out) (HE.out.later HX2.out)).mono ?_
  rintro e u11c ⟨rfl, h2⟩
  have hy := Bt hx h2
  refine hJ _ _ h2 ?_
  clear hJ J hbe hx h2 HX2
  replace HA := HA.bl hy
  replace HX := HX.bl hy
  replace HB := zh (Bt HB.out hy)
  replace HK := zh (Bt HK.out hy)
  clear hy
  repeat (first | (apply wk_skip; (rfl); (rfl); (rfl); (intro J hJ; go_simp; (with_reducible refine hJ _ ?_); clear hJ J)) | (apply wk_len; (rfl); (rfl); (rfl); (rfl); (exact zk); (intro J hJ; go_simp; (with_reducible refine hJ _ ?_); clear hJ J)) | (apply wk_pure; (rfl); (rfl); (intro J hJ; go_simp; (with_reducible refine hJ _ ?_); clear hJ J)) | (apply wk_load; (rfl); (rfl); (rfl); (rfl); (intro J hJ; go_simp; (with_reducible refine hJ _ ?_); clear hJ J; try go_simp)))
  refine wk_ext rfl rfl (fun we hbe J hJ => ?_)
  go_simp
  have hx : Below u11c.heap.size u11c we := belA
  have HX2 := zh (Bt HB.out hx)
  refine (is1_ok 100000000000000000 100000000000000000 a11 b11 _ (HA.out.later hx) (HX.out.later hx)).mono ?_
  rintro e u11d ⟨rfl, h2⟩
  have hy := Bt hx h2
  refine hJ _ _ h2 ?_
  clear hJ J hbe hx h2 HX2
  replace HB := zh (Bt HB.out hy)
  replace HK := zh (Bt HK.out hy)
  clear hy
  clear HA HX
  repeat (first | (apply wk_skip; (rfl); (rfl); (rfl); (intro J hJ; go_simp; (with_reducible refine hJ _ ?_); clear hJ J)) | (apply wk_len; (rfl); (rfl); (rfl); (rfl); (exact zk); (intro J hJ; go_simp; (with_reducible refine hJ _ ?_); clear hJ J)) | (apply wk_pure; (rfl); (rfl); (intro J hJ; go_simp; (with_reducible refine hJ _ ?_); clear hJ J)) | (apply wk_load; (rfl); (rfl); (rfl); (rfl); (intro J hJ; go_simp; (with_reducible refine hJ _ ?_); clear hJ J; try go_simp)))
  refine wk_fin [_] rfl (fun wf hbf => ?_)
  have hy : Below u11d.heap.size u11d wf := belA
  replace HB := zh (Bt HB.out hy)
  replace HK := zh (Bt HK.out hy)
  have B := B.bl HK.out
  clear hy hbf HK
  go_wp2_with fail
  clear C0 C1 C2 C3 C4 C5 C6 C7 C8 C9 C10 C11
  have P12 : power.pwE 1 1 1 12 = ((100000000000, 100000000000), 0) := power.pwE_is (lo := 1) (hi := 1) (a := 100000000000) (b := 100000000000) (p := 1) (q := 12) (by decide +kernel)
  have C12 : Hid (∀ W, Bld.Pow W → whole.Er W → Calls Tryz.prog 17 #[.agg #[.int .i64 1, .int .i64 1], .int .i64 12] W (fun e w' => e = .returned (.tuple #[.agg #[.int .i64 100000000000, .int .i64 100000000000], .int .i64 0]) ∧ Below W.heap.size W w')) := zh fun W h1 h2 => by
    have := power.Root_ok 1 1 12 W h1 h2
    rw [P12] at this
    exact this
  clear P12
  have P13 : power.pwE 0 1 1 2 = ((0, 1000000), 0) := power.pwE_is (lo := 0) (hi := 1) (a := 0) (b := 1000000) (p := 1) (q := 2) (by decide +kernel)
  have C13 : Hid (∀ W, Bld.Pow W → whole.Er W → Calls Tryz.prog 17 #[.agg #[.int .i64 0, .int .i64 1], .int .i64 2] W (fun e w' => e = .returned (.tuple #[.agg #[.int .i64 0, .int .i64 1000000], .int .i64 0]) ∧ Below W.heap.size W w')) := zh fun W h1 h2 => by
    have := power.Root_ok 0 1 2 W h1 h2
    rw [P13] at this
    exact this
  clear P13
  have P14 : power.pwE 999999999999 1000000000000 1 2 = ((999999999999, 1000000000000), 0) := power.pwE_is (lo := 999999999999) (hi := 1000000000000) (a := 999999999999) (b := 1000000000000) (p := 1) (q := 2) (by decide +kernel)
  have C14 : Hid (∀ W, Bld.Pow W → whole.Er W → Calls Tryz.prog 17 #[.agg #[.int .i64 999999999999, .int .i64 1000000000000], .int .i64 2] W (fun e w' => e = .returned (.tuple #[.agg #[.int .i64 999999999999, .int .i64 1000000000000], .int .i64 0]) ∧ Below W.heap.size W w')) := zh fun W h1 h2 => by
    have := power.Root_ok 999999999999 1000000000000 2 W h1 h2
    rw [P14] at this
    exact this
  clear P14
  have P15 : power.nrmE [(1, 1), (0, 1)] = ((1, 2), 0) := power.nrmE_is (a := 1) (b := 2) (by decide +kernel)
  have C15 : Hid (∀ T v W, Bds W T v [(1, 1), (0, 1)] → Bld.Pow W → whole.Er W → Calls Tryz.prog 25 #[v] W (fun e w' => e = .returned (.tuple #[.agg #[.int .i64 1, .int .i64 2], .int .i64 0]) ∧ Below W.heap.size W w')) := zh fun T v W h0 h1 h2 => by
    have := power.Norm_ok v T _ W h0 h1 h2
    rw [P15] at this
    exact this
  clear P15
  have P16 : power.nrmE [(0, 0), (0, 0), (0, 0), (0, 0), (0, 0), (0, 0), (0, 0), (0, 0), (0, 0)] = ((0, 0), 3) := by decide +kernel
  have C16 : Hid (∀ T v W, Bds W T v [(0, 0), (0, 0), (0, 0), (0, 0), (0, 0), (0, 0), (0, 0), (0, 0), (0, 0)] → Bld.Pow W → whole.Er W → Calls Tryz.prog 25 #[v] W (fun e w' => e = .returned (.tuple #[.agg #[.int .i64 0, .int .i64 0], .int .i64 3]) ∧ Below W.heap.size W w')) := zh fun T v W h0 h1 h2 => by
    have := power.Norm_ok v T _ W h0 h1 h2
    rw [P16] at this
    exact this
  clear P16
  have P17 : power.nrmE [(0, 0), (0, 0), (0, 0), (0, 0), (0, 0), (0, 0), (0, 0), (0, 0)] = ((0, 0), 0) := power.nrmE_is (a := 0) (b := 0) (by decide +kernel)
  have C17 : Hid (∀ T v W, Bds W T v [(0, 0), (0, 0), (0, 0), (0, 0), (0, 0), (0, 0), (0, 0), (0, 0)] → Bld.Pow W → whole.Er W → Calls Tryz.prog 25 #[v] W (fun e w' => e = .returned (.tuple #[.agg #[.int .i64 0, .int .i64 0], .int .i64 0]) ∧ Below W.heap.size W w')) := zh fun T v W h0 h1 h2 => by
    have := power.Norm_ok v T _ W h0 h1 h2
    rw [P17] at this
    exact this
  clear P17
  have P18 : power.nrmE [(0, 1), (1, 0)] = ((0, 0), 30) := by decide +kernel
  have C18 : Hid (∀ T v W, Bds W T v [(0, 1), (1, 0)] → Bld.Pow W → whole.Er W → Calls Tryz.prog 25 #[v] W (fun e w' => e = .returned (.tuple #[.agg #[.int .i64 0, .int .i64 0], .int .i64 30]) ∧ Below W.heap.size W w')) := zh fun T v W h0 h1 h2 => by
    have := power.Norm_ok v T _ W h0 h1 h2
    rw [P18] at this
    exact this
  clear P18
  have P19 : power.nrmE [(1000000000000000000, 1000000000000000000), (0, 1000000000000)] = ((0, 0), 6) := power.nrmE_big (by decide +kernel)
  have C19 : Hid (∀ T v W, Bds W T v [(1000000000000000000, 1000000000000000000), (0, 1000000000000)] → Bld.Pow W → whole.Er W → Calls Tryz.prog 25 #[v] W (fun e w' => e = .returned (.tuple #[.agg #[.int .i64 0, .int .i64 0], .int .i64 6]) ∧ Below W.heap.size W w')) := zh fun T v W h0 h1 h2 => by
    have := power.Norm_ok v T _ W h0 h1 h2
    rw [P19] at this
    exact this
  clear P19
  have P20 : power.nrmE [((-1000000000000000000), (-1000000000000000000)), (0, 0)] = ((1000000000000000000, 1000000000000000000), 0) := power.nrmE_is (a := 1000000000000000000) (b := 1000000000000000000) (by decide +kernel)
  have C20 : Hid (∀ T v W, Bds W T v [((-1000000000000000000), (-1000000000000000000)), (0, 0)] → Bld.Pow W → whole.Er W → Calls Tryz.prog 25 #[v] W (fun e w' => e = .returned (.tuple #[.agg #[.int .i64 1000000000000000000, .int .i64 1000000000000000000], .int .i64 0]) ∧ Below W.heap.size W w')) := zh fun T v W h0 h1 h2 => by
    have := power.Norm_ok v T _ W h0 h1 h2
    rw [P20] at this
    exact this
  clear P20
  have HK := zh (Below.refl wf.heap.size wf)
  obtain ⟨c9, hz9, hm9⟩ := made_bands 9 zo 9 rfl
  obtain ⟨c8, hz8, hm8⟩ := made_bands 8 zo 8 rfl
  refine region_plan (.one .pure 0 :: .one .pure 1 :: .one .ext 2 :: .one .ext 3 :: .one .ext 4 :: .one .pure 5 :: .one .pure 6 :: .one .ext 7 :: .one .pure 8 :: .one .pure 9 :: .one .ext 10 :: .one .ext 11 :: .one .ext 12 :: .one .pure 13 :: .one .pure 14 :: .one .ext 15 :: .one .pure 16 :: .one .pure 17 :: .one .ext 18 :: .one .ext 19 :: .one .ext 20 :: .one .pure 21 :: .one .pure 22 :: .one .ext 23 :: .one .pure 24 :: .one .pure 25 :: .one .ext 26 :: .one .ext 27 :: .one .ext 28 :: .one .ext 29 :: .one .ext 30 :: .one .pure 31 :: .one .pure 32 :: .one .ext 33 :: .one .pure 34 :: .one .pure 35 :: .two 36 37 :: .one .ext 38 :: .one .pure 39 :: .one .pure 40 :: .one .ext 41 :: .one .pure 42 :: .one .pure 43 :: .two 44 45 :: .one .ext 46 :: .one .pure 47 :: .one .pure 48 :: .one .ext 49 :: .one .pure 50 :: .one .pure 51 :: .one .read 54 :: .one .ext 52 :: .one .ext 53 :: .one .ext 55 :: .one .ext 56 :: .one .pure 57 :: .one .pure 58 :: .one .ext 59 :: .one .pure 60 :: .one .pure 61 :: .one .ext 62 :: .one .ext 63 :: .one .ext 64 :: .one .ext 65 :: .one .ext 66 :: .one .pure 67 :: .one .pure 68 :: .one .ext 69 :: .one .pure 70 :: .one .pure 71 :: .one .ext 72 :: .one .ext 73 :: .one .ext 74 :: .one .ext 75 :: .one .ext 76 :: .one .pure 77 :: .one .pure 78 :: .one .ext 79 :: .one .pure 80 :: .one .fin 81 :: []) [(36, 37), (44, 45)] zk (Eq.trans (b := covered [(36, 37), (44, 45)] plan5 (opsOf Tryz.f7 5)) zk cov5) zk zP ?_
  repeat (first | (apply wq_skip; (rfl); (rfl); (rfl); (intro J hJ; go_simp; (with_reducible refine hJ _ ?_); clear hJ J)) | (apply wq_pure; (rfl); (rfl); (intro J hJ; go_simp; (with_reducible refine hJ _ ?_); clear hJ J)) | (apply wq_load; (rfl); (rfl); (rfl); (rfl); (intro J hJ; go_simp; (with_reducible refine hJ _ ?_); clear hJ J; try go_simp)))
  refine wq_ext rfl rfl (fun we hbe J hJ => ?_)
  go_simp
  have hx : Below wf.heap.size wf we := belA
  have HX2 := zh (Bt HB.out hx)
  refine (is_ok 100000000000 100000000000 _).mono ?_
  rintro e u12a ⟨⟨v12, rfl, a12, b12, rfl, ha, hb⟩, h2⟩
  have hy := Bt hx h2
  refine hJ _ _ h2 ?_
  clear hJ J hbe hx h2 HX2
  replace HB := zh (Bt HB.out hy)
  replace HK := zh (Bt HK.out hy)
  clear hy
  have HA := zh ha
  clear ha
  have HX := zh hb
  clear hb
  repeat (first | (apply wq_skip; (rfl); (rfl); (rfl); (intro J hJ; go_simp; (with_reducible refine hJ _ ?_); clear hJ J)) | (apply wq_pure; (rfl); (rfl); (intro J hJ; go_simp; (with_reducible refine hJ _ ?_); clear hJ J)) | (apply wq_load; (rfl); (rfl); (rfl); (rfl); (intro J hJ; go_simp; (with_reducible refine hJ _ ?_); clear hJ J; try go_simp)))
  refine wq_ext rfl rfl (fun we hbe J hJ => ?_)
  go_simp
  have hx : Below u12a.heap.size u12a we := belA
  have HX2 := zh (Bt HB.out hx)
  refine (b_ok 1 1 _).mono ?_
  rintro e u12b ⟨rfl, h2⟩
  have hy := Bt hx h2
  refine hJ _ _ h2 ?_
  clear hJ J hbe hx h2 HX2
  replace HA := HA.bl hy
  replace HX := HX.bl hy
  replace HB := zh (Bt HB.out hy)
  replace HK := zh (Bt HK.out hy)
  clear hy
  repeat (first | (apply wq_skip; (rfl); (rfl); (rfl); (intro J hJ; go_simp; (with_reducible refine hJ _ ?_); clear hJ J)) | (apply wq_pure; (rfl); (rfl); (intro J hJ; go_simp; (with_reducible refine hJ _ ?_); clear hJ J)) | (apply wq_load; (rfl); (rfl); (rfl); (rfl); (intro J hJ; go_simp; (with_reducible refine hJ _ ?_); clear hJ J; try go_simp)))
  refine wq_ext rfl rfl (fun we hbe J hJ => ?_)
  go_simp
  have hx : Below u12b.heap.size u12b we := belA
  have HX2 := zh (Bt HB.out hx)
  refine (C12.out _ (HP.out.later HX2.out) (HE.out.later HX2.out)).mono ?_
  rintro e u12c ⟨rfl, h2⟩
  have hy := Bt hx h2
  refine hJ _ _ h2 ?_
  clear hJ J hbe hx h2 HX2
  replace HA := HA.bl hy
  replace HX := HX.bl hy
  replace HB := zh (Bt HB.out hy)
  replace HK := zh (Bt HK.out hy)
  clear hy
  repeat (first | (apply wq_skip; (rfl); (rfl); (rfl); (intro J hJ; go_simp; (with_reducible refine hJ _ ?_); clear hJ J)) | (apply wq_pure; (rfl); (rfl); (intro J hJ; go_simp; (with_reducible refine hJ _ ?_); clear hJ J)) | (apply wq_load; (rfl); (rfl); (rfl); (rfl); (intro J hJ; go_simp; (with_reducible refine hJ _ ?_); clear hJ J; try go_simp)))
  refine wq_ext rfl rfl (fun we hbe J hJ => ?_)
  go_simp
  have hx : Below u12c.heap.size u12c we := belA
  have HX2 := zh (Bt HB.out hx)
  refine (is1_ok 100000000000 100000000000 a12 b12 _ (HA.out.later hx) (HX.out.later hx)).mono ?_
  rintro e u12d ⟨rfl, h2⟩
  have hy := Bt hx h2
  refine hJ _ _ h2 ?_
  clear hJ J hbe hx h2 HX2
  replace HB := zh (Bt HB.out hy)
  replace HK := zh (Bt HK.out hy)
  clear hy
  clear HA HX
  repeat (first | (apply wq_skip; (rfl); (rfl); (rfl); (intro J hJ; go_simp; (with_reducible refine hJ _ ?_); clear hJ J)) | (apply wq_pure; (rfl); (rfl); (intro J hJ; go_simp; (with_reducible refine hJ _ ?_); clear hJ J)) | (apply wq_load; (rfl); (rfl); (rfl); (rfl); (intro J hJ; go_simp; (with_reducible refine hJ _ ?_); clear hJ J; try go_simp)))
  refine wq_ext rfl rfl (fun we hbe J hJ => ?_)
  go_simp
  have hx : Below u12d.heap.size u12d we := belA
  have HX2 := zh (Bt HB.out hx)
  refine (is_ok 0 1000000 _).mono ?_
  rintro e u13a ⟨⟨v13, rfl, a13, b13, rfl, ha, hb⟩, h2⟩
  have hy := Bt hx h2
  refine hJ _ _ h2 ?_
  clear hJ J hbe hx h2 HX2
  replace HB := zh (Bt HB.out hy)
  replace HK := zh (Bt HK.out hy)
  clear hy
  have HA := zh ha
  clear ha
  have HX := zh hb
  clear hb
  repeat (first | (apply wq_skip; (rfl); (rfl); (rfl); (intro J hJ; go_simp; (with_reducible refine hJ _ ?_); clear hJ J)) | (apply wq_pure; (rfl); (rfl); (intro J hJ; go_simp; (with_reducible refine hJ _ ?_); clear hJ J)) | (apply wq_load; (rfl); (rfl); (rfl); (rfl); (intro J hJ; go_simp; (with_reducible refine hJ _ ?_); clear hJ J; try go_simp)))
  refine wq_ext rfl rfl (fun we hbe J hJ => ?_)
  go_simp
  have hx : Below u13a.heap.size u13a we := belA
  have HX2 := zh (Bt HB.out hx)
  refine (b_ok 0 1 _).mono ?_
  rintro e u13b ⟨rfl, h2⟩
  have hy := Bt hx h2
  refine hJ _ _ h2 ?_
  clear hJ J hbe hx h2 HX2
  replace HA := HA.bl hy
  replace HX := HX.bl hy
  replace HB := zh (Bt HB.out hy)
  replace HK := zh (Bt HK.out hy)
  clear hy
  repeat (first | (apply wq_skip; (rfl); (rfl); (rfl); (intro J hJ; go_simp; (with_reducible refine hJ _ ?_); clear hJ J)) | (apply wq_pure; (rfl); (rfl); (intro J hJ; go_simp; (with_reducible refine hJ _ ?_); clear hJ J)) | (apply wq_load; (rfl); (rfl); (rfl); (rfl); (intro J hJ; go_simp; (with_reducible refine hJ _ ?_); clear hJ J; try go_simp)))
  refine wq_ext rfl rfl (fun we hbe J hJ => ?_)
  go_simp
  have hx : Below u13b.heap.size u13b we := belA
  have HX2 := zh (Bt HB.out hx)
  refine (C13.out _ (HP.out.later HX2.out) (HE.out.later HX2.out)).mono ?_
  rintro e u13c ⟨rfl, h2⟩
  have hy := Bt hx h2
  refine hJ _ _ h2 ?_
  clear hJ J hbe hx h2 HX2
  replace HA := HA.bl hy
  replace HX := HX.bl hy
  replace HB := zh (Bt HB.out hy)
  replace HK := zh (Bt HK.out hy)
  clear hy
  repeat (first | (apply wq_skip; (rfl); (rfl); (rfl); (intro J hJ; go_simp; (with_reducible refine hJ _ ?_); clear hJ J)) | (apply wq_pure; (rfl); (rfl); (intro J hJ; go_simp; (with_reducible refine hJ _ ?_); clear hJ J)) | (apply wq_load; (rfl); (rfl); (rfl); (rfl); (intro J hJ; go_simp; (with_reducible refine hJ _ ?_); clear hJ J; try go_simp)))
  refine wq_ext rfl rfl (fun we hbe J hJ => ?_)
  go_simp
  have hx : Below u13c.heap.size u13c we := belA
  have HX2 := zh (Bt HB.out hx)
  refine (is1_ok 0 1000000 a13 b13 _ (HA.out.later hx) (HX.out.later hx)).mono ?_
  rintro e u13d ⟨rfl, h2⟩
  have hy := Bt hx h2
  refine hJ _ _ h2 ?_
  clear hJ J hbe hx h2 HX2
  replace HB := zh (Bt HB.out hy)
  replace HK := zh (Bt HK.out hy)
  clear hy
  clear HA HX
  repeat (first | (apply wq_skip; (rfl); (rfl); (rfl); (intro J hJ; go_simp; (with_reducible refine hJ _ ?_); clear hJ J)) | (apply wq_pure; (rfl); (rfl); (intro J hJ; go_simp; (with_reducible refine hJ _ ?_); clear hJ J)) | (apply wq_load; (rfl); (rfl); (rfl); (rfl); (intro J hJ; go_simp; (with_reducible refine hJ _ ?_); clear hJ J; try go_simp)))
  refine wq_ext rfl rfl (fun we hbe J hJ => ?_)
  go_simp
  have hx : Below u13d.heap.size u13d we := belA
  have HX2 := zh (Bt HB.out hx)
  refine (is_ok 999999999999 1000000000000 _).mono ?_
  rintro e u14a ⟨⟨v14, rfl, a14, b14, rfl, ha, hb⟩, h2⟩
  have hy := Bt hx h2
  refine hJ _ _ h2 ?_
  clear hJ J hbe hx h2 HX2
  replace HB := zh (Bt HB.out hy)
  replace HK := zh (Bt HK.out hy)
  clear hy
  have HA := zh ha
  clear ha
  have HX := zh hb
  clear hb
  repeat (first | (apply wq_skip; (rfl); (rfl); (rfl); (intro J hJ; go_simp; (with_reducible refine hJ _ ?_); clear hJ J)) | (apply wq_pure; (rfl); (rfl); (intro J hJ; go_simp; (with_reducible refine hJ _ ?_); clear hJ J)) | (apply wq_load; (rfl); (rfl); (rfl); (rfl); (intro J hJ; go_simp; (with_reducible refine hJ _ ?_); clear hJ J; try go_simp)))
  refine wq_ext rfl rfl (fun we hbe J hJ => ?_)
  go_simp
  have hx : Below u14a.heap.size u14a we := belA
  have HX2 := zh (Bt HB.out hx)
  refine (b_ok 999999999999 1000000000000 _).mono ?_
  rintro e u14b ⟨rfl, h2⟩
  have hy := Bt hx h2
  refine hJ _ _ h2 ?_
  clear hJ J hbe hx h2 HX2
  replace HA := HA.bl hy
  replace HX := HX.bl hy
  replace HB := zh (Bt HB.out hy)
  replace HK := zh (Bt HK.out hy)
  clear hy
  repeat (first | (apply wq_skip; (rfl); (rfl); (rfl); (intro J hJ; go_simp; (with_reducible refine hJ _ ?_); clear hJ J)) | (apply wq_pure; (rfl); (rfl); (intro J hJ; go_simp; (with_reducible refine hJ _ ?_); clear hJ J)) | (apply wq_load; (rfl); (rfl); (rfl); (rfl); (intro J hJ; go_simp; (with_reducible refine hJ _ ?_); clear hJ J; try go_simp)))
  refine wq_ext rfl rfl (fun we hbe J hJ => ?_)
  go_simp
  have hx : Below u14b.heap.size u14b we := belA
  have HX2 := zh (Bt HB.out hx)
  refine (C14.out _ (HP.out.later HX2.out) (HE.out.later HX2.out)).mono ?_
  rintro e u14c ⟨rfl, h2⟩
  have hy := Bt hx h2
  refine hJ _ _ h2 ?_
  clear hJ J hbe hx h2 HX2
  replace HA := HA.bl hy
  replace HX := HX.bl hy
  replace HB := zh (Bt HB.out hy)
  replace HK := zh (Bt HK.out hy)
  clear hy
  repeat (first | (apply wq_skip; (rfl); (rfl); (rfl); (intro J hJ; go_simp; (with_reducible refine hJ _ ?_); clear hJ J)) | (apply wq_pure; (rfl); (rfl); (intro J hJ; go_simp; (with_reducible refine hJ _ ?_); clear hJ J)) | (apply wq_load; (rfl); (rfl); (rfl); (rfl); (intro J hJ; go_simp; (with_reducible refine hJ _ ?_); clear hJ J; try go_simp)))
  refine wq_ext rfl rfl (fun we hbe J hJ => ?_)
  go_simp
  have hx : Below u14c.heap.size u14c we := belA
  have HX2 := zh (Bt HB.out hx)
  refine (is1_ok 999999999999 1000000000000 a14 b14 _ (HA.out.later hx) (HX.out.later hx)).mono ?_
  rintro e u14d ⟨rfl, h2⟩
  have hy := Bt hx h2
  refine hJ _ _ h2 ?_
  clear hJ J hbe hx h2 HX2
  replace HB := zh (Bt HB.out hy)
  replace HK := zh (Bt HK.out hy)
  clear hy
  clear HA HX
  repeat (first | (apply wq_skip; (rfl); (rfl); (rfl); (intro J hJ; go_simp; (with_reducible refine hJ _ ?_); clear hJ J)) | (apply wq_pure; (rfl); (rfl); (intro J hJ; go_simp; (with_reducible refine hJ _ ?_); clear hJ J)) | (apply wq_load; (rfl); (rfl); (rfl); (rfl); (intro J hJ; go_simp; (with_reducible refine hJ _ ?_); clear hJ J; try go_simp)))
  refine wq_ext rfl rfl (fun we hbe J hJ => ?_)
  go_simp
  have hx : Below u14d.heap.size u14d we := belA
  have HX2 := zh (Bt HB.out hx)
  refine (is_ok 1 2 _).mono ?_
  rintro e u15a ⟨⟨v15, rfl, a15, b15, rfl, ha, hb⟩, h2⟩
  have hy := Bt hx h2
  refine hJ _ _ h2 ?_
  clear hJ J hbe hx h2 HX2
  replace HB := zh (Bt HB.out hy)
  replace HK := zh (Bt HK.out hy)
  clear hy
  have HA := zh ha
  clear ha
  have HX := zh hb
  clear hb
  repeat (first | (apply wq_skip; (rfl); (rfl); (rfl); (intro J hJ; go_simp; (with_reducible refine hJ _ ?_); clear hJ J)) | (apply wq_pure; (rfl); (rfl); (intro J hJ; go_simp; (with_reducible refine hJ _ ?_); clear hJ J)) | (apply wq_load; (rfl); (rfl); (rfl); (rfl); (intro J hJ; go_simp; (with_reducible refine hJ _ ?_); clear hJ J; try go_simp)))
  refine wq_ext rfl rfl (fun we hbe J hJ => ?_)
  go_simp
  have hx : Below u15a.heap.size u15a we := belA
  have HX2 := zh (Bt HB.out hx)
  refine (b_ok 1 1 _).mono ?_
  rintro e u15b0 ⟨rfl, h2⟩
  have hy := Bt hx h2
  refine hJ _ _ h2 ?_
  clear hJ J hbe hx h2 HX2
  replace HA := HA.bl hy
  replace HX := HX.bl hy
  replace HB := zh (Bt HB.out hy)
  replace HK := zh (Bt HK.out hy)
  clear hy
  repeat (first | (apply wq_skip; (rfl); (rfl); (rfl); (intro J hJ; go_simp; (with_reducible refine hJ _ ?_); clear hJ J)) | (apply wq_pure; (rfl); (rfl); (intro J hJ; go_simp; (with_reducible refine hJ _ ?_); clear hJ J)) | (apply wq_load; (rfl); (rfl); (rfl); (rfl); (intro J hJ; go_simp; (with_reducible refine hJ _ ?_); clear hJ J; try go_simp)))
  refine wq_ext rfl rfl (fun we hbe J hJ => ?_)
  go_simp
  have hx : Below u15b0.heap.size u15b0 we := belA
  have HX2 := zh (Bt HB.out hx)
  refine (b_ok 0 1 _).mono ?_
  rintro e u15b1 ⟨rfl, h2⟩
  have hy := Bt hx h2
  refine hJ _ _ h2 ?_
  clear hJ J hbe hx h2 HX2
  replace HA := HA.bl hy
  replace HX := HX.bl hy
  replace HB := zh (Bt HB.out hy)
  replace HK := zh (Bt HK.out hy)
  clear hy
  repeat (first | (apply wq_skip; (rfl); (rfl); (rfl); (intro J hJ; go_simp; (with_reducible refine hJ _ ?_); clear hJ J)) | (apply wq_pure; (rfl); (rfl); (intro J hJ; go_simp; (with_reducible refine hJ _ ?_); clear hJ J)) | (apply wq_load; (rfl); (rfl); (rfl); (rfl); (intro J hJ; go_simp; (with_reducible refine hJ _ ?_); clear hJ J; try go_simp)))
  refine wq_ext rfl rfl (fun we hbe J hJ => ?_)
  have hx : Below u15b1.heap.size u15b1 we := belA
  have HX2 := zh (Bt HB.out hx)
  obtain ⟨u15z, EW, h2, Z⟩ := al1 we #[.int .i64 1, .int .i64 1, .int .i64 0, .int .i64 1] 23
  go_simp
  (try rw [EW])
  clear EW
  have hy := Bt hx h2
  refine hJ _ _ h2 ?_
  clear hJ J hbe hx h2 HX2
  replace HA := HA.bl hy
  replace HX := HX.bl hy
  replace HB := zh (Bt HB.out hy)
  replace HK := zh (Bt HK.out hy)
  clear hy
  repeat (first | (apply wq_skip; (rfl); (rfl); (rfl); (intro J hJ; go_simp; (with_reducible refine hJ _ ?_); clear hJ J)) | (apply wq_pure; (rfl); (rfl); (intro J hJ; go_simp; (with_reducible refine hJ _ ?_); clear hJ J)) | (apply wq_load; (rfl); (rfl); (rfl); (rfl); (intro J hJ; go_simp; (with_reducible refine hJ _ ?_); clear hJ J; try go_simp)))
  refine wq_ext rfl rfl (fun we hbe J hJ => ?_)
  go_simp
  have hx : Below u15z.heap.size u15z we := belA
  have HX2 := zh (Bt HB.out hx)
  refine (C15.out _ _ _ (Bds.two (Z.out.later hx)) (HP.out.later HX2.out) (HE.out.later HX2.out)).mono ?_
  rintro e u15c ⟨rfl, h2⟩
  have hy := Bt hx h2
  refine hJ _ _ h2 ?_
  clear hJ J hbe hx h2 HX2
  replace HA := HA.bl hy
  replace HX := HX.bl hy
  replace HB := zh (Bt HB.out hy)
  replace HK := zh (Bt HK.out hy)
  clear hy
  clear Z
  repeat (first | (apply wq_skip; (rfl); (rfl); (rfl); (intro J hJ; go_simp; (with_reducible refine hJ _ ?_); clear hJ J)) | (apply wq_pure; (rfl); (rfl); (intro J hJ; go_simp; (with_reducible refine hJ _ ?_); clear hJ J)) | (apply wq_load; (rfl); (rfl); (rfl); (rfl); (intro J hJ; go_simp; (with_reducible refine hJ _ ?_); clear hJ J; try go_simp)))
  refine wq_ext rfl rfl (fun we hbe J hJ => ?_)
  go_simp
  have hx : Below u15c.heap.size u15c we := belA
  have HX2 := zh (Bt HB.out hx)
  refine (is1_ok 1 2 a15 b15 _ (HA.out.later hx) (HX.out.later hx)).mono ?_
  rintro e u15d ⟨rfl, h2⟩
  have hy := Bt hx h2
  refine hJ _ _ h2 ?_
  clear hJ J hbe hx h2 HX2
  replace HB := zh (Bt HB.out hy)
  replace HK := zh (Bt HK.out hy)
  clear hy
  clear HA HX
  repeat (first | (apply wq_skip; (rfl); (rfl); (rfl); (intro J hJ; go_simp; (with_reducible refine hJ _ ?_); clear hJ J)) | (apply wq_pure; (rfl); (rfl); (intro J hJ; go_simp; (with_reducible refine hJ _ ?_); clear hJ J)) | (apply wq_load; (rfl); (rfl); (rfl); (rfl); (intro J hJ; go_simp; (with_reducible refine hJ _ ?_); clear hJ J; try go_simp)))
  refine wq_pair rfl rfl rfl (fun _ => rfl) rfl (fun _ => rfl) (fun _ _ => rfl) (fun v W => FailsF W v 3) (fun u W => ∃ b, u = .slice (some ⟨b, 0, none⟩) 9 9 ∧ Box W b c9 23) ?_ ?_ ?_ ?_ ?_
  · rintro v W W1 ⟨a1, rfl, h1⟩ h3; exact ⟨a1, rfl, h1.later h3⟩
  · rintro v W W1 ⟨b1, rfl, h1⟩ h3; exact ⟨b1, rfl, h1.later h3⟩
  · intro a1 W J hJ; go_simp; refine (fails_ok 3 _).mono ?_; rintro e W1 ⟨⟨v, rfl, hv⟩, h2⟩; exact hJ v W1 h2 hv
  · intro a1 W J hJ; go_simp; exact hJ _ _ (Below_alloc (Below.refl _ _) _) ⟨_, rfl, Box.new _ _ _⟩
  rintro _ _ u16a hy ⟨a16, rfl, ha⟩ ⟨z16, rfl, hz⟩
  replace hy : Below u15d.heap.size u15d u16a := belA
  replace HB := zh (Bt HB.out hy)
  replace HK := zh (Bt HK.out hy)
  clear hy
  have HA := zh ha
  clear ha
  have HZ := zh hz
  clear hz
  go_simp
  repeat (first | (apply wq_skip; (rfl); (rfl); (rfl); (intro J hJ; go_simp; (with_reducible refine hJ _ ?_); clear hJ J)) | (apply wq_pure; (rfl); (rfl); (intro J hJ; go_simp; (with_reducible refine hJ _ ?_); clear hJ J)) | (apply wq_load; (rfl); (rfl); (rfl); (rfl); (intro J hJ; go_simp; (with_reducible refine hJ _ ?_); clear hJ J; try go_simp)))
  refine wq_ext rfl rfl (fun we hbe J hJ => ?_)
  go_simp
  have hx : Below u16a.heap.size u16a we := belA
  have HX2 := zh (Bt HB.out hx)
  refine (C16.out 23 _ _ (Bds.zeros (HZ.out.later hx) hz9 zo) (HP.out.later HX2.out) (HE.out.later HX2.out)).mono ?_
  rintro e u16c ⟨rfl, h2⟩
  have hy := Bt hx h2
  refine hJ _ _ h2 ?_
  clear hJ J hbe hx h2 HX2
  replace HA := HA.bl hy
  replace HB := zh (Bt HB.out hy)
  replace HK := zh (Bt HK.out hy)
  clear hy
  clear HZ
  repeat (first | (apply wq_skip; (rfl); (rfl); (rfl); (intro J hJ; go_simp; (with_reducible refine hJ _ ?_); clear hJ J)) | (apply wq_pure; (rfl); (rfl); (intro J hJ; go_simp; (with_reducible refine hJ _ ?_); clear hJ J)) | (apply wq_load; (rfl); (rfl); (rfl); (rfl); (intro J hJ; go_simp; (with_reducible refine hJ _ ?_); clear hJ J; try go_simp)))
  refine wq_ext rfl rfl (fun we hbe J hJ => ?_)
  go_simp
  have hx : Below u16c.heap.size u16c we := belA
  have HX2 := zh (Bt HB.out hx)
  refine (fails1_ok 3 a16 _ (HA.out.later hx)).mono ?_
  rintro e u16d ⟨rfl, h2⟩
  have hy := Bt hx h2
  refine hJ _ _ h2 ?_
  clear hJ J hbe hx h2 HX2
  replace HB := zh (Bt HB.out hy)
  replace HK := zh (Bt HK.out hy)
  clear hy
  clear HA
  repeat (first | (apply wq_skip; (rfl); (rfl); (rfl); (intro J hJ; go_simp; (with_reducible refine hJ _ ?_); clear hJ J)) | (apply wq_pure; (rfl); (rfl); (intro J hJ; go_simp; (with_reducible refine hJ _ ?_); clear hJ J)) | (apply wq_load; (rfl); (rfl); (rfl); (rfl); (intro J hJ; go_simp; (with_reducible refine hJ _ ?_); clear hJ J; try go_simp)))
  refine wq_pair rfl rfl rfl (fun _ => rfl) rfl (fun _ => rfl) (fun _ _ => rfl) (fun v W => IsF W v 0 0) (fun u W => ∃ b, u = .slice (some ⟨b, 0, none⟩) 8 8 ∧ Box W b c8 23) ?_ ?_ ?_ ?_ ?_
  · rintro v W W1 ⟨a1, b1, rfl, h1, h2⟩ h3; exact ⟨a1, b1, rfl, h1.later h3, h2.later h3⟩
  · rintro v W W1 ⟨b1, rfl, h1⟩ h3; exact ⟨b1, rfl, h1.later h3⟩
  · intro a1 W J hJ; go_simp; refine (is_ok 0 0 _).mono ?_; rintro e W1 ⟨⟨v, rfl, hv⟩, h2⟩; exact hJ v W1 h2 hv
  · intro a1 W J hJ; go_simp; exact hJ _ _ (Below_alloc (Below.refl _ _) _) ⟨_, rfl, Box.new _ _ _⟩
  rintro _ _ u17a hy ⟨a17, b17, rfl, ha, hb⟩ ⟨z17, rfl, hz⟩
  replace hy : Below u16d.heap.size u16d u17a := belA
  replace HB := zh (Bt HB.out hy)
  replace HK := zh (Bt HK.out hy)
  clear hy
  have HA := zh ha
  clear ha
  have HX := zh hb
  clear hb
  have HZ := zh hz
  clear hz
  go_simp
  repeat (first | (apply wq_skip; (rfl); (rfl); (rfl); (intro J hJ; go_simp; (with_reducible refine hJ _ ?_); clear hJ J)) | (apply wq_pure; (rfl); (rfl); (intro J hJ; go_simp; (with_reducible refine hJ _ ?_); clear hJ J)) | (apply wq_load; (rfl); (rfl); (rfl); (rfl); (intro J hJ; go_simp; (with_reducible refine hJ _ ?_); clear hJ J; try go_simp)))
  refine wq_ext rfl rfl (fun we hbe J hJ => ?_)
  go_simp
  have hx : Below u17a.heap.size u17a we := belA
  have HX2 := zh (Bt HB.out hx)
  refine (C17.out 23 _ _ (Bds.zeros (HZ.out.later hx) hz8 zo) (HP.out.later HX2.out) (HE.out.later HX2.out)).mono ?_
  rintro e u17c ⟨rfl, h2⟩
  have hy := Bt hx h2
  refine hJ _ _ h2 ?_
  clear hJ J hbe hx h2 HX2
  replace HA := HA.bl hy
  replace HX := HX.bl hy
  replace HB := zh (Bt HB.out hy)
  replace HK := zh (Bt HK.out hy)
  clear hy
  clear HZ
  repeat (first | (apply wq_skip; (rfl); (rfl); (rfl); (intro J hJ; go_simp; (with_reducible refine hJ _ ?_); clear hJ J)) | (apply wq_pure; (rfl); (rfl); (intro J hJ; go_simp; (with_reducible refine hJ _ ?_); clear hJ J)) | (apply wq_load; (rfl); (rfl); (rfl); (rfl); (intro J hJ; go_simp; (with_reducible refine hJ _ ?_); clear hJ J; try go_simp)))
  refine wq_ext rfl rfl (fun we hbe J hJ => ?_)
  go_simp
  have hx : Below u17c.heap.size u17c we := belA
  have HX2 := zh (Bt HB.out hx)
  refine (is1_ok 0 0 a17 b17 _ (HA.out.later hx) (HX.out.later hx)).mono ?_
  rintro e u17d ⟨rfl, h2⟩
  have hy := Bt hx h2
  refine hJ _ _ h2 ?_
  clear hJ J hbe hx h2 HX2
  replace HB := zh (Bt HB.out hy)
  replace HK := zh (Bt HK.out hy)
  clear hy
  clear HA HX
  have cB := (B.bl HK.out).cl.1
  repeat (first | (apply wq_skip; (rfl); (rfl); (rfl); (intro J hJ; go_simp; (with_reducible refine hJ _ ?_); clear hJ J)) | (apply wq_pure; (rfl); (rfl); (intro J hJ; go_simp; (with_reducible refine hJ _ ?_); clear hJ J)) | (apply wq_load; (rfl); (rfl); (rfl); (rfl); (intro J hJ; go_simp; (with_reducible refine hJ _ ?_); clear hJ J; try go_simp)))
  refine wq_ext rfl rfl (fun we hbe J hJ => ?_)
  go_simp
  have hx : Below u17d.heap.size u17d we := belA
  have HX2 := zh (Bt HB.out hx)
  refine (fails_ok 30 _).mono ?_
  rintro e u18a ⟨⟨v18, rfl, a18, rfl, ha⟩, h2⟩
  have hy := Bt hx h2
  refine hJ _ _ h2 ?_
  clear hJ J hbe hx h2 HX2
  replace HB := zh (Bt HB.out hy)
  replace HK := zh (Bt HK.out hy)
  clear hy
  clear cB
  have HA := zh ha
  clear ha
  repeat (first | (apply wq_skip; (rfl); (rfl); (rfl); (intro J hJ; go_simp; (with_reducible refine hJ _ ?_); clear hJ J)) | (apply wq_pure; (rfl); (rfl); (intro J hJ; go_simp; (with_reducible refine hJ _ ?_); clear hJ J)) | (apply wq_load; (rfl); (rfl); (rfl); (rfl); (intro J hJ; go_simp; (with_reducible refine hJ _ ?_); clear hJ J; try go_simp)))
  refine wq_ext rfl rfl (fun we hbe J hJ => ?_)
  go_simp
  have hx : Below u18a.heap.size u18a we := belA
  have HX2 := zh (Bt HB.out hx)
  refine (b_ok 0 1 _).mono ?_
  rintro e u18b0 ⟨rfl, h2⟩
  have hy := Bt hx h2
  refine hJ _ _ h2 ?_
  clear hJ J hbe hx h2 HX2
  replace HA := HA.bl hy
  replace HB := zh (Bt HB.out hy)
  replace HK := zh (Bt HK.out hy)
  clear hy
  repeat (first | (apply wq_skip; (rfl); (rfl); (rfl); (intro J hJ; go_simp; (with_reducible refine hJ _ ?_); clear hJ J)) | (apply wq_pure; (rfl); (rfl); (intro J hJ; go_simp; (with_reducible refine hJ _ ?_); clear hJ J)) | (apply wq_load; (rfl); (rfl); (rfl); (rfl); (intro J hJ; go_simp; (with_reducible refine hJ _ ?_); clear hJ J; try go_simp)))
  refine wq_ext rfl rfl (fun we hbe J hJ => ?_)
  have hx : Below u18b0.heap.size u18b0 we := belA
  have HX2 := zh (Bt HB.out hx)
  obtain ⟨u18z, EW, h2, Z⟩ := al1 we #[.int .i64 0, .int .i64 1, .int .i64 1, .int .i64 0] 23
  go_simp
  (try rw [EW])
  clear EW
  have hy := Bt hx h2
  refine hJ _ _ h2 ?_
  clear hJ J hbe hx h2 HX2
  replace HA := HA.bl hy
  replace HB := zh (Bt HB.out hy)
  replace HK := zh (Bt HK.out hy)
  clear hy
  repeat (first | (apply wq_skip; (rfl); (rfl); (rfl); (intro J hJ; go_simp; (with_reducible refine hJ _ ?_); clear hJ J)) | (apply wq_pure; (rfl); (rfl); (intro J hJ; go_simp; (with_reducible refine hJ _ ?_); clear hJ J)) | (apply wq_load; (rfl); (rfl); (rfl); (rfl); (intro J hJ; go_simp; (with_reducible refine hJ _ ?_); clear hJ J; try go_simp)))
  refine wq_ext rfl rfl (fun we hbe J hJ => ?_)
  go_simp
  have hx : Below u18z.heap.size u18z we := belA
  have HX2 := zh (Bt HB.out hx)
  refine (C18.out _ _ _ (Bds.two (Z.out.later hx)) (HP.out.later HX2.out) (HE.out.later HX2.out)).mono ?_
  rintro e u18c ⟨rfl, h2⟩
  have hy := Bt hx h2
  refine hJ _ _ h2 ?_
  clear hJ J hbe hx h2 HX2
  replace HA := HA.bl hy
  replace HB := zh (Bt HB.out hy)
  replace HK := zh (Bt HK.out hy)
  clear hy
  clear Z
  repeat (first | (apply wq_skip; (rfl); (rfl); (rfl); (intro J hJ; go_simp; (with_reducible refine hJ _ ?_); clear hJ J)) | (apply wq_pure; (rfl); (rfl); (intro J hJ; go_simp; (with_reducible refine hJ _ ?_); clear hJ J)) | (apply wq_load; (rfl); (rfl); (rfl); (rfl); (intro J hJ; go_simp; (with_reducible refine hJ _ ?_); clear hJ J; try go_simp)))
  refine wq_ext rfl rfl (fun we hbe J hJ => ?_)
  go_simp
  have hx : Below u18c.heap.size u18c we := belA
  have HX2 := zh (Bt HB.out hx)
  refine (fails1_ok 30 a18 _ (HA.out.later hx)).mono ?_
  rintro e u18d ⟨rfl, h2⟩
  have hy := Bt hx h2
  refine hJ _ _ h2 ?_
  clear hJ J hbe hx h2 HX2
  replace HB := zh (Bt HB.out hy)
  replace HK := zh (Bt HK.out hy)
  clear hy
  clear HA
  repeat (first | (apply wq_skip; (rfl); (rfl); (rfl); (intro J hJ; go_simp; (with_reducible refine hJ _ ?_); clear hJ J)) | (apply wq_pure; (rfl); (rfl); (intro J hJ; go_simp; (with_reducible refine hJ _ ?_); clear hJ J)) | (apply wq_load; (rfl); (rfl); (rfl); (rfl); (intro J hJ; go_simp; (with_reducible refine hJ _ ?_); clear hJ J; try go_simp)))
  refine wq_ext rfl rfl (fun we hbe J hJ => ?_)
  go_simp
  have hx : Below u18d.heap.size u18d we := belA
  have HX2 := zh (Bt HB.out hx)
  refine (fails_ok 6 _).mono ?_
  rintro e u19a ⟨⟨v19, rfl, a19, rfl, ha⟩, h2⟩
  have hy := Bt hx h2
  refine hJ _ _ h2 ?_
  clear hJ J hbe hx h2 HX2
  replace HB := zh (Bt HB.out hy)
  replace HK := zh (Bt HK.out hy)
  clear hy
  have HA := zh ha
  clear ha
  repeat (first | (apply wq_skip; (rfl); (rfl); (rfl); (intro J hJ; go_simp; (with_reducible refine hJ _ ?_); clear hJ J)) | (apply wq_pure; (rfl); (rfl); (intro J hJ; go_simp; (with_reducible refine hJ _ ?_); clear hJ J)) | (apply wq_load; (rfl); (rfl); (rfl); (rfl); (intro J hJ; go_simp; (with_reducible refine hJ _ ?_); clear hJ J; try go_simp)))
  refine wq_ext rfl rfl (fun we hbe J hJ => ?_)
  go_simp
  have hx : Below u19a.heap.size u19a we := belA
  have HX2 := zh (Bt HB.out hx)
  refine (b_ok 1000000000000000000 1000000000000000000 _).mono ?_
  rintro e u19b0 ⟨rfl, h2⟩
  have hy := Bt hx h2
  refine hJ _ _ h2 ?_
  clear hJ J hbe hx h2 HX2
  replace HA := HA.bl hy
  replace HB := zh (Bt HB.out hy)
  replace HK := zh (Bt HK.out hy)
  clear hy
  repeat (first | (apply wq_skip; (rfl); (rfl); (rfl); (intro J hJ; go_simp; (with_reducible refine hJ _ ?_); clear hJ J)) | (apply wq_pure; (rfl); (rfl); (intro J hJ; go_simp; (with_reducible refine hJ _ ?_); clear hJ J)) | (apply wq_load; (rfl); (rfl); (rfl); (rfl); (intro J hJ; go_simp; (with_reducible refine hJ _ ?_); clear hJ J; try go_simp)))
  refine wq_ext rfl rfl (fun we hbe J hJ => ?_)
  go_simp
  have hx : Below u19b0.heap.size u19b0 we := belA
  have HX2 := zh (Bt HB.out hx)
  refine (b_ok 0 1000000000000 _).mono ?_
  rintro e u19b1 ⟨rfl, h2⟩
  have hy := Bt hx h2
  refine hJ _ _ h2 ?_
  clear hJ J hbe hx h2 HX2
  replace HA := HA.bl hy
  replace HB := zh (Bt HB.out hy)
  replace HK := zh (Bt HK.out hy)
  clear hy
  repeat (first | (apply wq_skip; (rfl); (rfl); (rfl); (intro J hJ; go_simp; (with_reducible refine hJ _ ?_); clear hJ J)) | (apply wq_pure; (rfl); (rfl); (intro J hJ; go_simp; (with_reducible refine hJ _ ?_); clear hJ J)) | (apply wq_load; (rfl); (rfl); (rfl); (rfl); (intro J hJ; go_simp; (with_reducible refine hJ _ ?_); clear hJ J; try go_simp)))
  refine wq_ext rfl rfl (fun we hbe J hJ => ?_)
  have hx : Below u19b1.heap.size u19b1 we := belA
  have HX2 := zh (Bt HB.out hx)
  obtain ⟨u19z, EW, h2, Z⟩ := al1 we #[.int .i64 1000000000000000000, .int .i64 1000000000000000000, .int .i64 0, .int .i64 1000000000000] 23
  go_simp
  (try rw [EW])
  clear EW
  have hy := Bt hx h2
  refine hJ _ _ h2 ?_
  clear hJ J hbe hx h2 HX2
  replace HA := HA.bl hy
  replace HB := zh (Bt HB.out hy)
  replace HK := zh (Bt HK.out hy)
  clear hy
  repeat (first | (apply wq_skip; (rfl); (rfl); (rfl); (intro J hJ; go_simp; (with_reducible refine hJ _ ?_); clear hJ J)) | (apply wq_pure; (rfl); (rfl); (intro J hJ; go_simp; (with_reducible refine hJ _ ?_); clear hJ J)) | (apply wq_load; (rfl); (rfl); (rfl); (rfl); (intro J hJ; go_simp; (with_reducible refine hJ _ ?_); clear hJ J; try go_simp)))
  refine wq_ext rfl rfl (fun we hbe J hJ => ?_)
  go_simp
  have hx : Below u19z.heap.size u19z we := belA
  have HX2 := zh (Bt HB.out hx)
  refine (C19.out _ _ _ (Bds.two (Z.out.later hx)) (HP.out.later HX2.out) (HE.out.later HX2.out)).mono ?_
  rintro e u19c ⟨rfl, h2⟩
  have hy := Bt hx h2
  refine hJ _ _ h2 ?_
  clear hJ J hbe hx h2 HX2
  replace HA := HA.bl hy
  replace HB := zh (Bt HB.out hy)
  replace HK := zh (Bt HK.out hy)
  clear hy
  clear Z
  repeat (first | (apply wq_skip; (rfl); (rfl); (rfl); (intro J hJ; go_simp; (with_reducible refine hJ _ ?_); clear hJ J)) | (apply wq_pure; (rfl); (rfl); (intro J hJ; go_simp; (with_reducible refine hJ _ ?_); clear hJ J)) | (apply wq_load; (rfl); (rfl); (rfl); (rfl); (intro J hJ; go_simp; (with_reducible refine hJ _ ?_); clear hJ J; try go_simp)))
  refine wq_ext rfl rfl (fun we hbe J hJ => ?_)
  go_simp
  have hx : Below u19c.heap.size u19c we := belA
  have HX2 := zh (Bt HB.out hx)
  refine (fails1_ok 6 a19 _ (HA.out.later hx)).mono ?_
  rintro e u19d ⟨rfl, h2⟩
  have hy := Bt hx h2
  refine hJ _ _ h2 ?_
  clear hJ J hbe hx h2 HX2
  replace HB := zh (Bt HB.out hy)
  replace HK := zh (Bt HK.out hy)
  clear hy
  clear HA
  repeat (first | (apply wq_skip; (rfl); (rfl); (rfl); (intro J hJ; go_simp; (with_reducible refine hJ _ ?_); clear hJ J)) | (apply wq_pure; (rfl); (rfl); (intro J hJ; go_simp; (with_reducible refine hJ _ ?_); clear hJ J)) | (apply wq_load; (rfl); (rfl); (rfl); (rfl); (intro J hJ; go_simp; (with_reducible refine hJ _ ?_); clear hJ J; try go_simp)))
  refine wq_ext rfl rfl (fun we hbe J hJ => ?_)
  go_simp
  have hx : Below u19d.heap.size u19d we := belA
  have HX2 := zh (Bt HB.out hx)
  refine (is_ok 1000000000000000000 1000000000000000000 _).mono ?_
  rintro e u20a ⟨⟨v20, rfl, a20, b20, rfl, ha, hb⟩, h2⟩
  have hy := Bt hx h2
  refine hJ _ _ h2 ?_
  clear hJ J hbe hx h2 HX2
  replace HB := zh (Bt HB.out hy)
  replace HK := zh (Bt HK.out hy)
  clear hy
  have HA := zh ha
  clear ha
  have HX := zh hb
  clear hb
  repeat (first | (apply wq_skip; (rfl); (rfl); (rfl); (intro J hJ; go_simp; (with_reducible refine hJ _ ?_); clear hJ J)) | (apply wq_pure; (rfl); (rfl); (intro J hJ; go_simp; (with_reducible refine hJ _ ?_); clear hJ J)) | (apply wq_load; (rfl); (rfl); (rfl); (rfl); (intro J hJ; go_simp; (with_reducible refine hJ _ ?_); clear hJ J; try go_simp)))
  refine wq_ext rfl rfl (fun we hbe J hJ => ?_)
  go_simp
  have hx : Below u20a.heap.size u20a we := belA
  have HX2 := zh (Bt HB.out hx)
  refine (b_ok (-1000000000000000000) (-1000000000000000000) _).mono ?_
  rintro e u20b0 ⟨rfl, h2⟩
  have hy := Bt hx h2
  refine hJ _ _ h2 ?_
  clear hJ J hbe hx h2 HX2
  replace HA := HA.bl hy
  replace HX := HX.bl hy
  replace HB := zh (Bt HB.out hy)
  replace HK := zh (Bt HK.out hy)
  clear hy
  repeat (first | (apply wq_skip; (rfl); (rfl); (rfl); (intro J hJ; go_simp; (with_reducible refine hJ _ ?_); clear hJ J)) | (apply wq_pure; (rfl); (rfl); (intro J hJ; go_simp; (with_reducible refine hJ _ ?_); clear hJ J)) | (apply wq_load; (rfl); (rfl); (rfl); (rfl); (intro J hJ; go_simp; (with_reducible refine hJ _ ?_); clear hJ J; try go_simp)))
  refine wq_ext rfl rfl (fun we hbe J hJ => ?_)
  go_simp
  have hx : Below u20b0.heap.size u20b0 we := belA
  have HX2 := zh (Bt HB.out hx)
  refine (b_ok 0 0 _).mono ?_
  rintro e u20b1 ⟨rfl, h2⟩
  have hy := Bt hx h2
  refine hJ _ _ h2 ?_
  clear hJ J hbe hx h2 HX2
  replace HA := HA.bl hy
  replace HX := HX.bl hy
  replace HB := zh (Bt HB.out hy)
  replace HK := zh (Bt HK.out hy)
  clear hy
  repeat (first | (apply wq_skip; (rfl); (rfl); (rfl); (intro J hJ; go_simp; (with_reducible refine hJ _ ?_); clear hJ J)) | (apply wq_pure; (rfl); (rfl); (intro J hJ; go_simp; (with_reducible refine hJ _ ?_); clear hJ J)) | (apply wq_load; (rfl); (rfl); (rfl); (rfl); (intro J hJ; go_simp; (with_reducible refine hJ _ ?_); clear hJ J; try go_simp)))
  refine wq_ext rfl rfl (fun we hbe J hJ => ?_)
  have hx : Below u20b1.heap.size u20b1 we := belA
  have HX2 := zh (Bt HB.out hx)
  obtain ⟨u20z, EW, h2, Z⟩ := al1 we #[.int .i64 (-1000000000000000000), .int .i64 (-1000000000000000000), .int .i64 0, .int .i64 0] 23
  go_simp
  (try rw [EW])
  clear EW
  have hy := Bt hx h2
  refine hJ _ _ h2 ?_
  clear hJ J hbe hx h2 HX2
  replace HA := HA.bl hy
  replace HX := HX.bl hy
  replace HB := zh (Bt HB.out hy)
  replace HK := zh (Bt HK.out hy)
  clear hy
  repeat (first | (apply wq_skip; (rfl); (rfl); (rfl); (intro J hJ; go_simp; (with_reducible refine hJ _ ?_); clear hJ J)) | (apply wq_pure; (rfl); (rfl); (intro J hJ; go_simp; (with_reducible refine hJ _ ?_); clear hJ J)) | (apply wq_load; (rfl); (rfl); (rfl); (rfl); (intro J hJ; go_simp; (with_reducible refine hJ _ ?_); clear hJ J; try go_simp)))
  refine wq_ext rfl rfl (fun we hbe J hJ => ?_)
  go_simp
  have hx : Below u20z.heap.size u20z we := belA
  have HX2 := zh (Bt HB.out hx)
  refine (C20.out _ _ _ (Bds.two (Z.out.later hx)) (HP.out.later HX2.out) (HE.out.later HX2.out)).mono ?_
  rintro e u20c ⟨rfl, h2⟩
  have hy := Bt hx h2
  refine hJ _ _ h2 ?_
  clear hJ J hbe hx h2 HX2
  replace HA := HA.bl hy
  replace HX := HX.bl hy
  replace HB := zh (Bt HB.out hy)
  replace HK := zh (Bt HK.out hy)
  clear hy
  clear Z
  repeat (first | (apply wq_skip; (rfl); (rfl); (rfl); (intro J hJ; go_simp; (with_reducible refine hJ _ ?_); clear hJ J)) | (apply wq_pure; (rfl); (rfl); (intro J hJ; go_simp; (with_reducible refine hJ _ ?_); clear hJ J)) | (apply wq_load; (rfl); (rfl); (rfl); (rfl); (intro J hJ; go_simp; (with_reducible refine hJ _ ?_); clear hJ J; try go_simp)))
  refine wq_ext rfl rfl (fun we hbe J hJ => ?_)
  go_simp
  have hx : Below u20c.heap.size u20c we := belA
  have HX2 := zh (Bt HB.out hx)
  refine (is1_ok 1000000000000000000 1000000000000000000 a20 b20 _ (HA.out.later hx) (HX.out.later hx)).mono ?_
  rintro e u20d ⟨rfl, h2⟩
  have hy := Bt hx h2
  refine hJ _ _ h2 ?_
  clear hJ J hbe hx h2 HX2
  replace HB := zh (Bt HB.out hy)
  replace HK := zh (Bt HK.out hy)
  clear hy
  clear HA HX
  repeat (first | (apply wq_skip; (rfl); (rfl); (rfl); (intro J hJ; go_simp; (with_reducible refine hJ _ ?_); clear hJ J)) | (apply wq_pure; (rfl); (rfl); (intro J hJ; go_simp; (with_reducible refine hJ _ ?_); clear hJ J)) | (apply wq_load; (rfl); (rfl); (rfl); (rfl); (intro J hJ; go_simp; (with_reducible refine hJ _ ?_); clear hJ J; try go_simp)))
  refine wq_fin [_] rfl (fun wg hbf => ?_)
  have hy : Below u20d.heap.size u20d wg := belA
  replace HB := zh (Bt HB.out hy)
  clear hy hbf HK B hm8 hm9 hz8 hz9
  clear C12 C13 C14 C15 C16 C17 C18 C19 C20
  have P21 : power.exE Fr.no 0 0 = (Fr.no, 20) := by decide +kernel
  have C21 := zh (fun W h => power.Exact_ok Fr.no 0 0 W h)
  rw [P21] at C21
  clear P21
  simp only [Fr.v, res_mk, Fr.no] at C21
  have P22 : power.exE (ofF 1 1).1 0 1 = (Fr.no, 2) := by decide +kernel
  have C22 := zh (fun W h => power.Exact_ok (ofF 1 1).1 0 1 W h)
  rw [P22] at C22
  clear P22
  have Q22 := zh (fun W h => q_ok 1 1 zo zo zo zo W h)
  generalize (ofF 1 1).1 = x22 at *
  obtain ⟨s22, t22⟩ := x22
  simp only [Fr.v, res_mk, Fr.no] at C22 Q22
  have P23 : power.exE (ofF 1 1).1 1 13 = (Fr.no, 2) := by decide +kernel
  have C23 := zh (fun W h => power.Exact_ok (ofF 1 1).1 1 13 W h)
  rw [P23] at C23
  clear P23
  have Q23 := zh (fun W h => q_ok 1 1 zo zo zo zo W h)
  generalize (ofF 1 1).1 = x23 at *
  obtain ⟨s23, t23⟩ := x23
  simp only [Fr.v, res_mk, Fr.no] at C23 Q23
  have P24 : power.exE (ofF 1 1).1 36 12 = (⟨⟨#[49]⟩, ⟨#[49]⟩⟩, 0) := by decide +kernel
  have C24 := zh (fun W h => power.Exact_ok (ofF 1 1).1 36 12 W h)
  rw [P24] at C24
  clear P24
  have Q24 := zh (fun W h => q_ok 1 1 zo zo zo zo W h)
  generalize (ofF 1 1).1 = x24 at *
  obtain ⟨s24, t24⟩ := x24
  simp only [Fr.v, res_mk, Fr.no] at C24 Q24
  have P25 : power.exE (ofF 4 1).1 3 2 = (⟨⟨#[56]⟩, ⟨#[49]⟩⟩, 0) := by decide +kernel
  have C25 := zh (fun W h => power.Exact_ok (ofF 4 1).1 3 2 W h)
  rw [P25] at C25
  clear P25
  have Q25 := zh (fun W h => q_ok 4 1 zo zo zo zo W h)
  generalize (ofF 4 1).1 = x25 at *
  obtain ⟨s25, t25⟩ := x25
  simp only [Fr.v, res_mk, Fr.no] at C25 Q25
  have P26 : power.exE (ofF 4 3).1 1 2 = (Fr.no, 4) := by decide +kernel
  have C26 := zh (fun W h => power.Exact_ok (ofF 4 3).1 1 2 W h)
  rw [P26] at C26
  clear P26
  have Q26 := zh (fun W h => q_ok 4 3 zo zo zo zo W h)
  generalize (ofF 4 3).1 = x26 at *
  obtain ⟨s26, t26⟩ := x26
  simp only [Fr.v, res_mk, Fr.no] at C26 Q26
  have P27 : power.exE (ofF 3 4).1 1 2 = (Fr.no, 4) := by decide +kernel
  have C27 := zh (fun W h => power.Exact_ok (ofF 3 4).1 1 2 W h)
  rw [P27] at C27
  clear P27
  have Q27 := zh (fun W h => q_ok 3 4 zo zo zo zo W h)
  generalize (ofF 3 4).1 = x27 at *
  obtain ⟨s27, t27⟩ := x27
  simp only [Fr.v, res_mk, Fr.no] at C27 Q27
  have P28 : power.exE (ofF 4096 1).1 1 12 = (⟨⟨#[50]⟩, ⟨#[49]⟩⟩, 0) := by decide +kernel
  have C28 := zh (fun W h => power.Exact_ok (ofF 4096 1).1 1 12 W h)
  rw [P28] at C28
  clear P28
  have Q28 := zh (fun W h => q_ok 4096 1 zo zo zo zo W h)
  generalize (ofF 4096 1).1 = x28 at *
  obtain ⟨s28, t28⟩ := x28
  simp only [Fr.v, res_mk, Fr.no] at C28 Q28
  have P29 : power.exE (ofF 9 4).1 6 12 = (⟨⟨#[51]⟩, ⟨#[50]⟩⟩, 0) := by decide +kernel
  have C29 := zh (fun W h => power.Exact_ok (ofF 9 4).1 6 12 W h)
  rw [P29] at C29
  clear P29
  have Q29 := zh (fun W h => q_ok 9 4 zo zo zo zo W h)
  generalize (ofF 9 4).1 = x29 at *
  obtain ⟨s29, t29⟩ := x29
  simp only [Fr.v, res_mk, Fr.no] at C29 Q29
  go_wp2_with fail
  refine (none_ok 20 _).mono ?_
  rintro e u1 ⟨⟨v21, rfl, a21, rfl, ha⟩, h1⟩
  have HA := zh ha
  replace HB := zh (Bt HB.out h1)
  clear ha h1
  go_wp2_with fail
  refine (C21.out _ (HP.out.later HB.out)).mono ?_
  rintro e u2 ⟨rfl, h2⟩
  replace HA := HA.bl h2
  replace HB := zh (Bt HB.out h2)
  clear h2
  go_wp2_with fail
  refine (none1_ok 20 a21 _ HA.out).mono ?_
  rintro e u2 ⟨rfl, h2⟩
  replace HB := zh (Bt HB.out h2)
  clear h2 HA
  go_wp2_with fail
  refine (none_ok 2 _).mono ?_
  rintro e u1 ⟨⟨v22, rfl, a22, rfl, ha⟩, h1⟩
  have HA := zh ha
  replace HB := zh (Bt HB.out h1)
  clear ha h1
  go_wp2_with fail
  refine (Q22.out _ (HP.out.later HB.out)).mono ?_
  rintro e u2 ⟨rfl, h2⟩
  replace HA := HA.bl h2
  replace HB := zh (Bt HB.out h2)
  clear h2
  go_wp2_with fail
  refine (C22.out _ (HP.out.later HB.out)).mono ?_
  rintro e u2 ⟨rfl, h2⟩
  replace HA := HA.bl h2
  replace HB := zh (Bt HB.out h2)
  clear h2
  go_wp2_with fail
  refine (none1_ok 2 a22 _ HA.out).mono ?_
  rintro e u2 ⟨rfl, h2⟩
  replace HB := zh (Bt HB.out h2)
  clear h2 HA
  go_wp2_with fail
  refine (none_ok 2 _).mono ?_
  rintro e u1 ⟨⟨v23, rfl, a23, rfl, ha⟩, h1⟩
  have HA := zh ha
  replace HB := zh (Bt HB.out h1)
  clear ha h1
  go_wp2_with fail
  refine (Q23.out _ (HP.out.later HB.out)).mono ?_
  rintro e u2 ⟨rfl, h2⟩
  replace HA := HA.bl h2
  replace HB := zh (Bt HB.out h2)
  clear h2
  go_wp2_with fail
  refine (C23.out _ (HP.out.later HB.out)).mono ?_
  rintro e u2 ⟨rfl, h2⟩
  replace HA := HA.bl h2
  replace HB := zh (Bt HB.out h2)
  clear h2
  go_wp2_with fail
  refine (none1_ok 2 a23 _ HA.out).mono ?_
  rintro e u2 ⟨rfl, h2⟩
  replace HB := zh (Bt HB.out h2)
  clear h2 HA
  go_wp2_with fail
  refine (exact_ok ⟨#[49]⟩ ⟨#[49]⟩ _).mono ?_
  rintro e u1 ⟨⟨v24, rfl, a24, b24, rfl, ha, hb⟩, h1⟩
  have HA := zh ha
  have HX := zh hb
  replace HB := zh (Bt HB.out h1)
  clear ha h1 hb
  go_wp2_with fail
  refine (Q24.out _ (HP.out.later HB.out)).mono ?_
  rintro e u2 ⟨rfl, h2⟩
  replace HA := HA.bl h2
  replace HX := HX.bl h2
  replace HB := zh (Bt HB.out h2)
  clear h2
  go_wp2_with fail
  refine (C24.out _ (HP.out.later HB.out)).mono ?_
  rintro e u2 ⟨rfl, h2⟩
  replace HA := HA.bl h2
  replace HX := HX.bl h2
  replace HB := zh (Bt HB.out h2)
  clear h2
  go_wp2_with fail
  refine (exact1_ok ⟨#[49]⟩ ⟨#[49]⟩ a24 b24 _ HA.out HX.out).mono ?_
  rintro e u2 ⟨rfl, h2⟩
  replace HB := zh (Bt HB.out h2)
  clear h2 HA HX
  go_wp2_with fail
  refine (exact_ok ⟨#[56]⟩ ⟨#[49]⟩ _).mono ?_
  rintro e u1 ⟨⟨v25, rfl, a25, b25, rfl, ha, hb⟩, h1⟩
  have HA := zh ha
  have HX := zh hb
  replace HB := zh (Bt HB.out h1)
  clear ha h1 hb
  go_wp2_with fail
  refine (Q25.out _ (HP.out.later HB.out)).mono ?_
  rintro e u2 ⟨rfl, h2⟩
  replace HA := HA.bl h2
  replace HX := HX.bl h2
  replace HB := zh (Bt HB.out h2)
  clear h2
  go_wp2_with fail
  refine (C25.out _ (HP.out.later HB.out)).mono ?_
  rintro e u2 ⟨rfl, h2⟩
  replace HA := HA.bl h2
  replace HX := HX.bl h2
  replace HB := zh (Bt HB.out h2)
  clear h2
  go_wp2_with fail
  refine (exact1_ok ⟨#[56]⟩ ⟨#[49]⟩ a25 b25 _ HA.out HX.out).mono ?_
  rintro e u2 ⟨rfl, h2⟩
  replace HB := zh (Bt HB.out h2)
  clear h2 HA HX
  go_wp2_with fail
  refine (none_ok 4 _).mono ?_
  rintro e u1 ⟨⟨v26, rfl, a26, rfl, ha⟩, h1⟩
  have HA := zh ha
  replace HB := zh (Bt HB.out h1)
  clear ha h1
  go_wp2_with fail
  refine (Q26.out _ (HP.out.later HB.out)).mono ?_
  rintro e u2 ⟨rfl, h2⟩
  replace HA := HA.bl h2
  replace HB := zh (Bt HB.out h2)
  clear h2
  go_wp2_with fail
  refine (C26.out _ (HP.out.later HB.out)).mono ?_
  rintro e u2 ⟨rfl, h2⟩
  replace HA := HA.bl h2
  replace HB := zh (Bt HB.out h2)
  clear h2
  go_wp2_with fail
  refine (none1_ok 4 a26 _ HA.out).mono ?_
  rintro e u2 ⟨rfl, h2⟩
  replace HB := zh (Bt HB.out h2)
  clear h2 HA
  go_wp2_with fail
  refine (none_ok 4 _).mono ?_
  rintro e u1 ⟨⟨v27, rfl, a27, rfl, ha⟩, h1⟩
  have HA := zh ha
  replace HB := zh (Bt HB.out h1)
  clear ha h1
  go_wp2_with fail
  refine (Q27.out _ (HP.out.later HB.out)).mono ?_
  rintro e u2 ⟨rfl, h2⟩
  replace HA := HA.bl h2
  replace HB := zh (Bt HB.out h2)
  clear h2
  go_wp2_with fail
  refine (C27.out _ (HP.out.later HB.out)).mono ?_
  rintro e u2 ⟨rfl, h2⟩
  replace HA := HA.bl h2
  replace HB := zh (Bt HB.out h2)
  clear h2
  go_wp2_with fail
  refine (none1_ok 4 a27 _ HA.out).mono ?_
  rintro e u2 ⟨rfl, h2⟩
  replace HB := zh (Bt HB.out h2)
  clear h2 HA
  go_wp2_with fail
  refine (exact_ok ⟨#[50]⟩ ⟨#[49]⟩ _).mono ?_
  rintro e u1 ⟨⟨v28, rfl, a28, b28, rfl, ha, hb⟩, h1⟩
  have HA := zh ha
  have HX := zh hb
  replace HB := zh (Bt HB.out h1)
  clear ha h1 hb
  go_wp2_with fail
  refine (Q28.out _ (HP.out.later HB.out)).mono ?_
  rintro e u2 ⟨rfl, h2⟩
  replace HA := HA.bl h2
  replace HX := HX.bl h2
  replace HB := zh (Bt HB.out h2)
  clear h2
  go_wp2_with fail
  refine (C28.out _ (HP.out.later HB.out)).mono ?_
  rintro e u2 ⟨rfl, h2⟩
  replace HA := HA.bl h2
  replace HX := HX.bl h2
  replace HB := zh (Bt HB.out h2)
  clear h2
  go_wp2_with fail
  refine (exact1_ok ⟨#[50]⟩ ⟨#[49]⟩ a28 b28 _ HA.out HX.out).mono ?_
  rintro e u2 ⟨rfl, h2⟩
  replace HB := zh (Bt HB.out h2)
  clear h2 HA HX
  go_wp2_with fail
  refine (exact_ok ⟨#[51]⟩ ⟨#[50]⟩ _).mono ?_
  rintro e u1 ⟨⟨v29, rfl, a29, b29, rfl, ha, hb⟩, h1⟩
  have HA := zh ha
  have HX := zh hb
  replace HB := zh (Bt HB.out h1)
  clear ha h1 hb
  go_wp2_with fail
  refine (Q29.out _ (HP.out.later HB.out)).mono ?_
  rintro e u2 ⟨rfl, h2⟩
  replace HA := HA.bl h2
  replace HX := HX.bl h2
  replace HB := zh (Bt HB.out h2)
  clear h2
  go_wp2_with fail
  refine (C29.out _ (HP.out.later HB.out)).mono ?_
  rintro e u2 ⟨rfl, h2⟩
  replace HA := HA.bl h2
  replace HX := HX.bl h2
  replace HB := zh (Bt HB.out h2)
  clear h2
  go_wp2_with fail
  refine (exact1_ok ⟨#[51]⟩ ⟨#[50]⟩ a29 b29 _ HA.out HX.out).mono ?_
  rintro e u2 ⟨rfl, h2⟩
  replace HB := zh (Bt HB.out h2)
  clear h2 HA HX
  go_wp2_with fail
  refine (HW.out _ (HP.out.later HB.out) (HE.out.later HB.out)).mono ?_
  rintro e u ⟨rfl, h⟩
  replace HB := zh (Bt HB.out h)
  clear h
  go_wp2_with fail
  go_ret
  exact ⟨rfl, HB.out⟩
end Go.Proofs.verdigrislaw04
namespace Go.Proofs.YtpoecfpbafpokaaGreatDoor
open Go Go.ChangeShapes Go.WideShapes Go.ChangeAt Go.RowKit Go.Proofs
theorem own : ownKnob Tryz.prog.godebug = none := by kernel_rfl
theorem door_met (os : Os) (args : Array Value) : laidMetH Tryz.prog Rows.powerKnownRow.laid ((World.doorLaid Tryz.prog 4000 os).forCall (fun _ _ => 0) ⟨#[], args, []⟩).memory := by
  rw [MakeChecks.laidMetH_plain _ _ _ zk]
  exact laidMet_of_run' 8 zk zk
theorem powerKnown_lifted (os : Os) (started : os.Started) (H : Type) (enc : TypeId × Value → H) :
    ReturnsInHanded {} Tryz.checked os 7 .any (fun w args => (Rows.powerKnownSpec.pre enc Tryz.prog Tryz.f7 [] false w args ∧ laidMetH Tryz.prog Rows.powerKnownRow.laid w) ∧ sizedMet enc Tryz.prog Tryz.f7 (OpenSpec.ofChange Rows.powerKnownSpec) false w args)
      (Rows.powerKnownSpec.post enc Tryz.prog Tryz.f7 false true false false) := by
  refine returnsInHanded_of_change_and (C := Tryz.checked) (X := fun w _ => laidMetH Tryz.prog Rows.powerKnownRow.laid w) (fun _ _ _ hh h => h.of_heap hh) own started zk Tryz.func7
    (ChangeSpec.witness_shaped (enc := enc) (C := Tryz.checked) (os := os) (X := fun w _ => laidMetH Tryz.prog Rows.powerKnownRow.laid w) false (World.doorLaid Tryz.prog 4000 os) #[] 8 rfl (World.shaped_of_RefB zk zk) zk zk zk (door_met os _)) ?_
  intro W base args ds gs before hval0 hW _ _ hL _
  have hW' := hW
  obtain ⟨p, q, hA0, hV, rfl, hfz, hnd⟩ := hW
  have hA : DataW.TrodAll enc Tryz.prog W 0 (fun _ => true) true Tryz.f7.params.toList args.toList ds p := hA0
  rw [Tryz.params7] at hA
  obtain ⟨rfl, rfl, rfl⟩ := trodAll_none hA
  obtain ⟨rfl, rfl⟩ := trodVars_none hV
  obtain ⟨hp, hc⟩ := of_laid hL
  refine (verdigrislaw04.PowerKnown_ok W hp hc).mono fun e W' ⟨he, hb⟩ => ?_
  subst he
  refine ⟨_, rfl, [], [], _, [], [], [], hW', ?_, ?_, ?_, hb.frame _, fun h => by cases h⟩
  · exact trodAll_mk1 (shut_bool Tryz.underlying4 true)
  · exact rfl
  · rfl
theorem powerKnown_holds : Rows.PowerKnownSaid :=
  OpenClaim.holds_of_wide 7 Tryz.f7 rfl rfl rfl rfl rfl rfl rfl ⟨rfl, rfl, rfl, rfl, rfl⟩ rfl rfl rfl rfl rfl zk Tryz.func7 zk
    (of_decide_eq_true zk) (by unfold Func.isWrapper; first | (rw [if_pos (by decide +kernel)]; kernel_rfl) | (rw [if_neg (by decide +kernel)]; exact ⟨rfl, rfl⟩))
    (fun os started H enc _ => powerKnown_lifted os started H enc)
theorem powerKnown_card : Rows.PowerKnownCardSaid :=
  Claim7.holds_tied_plain_at .later [] [.data, .data, .data, .sentinel, .sentinel] true (true, "bc1bf536eb06bf18bc4c231e9aa64150270bda42f4b23e044d7bfc9ab11b0e23") true
    powerKnown_holds (fun _ h => by cases h) zk (fun _ h => by cases h) powerKnown_row_tie rfl ⟨rfl, rfl⟩ zk rfl
    (fun f fn hf hfn => by
      obtain rfl : f = 7 := Option.some.inj ((show Tryz.prog.funcNamed "verdigris/verdigrislaw04.PowerKnown" = some 7 by kernel_rfl).symm.trans hf) |>.symm
      obtain rfl : fn = Tryz.f7 := (Option.some.inj (Tryz.func7.symm.trans hfn)).symm
      exact ⟨by kernel_rfl, fun j t ht => by
        rw [Tryz.params7] at ht
        simp at ht⟩)
    zk
end Go.Proofs.YtpoecfpbafpokaaGreatDoor
