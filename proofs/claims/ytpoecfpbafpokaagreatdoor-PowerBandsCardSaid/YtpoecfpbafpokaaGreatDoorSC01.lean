/- verdigrislaw04.PowerBands returns true. Conditions: those of the given row. -/
import Derived.Test.YtpoecfpbafpokaaGreatDoorSB01
import Derived.Test.YtpoecfpbafpokaaGreatDoorSB02
import Derived.Test.YtpoecfpbafpokaaGreatDoorSB05
import Derived.Test.YtpoecfpbafpokaaGreatDoorSB08
import Derived.Test.YtpoecfpbafpokaaGreatDoorSB11
import Derived.Test.YtpoecfpbafpokaaGreatDoorCards
import Derived.Test.YtpoecfpbafpokaaGreatDoorTie
import Derived.ChangeSame
import Derived.ChangeVars
import Derived.JoinedOf
import Derived.SevenTiedAt
set_option linter.unusedVariables false
set_option linter.unusedSimpArgs false
set_option maxRecDepth 100000
set_option maxHeartbeats 16000000
namespace Go.Proofs.verdigrislaw04
open Go Go.RowKit Go.SW Go.Num Go.Mem Go.Proofs Go.Proofs.band
theorem tmod_bounds {z : Int} {m : Nat} (hm : 0 < m) : -(m : Int) < Int.tmod z m ∧ Int.tmod z m < m := by
  have h1 := Int.natAbs_tmod z m
  have h2 := Nat.mod_lt z.natAbs hm
  simp only [Int.natAbs_natCast] at h1
  omega
theorem Unit_ok (at' wide : Int) (w0 : 0 ≤ wide) (w1 : wide ≤ 4294967295) (w : World) :
    Calls Tryz.prog 14 #[.agg #[.int .i64 at', .int .u32 wide]] w (fun e w' => (∃ lo hi : Int, e = .returned (.agg #[.int .i64 lo, .int .i64 hi]) ∧ 0 ≤ lo ∧ lo ≤ hi ∧ hi ≤ 1000000000000) ∧ Below w.heap.size w w') := by
  obtain ⟨b1, b2⟩ := tmod_bounds (z := at') (m := 1000000000001) zo
  generalize hm : Int.tmod at' 1000000000001 = m at *
  go_enter Tryz.func14, Tryz.ntmps14
  go_wp2_with fail
  all_goals
    refine ret_c rfl rfl boxA Tryz.underlying23 rfl zk ?_
    exact ⟨⟨_, _, rfl, by omega, by omega, by omega⟩, belA⟩
theorem Small_ok (at' wide : Int) (w0 : 0 ≤ wide) (w1 : wide ≤ 4294967295) (w : World) :
    Calls Tryz.prog 13 #[.agg #[.int .i64 at', .int .u32 wide]] w (fun e w' => (∃ lo hi : Int, e = .returned (.agg #[.int .i64 lo, .int .i64 hi]) ∧ -19000000000000 < lo ∧ lo ≤ hi ∧ hi ≤ 19000001000000) ∧ Below w.heap.size w w') := by
  obtain ⟨b1, b2⟩ := tmod_bounds (z := at') (m := 19000000000000) zo
  generalize hm : Int.tmod at' 19000000000000 = m at *
  go_enter Tryz.func13, Tryz.ntmps13
  go_wp2_with fail
  all_goals
    refine ret_c rfl rfl boxA Tryz.underlying23 rfl zk ?_
    exact ⟨⟨_, _, rfl, by omega, by omega, by omega⟩, belA⟩
theorem Band_ok (at' wide : Int) (w0 : 0 ≤ wide) (w1 : wide ≤ 4294967295) (w : World) :
    Calls Tryz.prog 12 #[.agg #[.int .i64 at', .int .u32 wide]] w (fun e w' => (∃ lo hi : Int, e = .returned (.agg #[.int .i64 lo, .int .i64 hi]) ∧ -1000000000000000000 ≤ lo ∧ lo ≤ hi ∧ hi ≤ 1000000000000000000) ∧ Below w.heap.size w w') := by
  obtain ⟨b1, b2⟩ := tmod_bounds (z := at') (m := 1000000000000000001) zo
  generalize hm : Int.tmod at' 1000000000000000001 = m at *
  go_enter Tryz.func12, Tryz.ntmps12
  go_wp2_with fail
  all_goals
    refine ret_c rfl rfl boxA Tryz.underlying23 rfl zk ?_
    exact ⟨⟨_, _, rfl, by omega, by omega, by omega⟩, belA⟩
theorem inside_ok (a b c d : Int) (w : World) (h1 : c ≤ a) (h2 : b ≤ d) : Calls Tryz.prog 28 #[.agg #[.int .i64 a, .int .i64 b], .agg #[.int .i64 c, .int .i64 d]] w (fun e w' => e = .returned (.bool true) ∧ Below w.heap.size w w') := by
  have g1 : decide (c ≤ a) = true := decide_eq_true h1
  have g2 : decide (b ≤ d) = true := decide_eq_true h2
  go_enter Tryz.func28, Tryz.ntmps28
  go_wp2_with fail
  go_ret
  exact ⟨rfl, belA⟩
theorem eql_band {ρ : Operand → Value} {o : Oper} {A B : Operand} {x y : Int} (hop : o.op = .binOp .eql 23 A B 23) (h1 : ρ A = .agg #[.int .i64 x, .int .i64 y]) (h2 : ρ B = .agg #[.int .i64 x, .int .i64 y]) (w : World) :
    (execOp ρ o).run Tryz.prog w = .ok (.value (.bool true)) w := by
  simp only [execOp, hop, h1, h2]
  go_simp
end Go.Proofs.verdigrislaw04
namespace Go.Proofs.verdigrisref04
open Go Go.RowKit Go.SW Go.Num Go.Mem Go.Proofs Go.Dec Go.Fra Go.Proofs.band Go.Proofs.verdigrisref02 Go.Proofs.verdigrisref03 Go.Proofs.power
theorem pow_szq {n p : Nat} (h : n ≤ 10 ^ 18) (hp : p ≤ 36) : szq 108 (rN n ^ p) := by
  obtain ⟨h1, h2⟩ := rN_parts n
  have e1 : (rN n ^ p).num = ((n / n.gcd 1000000000000 : Nat) : Int) ^ p := by rw [Rat.num_pow, h1]
  have e2 : (rN n ^ p).den = (1000000000000 / n.gcd 1000000000000) ^ p := by rw [Rat.den_pow, h2]
  unfold szq
  rw [e1, e2, ← Int.natCast_pow, Int.natAbs_natCast]
  have a : n / n.gcd 1000000000000 ≤ 10 ^ 18 := Nat.le_trans (Nat.div_le_self _ _) h
  have b : 1000000000000 / n.gcd 1000000000000 ≤ 10 ^ 18 := Nat.le_trans (Nat.div_le_self _ _) (by decide +kernel)
  have c : ∀ x, x ≤ 10 ^ 18 → sz 1000000000 (x ^ p) ≤ 108 := fun x hx => by
    have c1 : x ^ p ≤ (10 ^ 18) ^ 36 := Nat.le_trans (Nat.pow_le_pow_left hx p) (Nat.pow_le_pow_right zd hp)
    exact sz_le_of_lt zo _ _ (Nat.lt_of_le_of_lt c1 (by decide +kernel))
  exact ⟨c _ a, c _ b⟩
theorem cmpN_le (n a m b : Nat) : cmpN n a m b ≤ 0 ↔ n ^ a * 10 ^ (12 * b) ≤ m ^ b * 10 ^ (12 * a) := by
  unfold cmpN
  generalize n ^ a * 10 ^ (12 * b) = x
  generalize m ^ b * 10 ^ (12 * a) = y
  split
  · omega
  · split <;> omega
theorem cmpN_lt (n a m b : Nat) : cmpN n a m b < 0 ↔ n ^ a * 10 ^ (12 * b) < m ^ b * 10 ^ (12 * a) := by
  unfold cmpN
  generalize n ^ a * 10 ^ (12 * b) = x
  generalize m ^ b * 10 ^ (12 * a) = y
  split
  · omega
  · split <;> omega
theorem seek_pow {n p q : Nat} (h : n ≤ 10 ^ 18) (hp : p ≤ 36) (q1 : 1 ≤ q) (q12 : q ≤ 12) : Seek (rN n ^ p) q (plo n p q) where
  q12 := q12
  big := (pow_szq h hp).mono zo
  iff := fun m => by rw [cmpN_eq, cmpN_le, lo_iff zo]
theorem upN_pow {n p q : Nat} (q1 : 1 ≤ q) (h : plo n p q ≤ 1000000000000000001) : upN (rN n ^ p) q (plo n p q) = phi n p q := by
  unfold upN phi
  rw [Nat.min_eq_left h, cmpN_eq]
  have h1 := (plo_spec (q := q) zo n p).1
  cases hx : pex n p q
  · unfold pex at hx
    have hx := of_decide_eq_false hx
    rw [if_pos ((cmpN_lt _ _ _ _).2 zo)]
    rfl
  · unfold pex at hx
    have hx := of_decide_eq_true hx
    rw [if_neg (fun k => by have := (cmpN_lt _ _ _ _).1 k; omega)]
    rfl
theorem upN_ge {X : Rat} {q r : Nat} : min r 1000000000000000001 ≤ upN X q r := by
  unfold upN
  split <;> omega
theorem bok_no {a b : Nat} (h : 1000000000000000000 < a ∨ 1000000000000000000 < b) : bok (a : Int) (b : Int) = false := by
  unfold bok
  rw [Bool.and_eq_false_iff]
  right
  rw [Bool.and_eq_false_iff]
  by_cases h2 : b ≤ 1000000000000000000
  · left
    exact decide_eq_false zo
  · right
    exact decide_eq_false zo
theorem made_eq {a b p q : Nat} (q1 : 1 ≤ q) : madeE ((min (plo a p q) 1000000000000000001 : Nat) : Int) ((upN (rN b ^ p) q (plo b p q) : Nat) : Int) = outE (endV a p q false) (endV b p q true) := by
  unfold outE endV
  have t : (10 : Nat) ^ 18 = 1000000000000000000 := by decide
  rw [t]
  unfold madeE
  by_cases h1 : plo a p q ≤ 1000000000000000000
  · by_cases h2 : plo b p q ≤ 1000000000000000000
    · rw [if_pos h1, if_pos h2, Nat.min_eq_left zo, upN_pow q1 zo]
      simp
    · rw [bok_no (.inr (Nat.lt_of_lt_of_le zo upN_ge)), if_pos h1, if_neg h2]
      simp
  · rw [bok_no (.inl zo), if_neg h1]
    simp
theorem Power_ok (lo hi p q : Int) (w : World) : Calls Tryz.prog 16 #[.agg #[.int .i64 lo, .int .i64 hi], .int .i64 p, .int .i64 q] w (fun e w' => e = .returned (bndV (pwE lo hi p q)) ∧ Below w.heap.size w w') := by
  have HR := zh (fun W => Right_ok lo hi W)
  have HE := zh (fun W => right_ok p q W)
  obtain ⟨z, hz0⟩ : ∃ z, pwE lo hi p q = z := ⟨_, rfl⟩
  rw [hz0]
  unfold pwE at hz0
  have HZ := zh hz0
  clear hz0
  obtain ⟨⟨z1, z2⟩, z3⟩ := z
  unfold bndV
  have HB : bok lo hi = true → -1000000000000000000 ≤ lo ∧ lo ≤ hi ∧ hi ≤ 1000000000000000000 := fun h => by simpa [bok] using h
  have HQ : eok p q = true → 1 ≤ p ∧ p ≤ 36 ∧ 1 ≤ q ∧ q ≤ 12 := fun h => by simpa [eok] using h
  have HB := zh HB
  have HQ := zh HQ
  generalize bok lo hi = b1 at *
  generalize eok p q = b2 at *
  go_enter Tryz.func16, Tryz.ntmps16
  go_wp2_with fail
  obtain ⟨wx, EW, hz, X1, X2⟩ := al2 w #[.int .i64 lo, .int .i64 hi] 23 #[.int .i64 0, .int .i64 0] 23
  rw [EW]
  clear EW
  refine (HR.out _).mono ?_
  rintro e w1 ⟨rfl, hb1⟩
  replace X1 := X1.bl hb1
  replace X2 := X2.bl hb1
  replace hz := Bt hz hb1
  clear hb1 HR
  obtain ⟨c1, l1⟩ := X1.cl
  obtain ⟨c2, l2, f2⟩ := X2.clf
  have x2 := X2.out
  cases b1
  · have e := HZ.out
    simp at e
    obtain ⟨⟨rfl, rfl⟩, rfl⟩ := e
    go_wp2_with fail
    refine ret_ct rfl rfl boxA Tryz.underlying23 rfl zk ?_
    exact ⟨rfl, belA⟩
  · go_wp2_with fail
    refine (HE.out _).mono ?_
    rintro e w2 ⟨rfl, hb2⟩
    clear c1 l1 c2 l2 f2 x2
    replace X1 := X1.bl hb2
    replace X2 := X2.bl hb2
    replace hz := Bt hz hb2
    clear hb2 HE
    obtain ⟨c1, l1⟩ := X1.cl
    obtain ⟨c2, l2, f2⟩ := X2.clf
    have x2 := X2.out
    cases b2
    · have e := HZ.out
      simp at e
      obtain ⟨⟨rfl, rfl⟩, rfl⟩ := e
      go_wp2_with fail
      refine ret_ct rfl rfl boxA Tryz.underlying23 rfl zk ?_
      exact ⟨rfl, belA⟩
    · obtain ⟨p1, p36, q1, q12⟩ := HQ.out (by first | rfl | trivial)
      by_cases hn : lo < 0
      · have e := HZ.out
        simp [hn] at e
        obtain ⟨⟨rfl, rfl⟩, rfl⟩ := e
        go_wp2_with fail
        refine ret_ct rfl rfl boxA Tryz.underlying23 rfl zk ?_
        exact ⟨rfl, belA⟩
      · obtain ⟨k1, k2, k3⟩ := HB.out (by first | rfl | trivial)
        obtain ⟨a, rfl⟩ : ∃ a : Nat, lo = (a : Int) := ⟨lo.toNat, by omega⟩
        obtain ⟨b, rfl⟩ : ∃ b : Nat, hi = (b : Int) := ⟨hi.toNat, by omega⟩
        obtain ⟨p, rfl⟩ : ∃ a : Nat, p = (a : Int) := ⟨p.toNat, by omega⟩
        obtain ⟨q, rfl⟩ : ∃ a : Nat, q = (a : Int) := ⟨q.toNat, by omega⟩
        have ha : a ≤ 10 ^ 18 := by omega
        have hb : b ≤ 10 ^ 18 := by omega
        have hp : p ≤ 36 := by omega
        have hq1 : 1 ≤ q := by omega
        have hq12 : q ≤ 12 := by omega
        have SA := zh (seek_pow (n := a) (p := p) (q := q) ha hp hq1 hq12)
        have SB := zh (seek_pow (n := b) (p := p) (q := q) hb hp hq1 hq12)
        have HM := zh (made_eq (a := a) (b := b) (p := p) (q := q) hq1)
        have e := HZ.out
        simp only [Bool.true_eq_false, if_false, Int.toNat_natCast, hn, false_or, or_self] at e
        rw [← HM.out] at e
        have HE := zh e
        have HAB := zh (And.intro ha (And.intro hb hp))
        clear e HM HZ HB HQ k1 k2 k3 p1 p36 q1 q12 ha hb hp hq1 hq12
        go_wp2_with fail
        refine wp_region_walk [(.pure, 0), (.read, 1), (.pure, 3), (.pure, 5), (.pure, 7), (.read, 8), (.pure, 10), (.pure, 12), (.ext, 2), (.ext, 4), (.ext, 6), (.ext, 9), (.ext, 11), (.ext, 13), (.ext, 14), (.pure, 15), (.pure, 16), (.fin, 17), (.fin, 18)] zk zk zR zP ?_
        refine Wk.out ?_
        repeat (first | (apply wk_skip; (rfl); (rfl); (rfl); (intro J hJ; go_simp; (with_reducible refine hJ _ ?_); clear hJ J)) | (apply wk_len; (rfl); (rfl); (rfl); (rfl); (exact zk); (intro J hJ; go_simp; (with_reducible refine hJ _ ?_); clear hJ J)) | (apply wk_pure; (rfl); (rfl); (intro J hJ; go_simp; (with_reducible refine hJ _ ?_); clear hJ J)) | (apply wk_load; (rfl); (rfl); (rfl); (rfl); (intro J hJ; go_simp; (with_reducible refine hJ _ ?_); clear hJ J; try go_simp)))
        refine wk_ext rfl rfl (fun wa1 ha1 J hJ => ?_)
        have hs1 : Below w2.heap.size w2 wa1 := (by first | exact ha1 | exact belA)
        have hx1 : Below w2.heap.size w2 wa1 := hs1
        go_simp
        refine (Value_ok a (by have := HAB.out; omega) wa1).mono ?_
        rintro e wb1 ⟨v, rfl, hb1, hv⟩
        refine hJ _ _ hb1 ?_
        have hy1 := Bt hx1 hb1
        obtain ⟨bV1, pV1, nV1, eV1, dV1, qV1, mV1, fV1, rfl, -⟩ := id hv; have V1 := zh hv; clear hv
        clear hJ J ha1 hb1 hs1 hx1
        repeat (first | (apply wk_skip; (rfl); (rfl); (rfl); (intro J hJ; go_simp; (with_reducible refine hJ _ ?_); clear hJ J)) | (apply wk_len; (rfl); (rfl); (rfl); (rfl); (exact zk); (intro J hJ; go_simp; (with_reducible refine hJ _ ?_); clear hJ J)) | (apply wk_pure; (rfl); (rfl); (intro J hJ; go_simp; (with_reducible refine hJ _ ?_); clear hJ J)) | (apply wk_load; (rfl); (rfl); (rfl); (rfl); (intro J hJ; go_simp; (with_reducible refine hJ _ ?_); clear hJ J; try go_simp)))
        refine wk_ext rfl rfl (fun wa2 ha2 J hJ => ?_)
        have hs2 : Below wb1.heap.size wb1 wa2 := (by first | exact ha2 | exact belA)
        have hx2 : Below w2.heap.size w2 wa2 := Bt hy1 hs2
        go_simp
        refine (rN_raised a p (by have := HAB.out; omega) HAB.out.2.2 _ wa2 (V1.out.later hs2)).mono ?_
        rintro e wb2 ⟨v, rfl, hb2, hv⟩
        refine hJ _ _ hb2 ?_
        have hy2 := Bt hx2 hb2
        clear V1; obtain ⟨bV2, pV2, nV2, eV2, dV2, qV2, mV2, fV2, rfl, -⟩ := id hv; have V2 := zh hv; clear hv
        clear hJ J ha2 hb2 hs2 hx2 hy1
        repeat (first | (apply wk_skip; (rfl); (rfl); (rfl); (intro J hJ; go_simp; (with_reducible refine hJ _ ?_); clear hJ J)) | (apply wk_len; (rfl); (rfl); (rfl); (rfl); (exact zk); (intro J hJ; go_simp; (with_reducible refine hJ _ ?_); clear hJ J)) | (apply wk_pure; (rfl); (rfl); (intro J hJ; go_simp; (with_reducible refine hJ _ ?_); clear hJ J)) | (apply wk_load; (rfl); (rfl); (rfl); (rfl); (intro J hJ; go_simp; (with_reducible refine hJ _ ?_); clear hJ J; try go_simp)))
        refine wk_ext rfl rfl (fun wa3 ha3 J hJ => ?_)
        have hs3 : Below wb2.heap.size wb2 wa3 := (by first | exact ha3 | exact belA)
        have hx3 : Below w2.heap.size w2 wa3 := Bt hy2 hs3
        go_simp
        refine (down_ok _ _ q _ wa3 (V2.out.later hs3) SA.out).mono ?_
        rintro e wb3 ⟨rfl, hb3⟩
        refine hJ _ _ hb3 ?_
        have hy3 := Bt hx3 hb3
        clear V2
        clear hJ J ha3 hb3 hs3 hx3 hy2
        repeat (first | (apply wk_skip; (rfl); (rfl); (rfl); (intro J hJ; go_simp; (with_reducible refine hJ _ ?_); clear hJ J)) | (apply wk_len; (rfl); (rfl); (rfl); (rfl); (exact zk); (intro J hJ; go_simp; (with_reducible refine hJ _ ?_); clear hJ J)) | (apply wk_pure; (rfl); (rfl); (intro J hJ; go_simp; (with_reducible refine hJ _ ?_); clear hJ J)) | (apply wk_load; (rfl); (rfl); (rfl); (rfl); (intro J hJ; go_simp; (with_reducible refine hJ _ ?_); clear hJ J; try go_simp)))
        refine wk_ext rfl rfl (fun wa4 ha4 J hJ => ?_)
        have hs4 : Below wb3.heap.size wb3 wa4 := (by first | exact ha4 | exact belA)
        have hx4 : Below w2.heap.size w2 wa4 := Bt hy3 hs4
        go_simp
        refine (Value_ok b (by have := HAB.out; omega) wa4).mono ?_
        rintro e wb4 ⟨v, rfl, hb4, hv⟩
        refine hJ _ _ hb4 ?_
        have hy4 := Bt hx4 hb4
        obtain ⟨bV4, pV4, nV4, eV4, dV4, qV4, mV4, fV4, rfl, -⟩ := id hv; have V4 := zh hv; clear hv
        clear hJ J ha4 hb4 hs4 hx4 hy3
        repeat (first | (apply wk_skip; (rfl); (rfl); (rfl); (intro J hJ; go_simp; (with_reducible refine hJ _ ?_); clear hJ J)) | (apply wk_len; (rfl); (rfl); (rfl); (rfl); (exact zk); (intro J hJ; go_simp; (with_reducible refine hJ _ ?_); clear hJ J)) | (apply wk_pure; (rfl); (rfl); (intro J hJ; go_simp; (with_reducible refine hJ _ ?_); clear hJ J)) | (apply wk_load; (rfl); (rfl); (rfl); (rfl); (intro J hJ; go_simp; (with_reducible refine hJ _ ?_); clear hJ J; try go_simp)))
        refine wk_ext rfl rfl (fun wa5 ha5 J hJ => ?_)
        have hs5 : Below wb4.heap.size wb4 wa5 := (by first | exact ha5 | exact belA)
        have hx5 : Below w2.heap.size w2 wa5 := Bt hy4 hs5
        go_simp
        refine (rN_raised b p (by have := HAB.out; omega) HAB.out.2.2 _ wa5 (V4.out.later hs5)).mono ?_
        rintro e wb5 ⟨v, rfl, hb5, hv⟩
        refine hJ _ _ hb5 ?_
        have hy5 := Bt hx5 hb5
        clear V4; obtain ⟨bV5, pV5, nV5, eV5, dV5, qV5, mV5, fV5, rfl, -⟩ := id hv; have V5 := zh hv; clear hv
        clear hJ J ha5 hb5 hs5 hx5 hy4
        repeat (first | (apply wk_skip; (rfl); (rfl); (rfl); (intro J hJ; go_simp; (with_reducible refine hJ _ ?_); clear hJ J)) | (apply wk_len; (rfl); (rfl); (rfl); (rfl); (exact zk); (intro J hJ; go_simp; (with_reducible refine hJ _ ?_); clear hJ J)) | (apply wk_pure; (rfl); (rfl); (intro J hJ; go_simp; (with_reducible refine hJ _ ?_); clear hJ J)) | (apply wk_load; (rfl); (rfl); (rfl); (rfl); (intro J hJ; go_simp; (with_reducible refine hJ _ ?_); clear hJ J; try go_simp)))
        refine wk_ext rfl rfl (fun wa6 ha6 J hJ => ?_)
        have hs6 : Below wb5.heap.size wb5 wa6 := (by first | exact ha6 | exact belA)
        have hx6 : Below w2.heap.size w2 wa6 := Bt hy5 hs6
        go_simp
        refine (up_ok _ _ q _ wa6 (V5.out.later hs6) SB.out).mono ?_
        rintro e wb6 ⟨rfl, hb6⟩
        refine hJ _ _ hb6 ?_
        have hy6 := Bt hx6 hb6
        clear V5
        clear hJ J ha6 hb6 hs6 hx6 hy5
        generalize (min (plo a p q) 1000000000000000001) = ra at *
        generalize upN (rN b ^ p) q (plo b p q) = rb at *
        have HMD := zh (fun W => made_ok (ra : Int) (rb : Int) W)
        rw [HE.out] at HMD
        clear c1 l1 c2 l2 f2 x2
        repeat (first | (apply wk_skip; (rfl); (rfl); (rfl); (intro J hJ; go_simp; (with_reducible refine hJ _ ?_); clear hJ J)) | (apply wk_len; (rfl); (rfl); (rfl); (rfl); (exact zk); (intro J hJ; go_simp; (with_reducible refine hJ _ ?_); clear hJ J)) | (apply wk_pure; (rfl); (rfl); (intro J hJ; go_simp; (with_reducible refine hJ _ ?_); clear hJ J)) | (apply wk_load; (rfl); (rfl); (rfl); (rfl); (intro J hJ; go_simp; (with_reducible refine hJ _ ?_); clear hJ J; try go_simp)))
        refine wk_ext rfl rfl (fun wa7 ha7 J hJ => ?_)
        have hs7 : Below wb6.heap.size wb6 wa7 := (by first | exact ha7 | exact belA)
        have hx7 : Below w2.heap.size w2 wa7 := Bt hy6 hs7
        go_simp
        refine (HMD.out wa7).mono ?_
        rintro e wb7 ⟨rfl, hb7⟩
        refine hJ _ _ hb7 ?_
        have hy7 := Bt hx7 hb7
        skip
        clear hJ J ha7 hb7 hs7 hx7 hy6
        replace X2 := X2.bl hy7
        replace hz := Bt hz hy7
        unfold bndV
        obtain ⟨c2, l2, f2⟩ := X2.clf
        repeat (first | (apply wk_skip; (rfl); (rfl); (rfl); (intro J hJ; go_simp; (with_reducible refine hJ _ ?_); clear hJ J)) | (apply wk_len; (rfl); (rfl); (rfl); (rfl); (exact zk); (intro J hJ; go_simp; (with_reducible refine hJ _ ?_); clear hJ J)) | (apply wk_pure; (rfl); (rfl); (intro J hJ; go_simp; (with_reducible refine hJ _ ?_); clear hJ J)) | (apply wk_load; (rfl); (rfl); (rfl); (rfl); (intro J hJ; go_simp; (with_reducible refine hJ _ ?_); clear hJ J; try go_simp)))
        refine wk_fin [_, _] rfl (fun wf hbf => ?_)
        replace X2 := X2.bl hbf
        replace hz := Bt hz hbf
        clear hbf hy7 c2 l2 f2
        obtain ⟨c2, l2, f2⟩ := X2.clf
        have x2 := X2.out
        go_wp2_with fail
        refine ret_ct rfl rfl boxA Tryz.underlying23 rfl zk ?_
        exact ⟨rfl, belA⟩
theorem Root_ok (lo hi q : Int) (w : World) : Calls Tryz.prog 18 #[.agg #[.int .i64 lo, .int .i64 hi], .int .i64 q] w (fun e w' => e = .returned (bndV (pwE lo hi 1 q)) ∧ Below w.heap.size w w') := by
  have H := zh (fun W => Power_ok lo hi 1 q W)
  generalize pwE lo hi 1 q = z at *
  obtain ⟨⟨z1, z2⟩, z3⟩ := z
  unfold bndV at *
  simp only at *
  go_enter Tryz.func18, Tryz.ntmps18
  go_wp2_with fail
  obtain ⟨wx, EW, hz, X1, X2⟩ := al2 w #[.int .i64 lo, .int .i64 hi] 23 #[.int .i64 0, .int .i64 0] 23
  rw [EW]
  clear EW
  refine (H.out _).mono ?_
  rintro e w1 ⟨rfl, hb1⟩
  replace X2 := X2.bl hb1
  replace hz := Bt hz hb1
  clear hb1 H X1
  obtain ⟨c2, l2, f2⟩ := X2.clf
  have x2 := X2.out
  go_wp2_with fail
  refine ret_ct rfl rfl boxA Tryz.underlying23 rfl zk ?_
  exact ⟨rfl, belA⟩
end Go.Proofs.verdigrisref04
namespace Go.Proofs.verdigrislaw04
open Go Go.RowKit Go.SW Go.Num Go.Mem Go.Proofs Go.Dec Go.Fra Go.Proofs.band
theorem both (lo hi p q : Int) : ∃ z1 z2 z3 : Int, (∀ W, Bld.Pow W → whole.Er W → Calls Tryz.prog 15 #[.agg #[.int .i64 lo, .int .i64 hi], .int .i64 p, .int .i64 q] W (fun e w' => e = .returned (.tuple #[.agg #[.int .i64 z1, .int .i64 z2], .int .i64 z3]) ∧ Below W.heap.size W w')) ∧
    ∀ W, Calls Tryz.prog 16 #[.agg #[.int .i64 lo, .int .i64 hi], .int .i64 p, .int .i64 q] W (fun e w' => e = .returned (.tuple #[.agg #[.int .i64 z1, .int .i64 z2], .int .i64 z3]) ∧ Below W.heap.size W w') :=
  ⟨_, _, _, fun W h1 h2 => power.Power_ok lo hi p q W h1 h2, fun W => verdigrisref04.Power_ok lo hi p q W⟩
theorem bothR (lo hi q : Int) : ∃ z1 z2 z3 : Int, (∀ W, Bld.Pow W → whole.Er W → Calls Tryz.prog 17 #[.agg #[.int .i64 lo, .int .i64 hi], .int .i64 q] W (fun e w' => e = .returned (.tuple #[.agg #[.int .i64 z1, .int .i64 z2], .int .i64 z3]) ∧ Below W.heap.size W w')) ∧
    ∀ W, Calls Tryz.prog 18 #[.agg #[.int .i64 lo, .int .i64 hi], .int .i64 q] W (fun e w' => e = .returned (.tuple #[.agg #[.int .i64 z1, .int .i64 z2], .int .i64 z3]) ∧ Below W.heap.size W w') :=
  ⟨_, _, _, fun W h1 h2 => power.Root_ok lo hi q W h1 h2, fun W => verdigrisref04.Root_ok lo hi q W⟩
theorem PowerBands_ok (lo hi at' wide p q : Int) (w0 : 0 ≤ wide) (w1 : wide ≤ 4294967295) (p0 : -9223372036854775808 ≤ p) (p1 : p ≤ 9223372036854775807) (q0 : -9223372036854775808 ≤ q) (q1 : q ≤ 9223372036854775807) (w : World) (ht : Bld.Pow w) (he : whole.Er w) :
    Calls Tryz.prog 3 #[.agg #[.int .i64 lo, .int .i64 hi], .agg #[.int .i64 at', .int .u32 wide], .int .i64 p, .int .i64 q] w (fun e w' => e = .returned (.bool true) ∧ Below w.heap.size w w') := by
  have HP := zh ht
  have HE := zh he
  have HW := zh (fun W h1 h2 => works_ok W h1 h2)
  have H12 := zh (fun W => Band_ok at' wide w0 w1 W)
  have H13 := zh (fun W => Small_ok at' wide w0 w1 W)
  have H14 := zh (fun W => Unit_ok at' wide w0 w1 W)
  clear ht he
  go_enter Tryz.func3, Tryz.ntmps3
  go_wp2_with fail
  obtain ⟨wx, EW, hz, X4, X5⟩ := al2 w #[.int .i64 lo, .int .i64 hi] 23 #[.int .i64 at', .int .u32 wide] 26
  rw [EW]
  clear EW
  refine (HW.out _ (HP.out.later hz) (HE.out.later hz)).mono ?_
  rintro e w1 ⟨rfl, hb1⟩
  replace X4 := X4.bl hb1
  replace X5 := X5.bl hb1
  replace hz := Bt hz hb1
  clear hb1 HW
  obtain ⟨c4, l4⟩ := X4.cl
  obtain ⟨c5, l5⟩ := X5.cl
  go_wp2_with fail
  refine wp_region_walk [(.read, 0), (.read, 1), (.read, 3), (.read, 5), (.pure, 8), (.ext, 2), (.ext, 4), (.ext, 6), (.pure, 7)] zk zk zR zP ?_
  refine Wk.out ?_
  repeat (first | (apply wk_skip; (rfl); (rfl); (rfl); (intro J hJ; go_simp; (with_reducible refine hJ _ ?_); clear hJ J)) | (apply wk_len; (rfl); (rfl); (rfl); (rfl); (exact zk); (intro J hJ; go_simp; (with_reducible refine hJ _ ?_); clear hJ J)) | (apply wk_pure; (rfl); (rfl); (intro J hJ; go_simp; (with_reducible refine hJ _ ?_); clear hJ J)) | (apply wk_load; (rfl); (rfl); (rfl); (rfl); (intro J hJ; go_simp; (with_reducible refine hJ _ ?_); clear hJ J; try go_simp)))
  refine wk_ext rfl rfl (fun wa1 ha1 J hJ => ?_)
  have hs1 : Below w1.heap.size w1 wa1 := (by first | exact ha1 | exact belA)
  have hx1 : Below w1.heap.size w1 wa1 := hs1
  go_simp
  refine (H12.out wa1).mono ?_
  rintro e wb1 ⟨⟨lo1, hi1, rfl, -⟩, hb1⟩
  refine hJ _ _ hb1 ?_
  have hy1 := Bt hx1 hb1
  skip
  clear hJ J ha1 hb1 hs1 hx1
  replace c5 := (X5.bl hy1).cl.1
  repeat (first | (apply wk_skip; (rfl); (rfl); (rfl); (intro J hJ; go_simp; (with_reducible refine hJ _ ?_); clear hJ J)) | (apply wk_len; (rfl); (rfl); (rfl); (rfl); (exact zk); (intro J hJ; go_simp; (with_reducible refine hJ _ ?_); clear hJ J)) | (apply wk_pure; (rfl); (rfl); (intro J hJ; go_simp; (with_reducible refine hJ _ ?_); clear hJ J)) | (apply wk_load; (rfl); (rfl); (rfl); (rfl); (intro J hJ; go_simp; (with_reducible refine hJ _ ?_); clear hJ J; try go_simp)))
  refine wk_ext rfl rfl (fun wa2 ha2 J hJ => ?_)
  have hs2 : Below wb1.heap.size wb1 wa2 := (by first | exact ha2 | exact belA)
  have hx2 : Below w1.heap.size w1 wa2 := Bt hy1 hs2
  go_simp
  refine (H13.out wa2).mono ?_
  rintro e wb2 ⟨⟨lo2, hi2, rfl, -⟩, hb2⟩
  refine hJ _ _ hb2 ?_
  have hy2 := Bt hx2 hb2
  skip
  clear hJ J ha2 hb2 hs2 hx2 hy1
  replace c5 := (X5.bl hy2).cl.1
  repeat (first | (apply wk_skip; (rfl); (rfl); (rfl); (intro J hJ; go_simp; (with_reducible refine hJ _ ?_); clear hJ J)) | (apply wk_len; (rfl); (rfl); (rfl); (rfl); (exact zk); (intro J hJ; go_simp; (with_reducible refine hJ _ ?_); clear hJ J)) | (apply wk_pure; (rfl); (rfl); (intro J hJ; go_simp; (with_reducible refine hJ _ ?_); clear hJ J)) | (apply wk_load; (rfl); (rfl); (rfl); (rfl); (intro J hJ; go_simp; (with_reducible refine hJ _ ?_); clear hJ J; try go_simp)))
  refine wk_ext rfl rfl (fun wa3 ha3 J hJ => ?_)
  have hs3 : Below wb2.heap.size wb2 wa3 := (by first | exact ha3 | exact belA)
  have hx3 : Below w1.heap.size w1 wa3 := Bt hy2 hs3
  go_simp
  refine (H14.out wa3).mono ?_
  rintro e wb3 ⟨⟨lo3, hi3, rfl, -⟩, hb3⟩
  refine hJ _ _ hb3 ?_
  have hy3 := Bt hx3 hb3
  skip
  clear hJ J ha3 hb3 hs3 hx3 hy2
  repeat (first | (apply wk_skip; (rfl); (rfl); (rfl); (intro J hJ; go_simp; (with_reducible refine hJ _ ?_); clear hJ J)) | (apply wk_len; (rfl); (rfl); (rfl); (rfl); (exact zk); (intro J hJ; go_simp; (with_reducible refine hJ _ ?_); clear hJ J)) | (apply wk_pure; (rfl); (rfl); (intro J hJ; go_simp; (with_reducible refine hJ _ ?_); clear hJ J)) | (apply wk_load; (rfl); (rfl); (rfl); (rfl); (intro J hJ; go_simp; (with_reducible refine hJ _ ?_); clear hJ J; try go_simp)))
  refine wk_nil fun wf hbf => ?_
  replace X4 := (X4.bl hy3).bl hbf
  replace hz := Bt (Bt hz hy3) hbf
  clear c4 l4 c5 l5 hy3 hbf H12 H13 H14 X5
  have HB := zh hz
  clear hz
  go_wp2_with fail
  clear X4
  generalize wrap64 (1 + wrap64 ((IntKind.u64.wrap p).tmod 36)) = up
  generalize wrap64 (1 + wrap64 ((IntKind.u64.wrap q).tmod 12)) = down
  go_loopw [43] (fun iv wr => ∃ k : Nat, k ≤ 4 ∧ iv = .int .i64 (k : Int) ∧ Hid (Below w.heap.size w wr)) (fun iv _ => 4 - (intOf iv).toNat)
  case atStart => exact ⟨0, by omega, rfl, HB⟩
  case round =>
    clear HB
    obtain ⟨k, hk, rfl, HB⟩ := hrel
    rcases Nat.lt_or_ge k 4 with hlt | hge
    · obtain ⟨x, y, hix⟩ : ∃ x y : Int, ∀ W : World, (Instr.index 30 (.agg #[.int .i64 lo, .int .i64 hi, .int .i64 lo1, .int .i64 hi1, .int .i64 lo2, .int .i64 hi2, .int .i64 lo3, .int .i64 hi3]) (.int .i64 (k : Int))).run Tryz.prog W = .ok (.agg #[.int .i64 x, .int .i64 y]) W := by
        have : k = 0 ∨ k = 1 ∨ k = 2 ∨ k = 3 := by omega
        rcases this with rfl | rfl | rfl | rfl
        · exact ⟨lo, hi, fun W => by kernel_rfl⟩
        · exact ⟨lo1, hi1, fun W => by kernel_rfl⟩
        · exact ⟨lo2, hi2, fun W => by kernel_rfl⟩
        · exact ⟨lo3, hi3, fun W => by kernel_rfl⟩
      have hk4 : (k : Int) < 4 := by omega
      go_wp2_with fail
      obtain ⟨wy, EW, hz, X12⟩ := al1 wr #[.int .i64 x, .int .i64 y] 23
      rw [EW]
      clear EW hix hk4
      replace HB := zh (Bt HB.out hz)
      clear hz
      obtain ⟨g, eg⟩ : ∃ g, wr.heap.size = g := ⟨_, rfl⟩
      rw [eg] at X12 ⊢
      clear eg
      generalize wrap64 (1 + up.tmod 5) = u5
      obtain ⟨kk, ekk⟩ : ∃ y : Int, (k : Int) = y := ⟨_, rfl⟩
      rw [ekk]
      have HK := zh ekk
      clear ekk
      go_loopw [56] (fun jv wq => ∃ j : Nat, j ≤ 2 ∧ jv = .int .i64 (j : Int) ∧ Hid (Box wq g #[.int .i64 x, .int .i64 y] 23) ∧ Hid (Below w.heap.size w wq)) (fun jv _ => 2 - (intOf jv).toNat)
      case atStart => exact ⟨0, by omega, rfl, X12, HB⟩
      case round =>
        clear HB X12
        obtain ⟨j, hj, rfl, X, HB⟩ := hrel
        rcases Nat.lt_or_ge j 2 with hlt2 | hge2
        · obtain ⟨a, b, hix⟩ : ∃ a b : Int, ∀ W : World, (Instr.index 32 (.agg #[.int .i64 up, .int .i64 down, .int .i64 u5, .int .i64 down]) (.int .i64 (j : Int))).run Tryz.prog W = .ok (.agg #[.int .i64 a, .int .i64 b]) W := by
            have : j = 0 ∨ j = 1 := by omega
            rcases this with rfl | rfl
            · exact ⟨up, down, fun W => by kernel_rfl⟩
            · exact ⟨u5, down, fun W => by kernel_rfl⟩
          have hj2 : (j : Int) < 2 := by omega
          obtain ⟨cX, lX⟩ := X.cl
          by_cases hk0 : kk = 0
          · subst hk0
            skip
            go_wp2_with fail
            obtain ⟨wz, EW, hz, X14⟩ := al1 wr #[.int .i64 p, .int .i64 q] 31
            rw [EW]
            clear EW cX lX
            replace X := X.bl hz
            replace HB := zh (Bt HB.out hz)
            clear hz
            obtain ⟨g2, eg2⟩ : ∃ g, wr.heap.size = g := ⟨_, rfl⟩
            rw [eg2] at X14 ⊢
            clear eg2
            obtain ⟨z1, z2, z3, CA, CR⟩ := both x y p q
            have CR := zh CR
            refine (CA _ (HP.out.later HB.out) (HE.out.later HB.out)).mono ?_
            rintro e w2 ⟨rfl, hb⟩
            replace X := X.bl hb
            replace X14 := X14.bl hb
            replace HB := zh (Bt HB.out hb)
            clear hb CA
            obtain ⟨cX, lX⟩ := X.cl
            obtain ⟨c14, l14⟩ := X14.cl
            go_wp2_with fail
            obtain ⟨wz2, EW, hz, X15⟩ := al1 w2 #[.int .i64 z1, .int .i64 z2] 23
            rw [EW]
            clear EW cX lX c14 l14 X14
            replace X := X.bl hz
            replace HB := zh (Bt HB.out hz)
            clear hz
            obtain ⟨g3, eg3⟩ : ∃ g, w2.heap.size = g := ⟨_, rfl⟩
            rw [eg3] at X15 ⊢
            clear eg3
            refine (CR.out _).mono ?_
            rintro e w3 ⟨rfl, hb⟩
            replace X := X.bl hb
            replace X15 := X15.bl hb
            replace HB := zh (Bt HB.out hb)
            clear hb CR
            obtain ⟨c15, l15⟩ := X15.cl
            go_wp2_with fail
            have hb := HB.out
            have hx := X.out
            go_roundw
            case rel => exact ⟨j + 1, by omega, by go_num, zh boxA, zh belA⟩
            case measure => exact zM
          · skip
            (have hk1 : (kk == 0) = false := by simp [hk0])
            go_wp2_with fail
            obtain ⟨wz, EW, hz, X14⟩ := al1 wr #[.int .i64 a, .int .i64 b] 31
            rw [EW]
            clear EW cX lX
            replace X := X.bl hz
            replace HB := zh (Bt HB.out hz)
            clear hz
            obtain ⟨g2, eg2⟩ : ∃ g, wr.heap.size = g := ⟨_, rfl⟩
            rw [eg2] at X14 ⊢
            clear eg2
            obtain ⟨z1, z2, z3, CA, CR⟩ := both x y a b
            have CR := zh CR
            refine (CA _ (HP.out.later HB.out) (HE.out.later HB.out)).mono ?_
            rintro e w2 ⟨rfl, hb⟩
            replace X := X.bl hb
            replace X14 := X14.bl hb
            replace HB := zh (Bt HB.out hb)
            clear hb CA
            obtain ⟨cX, lX⟩ := X.cl
            obtain ⟨c14, l14⟩ := X14.cl
            go_wp2_with fail
            obtain ⟨wz2, EW, hz, X15⟩ := al1 w2 #[.int .i64 z1, .int .i64 z2] 23
            rw [EW]
            clear EW cX lX c14 l14 X14
            replace X := X.bl hz
            replace HB := zh (Bt HB.out hz)
            clear hz
            obtain ⟨g3, eg3⟩ : ∃ g, w2.heap.size = g := ⟨_, rfl⟩
            rw [eg3] at X15 ⊢
            clear eg3
            refine (CR.out _).mono ?_
            rintro e w3 ⟨rfl, hb⟩
            replace X := X.bl hb
            replace X15 := X15.bl hb
            replace HB := zh (Bt HB.out hb)
            clear hb CR
            obtain ⟨c15, l15⟩ := X15.cl
            go_wp2_with fail
            have hb := HB.out
            have hx := X.out
            go_roundw
            case rel => exact ⟨j + 1, by omega, by go_num, zh boxA, zh belA⟩
            case measure => exact zM
        · obtain rfl : j = 2 := by omega
          obtain ⟨cX, lX⟩ := X.cl
          have hkk1 : 0 ≤ kk := by have := HK.out; omega
          have hkk2 : kk < 4 := by have := HK.out; omega
          go_wp2_with fail
          obtain ⟨z1, z2, z3, CA, CR⟩ := bothR x y q
          have CR := zh CR
          refine (CA _ (HP.out.later HB.out) (HE.out.later HB.out)).mono ?_
          rintro e w2 ⟨rfl, hb⟩
          replace X := X.bl hb
          replace HB := zh (Bt HB.out hb)
          clear hb CA cX lX
          obtain ⟨cX, lX⟩ := X.cl
          go_wp2_with fail
          obtain ⟨wz2, EW, hz, X15⟩ := al1 w2 #[.int .i64 z1, .int .i64 z2] 23
          rw [EW]
          clear EW cX lX X
          replace HB := zh (Bt HB.out hz)
          clear hz
          obtain ⟨g3, eg3⟩ : ∃ g, w2.heap.size = g := ⟨_, rfl⟩
          rw [eg3] at X15 ⊢
          clear eg3
          refine (CR.out _).mono ?_
          rintro e w3 ⟨rfl, hb⟩
          replace X15 := X15.bl hb
          replace HB := zh (Bt HB.out hb)
          clear hb CR
          obtain ⟨c15, l15⟩ := X15.cl
          go_wp2_with fail
          have hb := HB.out
          go_roundw
          case rel => exact ⟨k + 1, by omega, by have := HK.out; go_num, zh belA⟩
          case measure => have := HK.out; simp [intOf]; omega
    · obtain rfl : k = 4 := by omega
      go_wp2_with fail
      go_ret
      exact ⟨rfl, HB.out⟩
end Go.Proofs.verdigrislaw04
namespace Go.Proofs.YtpoecfpbafpokaaGreatDoor
open Go Go.ChangeShapes Go.WideShapes Go.RowKit Go.Proofs
theorem open_band {H : Type} {enc : TypeId × Value → H} {W : World} {b0 base : Nat} {sp : Nat → Bool} {held : Bool} {v : Value} {d : DataW H} {p : List MemPlace}
    (hval : Value.okWide Tryz.prog W .any b0 23 v) (h : DataW.Trod enc Tryz.prog W base sp held 23 v d p) :
    ∃ a b, v = .agg #[.int .i64 a, .int .i64 b] ∧ p = [] ∧ ∀ (W' : World) (base' : Nat) (sp' : Nat → Bool) (held' : Bool), DataW.Trod enc Tryz.prog W' base' sp' held' 23 v d [] := by
  have u0 : Tryz.prog.underlying 3 = some (.int .i64) := Tryz.underlying3
  have ut := Tryz.underlying23
  have c0 : Tryz.prog.cellsOf 3 = 1 := by kernel_rfl
  have ct : Tryz.prog.cellsOf 23 = 2 := by kernel_rfl
  obtain ⟨cs, rfl, hsz, -⟩ : ∃ cs, v = .agg cs ∧ cs.size = Tryz.prog.cellsOf 23 ∧ Row.okWide Tryz.prog W .any b0 23 cs := by
    simpa [Value.okWide, ut] using hval
  rw [ct] at hsz
  obtain ⟨l⟩ := cs
  obtain ⟨x0, x1, rfl⟩ : ∃ x0 x1, l = [x0, x1] := by
    match l, hsz with
    | [x0, x1], _ => exact ⟨x0, x1, rfl⟩
  obtain ⟨fuel, hf⟩ := h
  obtain ⟨y0, y1, m, hx, hl, hy0, hy1⟩ := trod_struct2 ut hf
  simp only [c0] at hy0 hy1
  obtain ⟨z0, e0, rfl, w0⟩ := DataW.trod_int u0 hy0
  obtain ⟨z1, e1, rfl, w1⟩ := DataW.trod_int u0 hy1
  replace e0 : [x0] = [Value.int .i64 z0] := e0
  replace e1 : [x1] = [Value.int .i64 z1] := e1
  simp only [List.cons.injEq, and_true] at e0 e1
  subst e0 e1
  simp only [Prod.mk.injEq] at hx
  obtain ⟨rfl, rfl⟩ := hx
  refine ⟨z0, z1, rfl, by simp, fun W' base' sp' held' => ⟨2, ?_⟩⟩
  have := trod_struct2_mk (enc := enc) (w := W') (base := base') (spare := sp') (held := held') (n := 1) (cs := [.int .i64 z0, .int .i64 z1]) (y0 := (.lit (.int .i64 z0), [])) (y1 := (.lit (.int .i64 z1), [])) ut (by simp [ct])
    (by simpa [c0] using trod_int_mk (enc := enc) (w := W') (base := base') (spare := sp') (held := held') 0 u0 w0) (by simpa [c0] using trod_int_mk (enc := enc) (w := W') (base := base') (spare := sp') (held := held') 0 u0 w1)
  simp at this
  exact this
end Go.Proofs.YtpoecfpbafpokaaGreatDoor
namespace Go.Proofs.YtpoecfpbafpokaaGreatDoor
open Go Go.ChangeShapes Go.WideShapes Go.ChangeAt Go.RowKit Go.Proofs
theorem own : ownKnob Tryz.prog.godebug = none := by kernel_rfl
theorem door_met (os : Os) (args : Array Value) : laidMetH Tryz.prog Rows.powerBandsRow.laid ((World.doorLaid Tryz.prog 4000 os).forCall (fun _ _ => 0) ⟨#[], args, []⟩).memory := by
  rw [MakeChecks.laidMetH_plain _ _ _ zk]
  exact laidMet_of_run' 8 zk zk
theorem i64_wf {n : Int} (h : (Lit.int .i64 n).wf = true) : -9223372036854775808 ≤ n ∧ n ≤ 9223372036854775807 := by
  simp [Lit.wf, IntKind.min, IntKind.max, IntKind.signed, IntKind.bits] at h
  omega
theorem powerBands_lifted (os : Os) (started : os.Started) (H : Type) (enc : TypeId × Value → H) :
    ReturnsInHanded {} Tryz.checked os 3 .any (fun w args => (Rows.powerBandsSpec.pre enc Tryz.prog Tryz.f3 [] false w args ∧ laidMetH Tryz.prog Rows.powerBandsRow.laid w) ∧ sizedMet enc Tryz.prog Tryz.f3 (OpenSpec.ofChange Rows.powerBandsSpec) false w args)
      (Rows.powerBandsSpec.post enc Tryz.prog Tryz.f3 false true false false) := by
  refine returnsInHanded_of_change_and (C := Tryz.checked) (X := fun w _ => laidMetH Tryz.prog Rows.powerBandsRow.laid w) (fun _ _ _ hh h => h.of_heap hh) own started zk Tryz.func3
    (ChangeSpec.witness_shaped (enc := enc) (C := Tryz.checked) (os := os) (X := fun w _ => laidMetH Tryz.prog Rows.powerBandsRow.laid w) false (World.doorLaid Tryz.prog 4000 os) #[.agg #[.int .i64 0, .int .i64 0], .agg #[.int .i64 0, .int .u32 0], .int .i64 0, .int .i64 0] 8 rfl (World.shaped_of_RefB zk zk) zk zk zk (door_met os _)) ?_
  intro W base args ds gs before hval0 hW _ _ hL _
  have hW' := hW
  obtain ⟨p, q, hA0, hV, rfl, hfz, hnd⟩ := hW
  have hA : DataW.TrodAll enc Tryz.prog W 0 (fun _ => true) true Tryz.f3.params.toList args.toList ds p := hA0
  rw [Tryz.params3] at hA
  have hval : ∀ (j : Nat) t v, Tryz.f3.params[j]? = some t → args[j]? = some v → Value.okWide Tryz.prog W .any base t v := hval0
  rw [Tryz.params3] at hval
  obtain ⟨v0, vs0, d0, ds0, p0, q0, hargs, rfl, rfl, h0, hr0⟩ := trodAll_cons hA
  obtain ⟨v1, vs1, d1, ds1, p1, q1, rfl, rfl, rfl, h1, hr1⟩ := trodAll_cons hr0
  obtain ⟨v2, vs2, d2, ds2, p2, q2, rfl, rfl, rfl, h2, hr2⟩ := trodAll_cons hr1
  obtain ⟨v3, vs3, d3, ds3, p3, q3, rfl, rfl, rfl, h3, hr3⟩ := trodAll_cons hr2
  obtain ⟨rfl, rfl, rfl⟩ := trodAll_nil hr3
  obtain rfl : args = #[v0, v1, v2, v3] := by cases args; simp_all
  obtain ⟨rfl, rfl⟩ := trodVars_none hV
  obtain ⟨a, b, rfl, rfl, ra⟩ := open_band (hval 0 23 v0 rfl rfl) h0
  obtain ⟨c, d, ⟨rfl, hb1, hb2⟩, rfl, rb⟩ := open_draft (hval 1 26 v1 rfl rfl) h1
  obtain ⟨m, rfl, rfl, rfl, wm⟩ := open_int Tryz.underlying3 (hval 2 3 v2 rfl rfl) h2
  obtain ⟨n, rfl, rfl, rfl, wn⟩ := open_int Tryz.underlying3 (hval 3 3 v3 rfl rfl) h3
  obtain ⟨hp, hc⟩ := of_laid hL
  refine (verdigrislaw04.PowerBands_ok a b c d m n hb1 hb2 (i64_wf wm).1 (i64_wf wm).2 (i64_wf wn).1 (i64_wf wn).2 W hp hc).mono fun e W' ⟨he, hb⟩ => ?_
  subst he
  refine ⟨_, rfl, _, _, _, [], [], [], hW', ?_, ?_, ?_, hb.frame _, fun h => by cases h⟩
  · exact trodAll_mk1 (shut_bool Tryz.underlying4 true)
  · exact ⟨[], [], (ra _ _ _ _), ⟨[], [], (rb _ _ _ _), trodAll_mk2 (shut_int Tryz.underlying3 wm) (shut_int Tryz.underlying3 wn), by simp⟩, by simp⟩
  · rfl
theorem powerBands_holds : Rows.PowerBandsSaid :=
  OpenClaim.holds_of_wide 3 Tryz.f3 rfl rfl rfl rfl rfl rfl rfl ⟨rfl, rfl, rfl, rfl, rfl⟩ rfl rfl rfl rfl rfl zk Tryz.func3 zk
    (of_decide_eq_true zk) (by unfold Func.isWrapper; first | (rw [if_pos (by decide +kernel)]; kernel_rfl) | (rw [if_neg (by decide +kernel)]; exact ⟨rfl, rfl⟩))
    (fun os started H enc _ => powerBands_lifted os started H enc)
theorem wants0 : Tryz.prog.wantsStandIn 23 = false := by kernel_rfl
theorem wants1 : Tryz.prog.wantsStandIn 26 = false := by kernel_rfl
theorem wants2 : Tryz.prog.wantsStandIn 3 = false := by kernel_rfl
theorem powerBands_card : Rows.PowerBandsCardSaid :=
  Claim7.holds_tied_plain_at .later [] [.data, .data, .data, .sentinel, .sentinel] true (true, "bc1bf536eb06bf18bc4c231e9aa64150270bda42f4b23e044d7bfc9ab11b0e23") true
    powerBands_holds (fun _ h => by cases h) zk (fun _ h => by cases h) powerBands_row_tie rfl ⟨rfl, rfl⟩ zk rfl
    (fun f fn hf hfn => by
      obtain rfl : f = 3 := Option.some.inj ((show Tryz.prog.funcNamed "verdigris/verdigrislaw04.PowerBands" = some 3 by kernel_rfl).symm.trans hf) |>.symm
      obtain rfl : fn = Tryz.f3 := (Option.some.inj (Tryz.func3.symm.trans hfn)).symm
      exact ⟨by kernel_rfl, fun j t ht => by
        rw [Tryz.params3] at ht
        have ht' : t = 23 ∨ t = 26 ∨ t = 3 := by
          rcases j with _ | _ | _ | _ | j <;> simp at ht
          · exact .inl ht.symm
          · exact .inr (.inl ht.symm)
          · exact .inr (.inr (ht.symm))
          · exact .inr (.inr (ht.symm))
        rcases ht' with rfl | rfl | rfl
        · exact wants0
        · exact wants1
        · exact wants2⟩)
    zk
end Go.Proofs.YtpoecfpbafpokaaGreatDoor
