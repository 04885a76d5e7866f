/- verdigrislaw04.PowerEnds returns true. Conditions: those of the given row. -/
import Derived.Test.YtpoecfpbafpokaaGreatDoorQB01
import Derived.Test.YtpoecfpbafpokaaGreatDoorQB02
import Derived.Test.YtpoecfpbafpokaaGreatDoorQB04
import Derived.Test.YtpoecfpbafpokaaGreatDoorQB06
import Derived.Test.YtpoecfpbafpokaaGreatDoorCards
import Derived.Test.YtpoecfpbafpokaaGreatDoorTie
import Derived.ChangeSame
import Derived.ChangeVars
import Derived.JoinedOf
import Derived.SevenTiedAt
set_option linter.unusedVariables false
set_option linter.unusedSimpArgs false
set_option maxRecDepth 100000
set_option maxHeartbeats 16000000
namespace Go.Proofs.verdigrislaw04
open Go Go.RowKit Go.SW Go.Num Go.Mem Go.Proofs Go.Dec Go.Fra Go.Proofs.band
theorem raised_ok (n k : Nat) (hn : n ≤ 10 ^ 18 + 1) (hk : k ≤ 12) (w : World) (ht : Bld.Pow w) :
    Calls Tryz.prog 41 #[.int .i64 (n : Int), .int .i64 (k : Int)] w (fun e w' => e = .returned (Fr.of (rN n ^ k)).v ∧ Below w.heap.size w w') := by
  have h18 : (10 : Nat) ^ 18 = 1000000000000000000 := by decide
  have HO := zh (fun W h => frac.Of_ok (n : Int) 1000000000000 zo zo zo zo W h)
  have e1 : ofF (n : Int) 1000000000000 = (Fr.of (rN n), 0) := by
    unfold ofF
    rw [if_neg zd]
    show wr (rN n) = _
    unfold wr
    rw [if_pos (rN_ok hn)]
  rw [e1] at HO
  have HW := zh (fun W h => frac.Pow_ok (rN n) k (rN_ok hn) (rN_nonneg n) zo W h)
  have e2 : wr (rN n ^ k) = (Fr.of (rN n ^ k), 0) := by
    unfold wr
    rw [if_pos (rN_pow_ok hn hk)]
  rw [e2] at HW
  have HP := zh ht
  clear ht e1 e2 hn hk h18
  generalize Fr.of (rN n ^ k) = y at *
  generalize Fr.of (rN n) = x at *
  obtain ⟨x1, x2⟩ := x
  obtain ⟨y1, y2⟩ := y
  simp only [res_mk, Fr.v] at HO HW ⊢
  go_enter Tryz.func41, Tryz.ntmps41
  go_wp2_with fail
  obtain ⟨wx, EW, hz, R⟩ := al1 w #[.string ⟨#[]⟩, .string ⟨#[]⟩] 40
  rw [EW]
  clear EW
  have HB := zh hz
  clear hz
  refine (HO.out _ (HP.out.later HB.out)).mono ?_
  rintro e u ⟨rfl, h⟩
  replace R := R.bl h
  replace HB := zh (Bt HB.out h)
  clear h HO
  go_wp2_with fail
  obtain ⟨wy, EW, hz, Y⟩ := al1 u #[.string x1, .string x2] 40
  rw [EW]
  clear EW
  have lR := R.out.lt
  replace R := R.bl hz
  replace HB := zh (Bt HB.out hz)
  clear hz
  refine (HW.out _ (HP.out.later HB.out)).mono ?_
  rintro e v ⟨rfl, h⟩
  replace R := R.bl h
  replace Y := Y.bl h
  replace HB := zh (Bt HB.out h)
  clear h HW
  obtain ⟨by', eb⟩ : ∃ y, u.heap.size = y := ⟨_, rfl⟩
  obtain ⟨bx, ex⟩ : ∃ y, w.heap.size = y := ⟨_, rfl⟩
  rw [eb] at Y lR ⊢
  rw [ex] at R lR ⊢
  have r := R.out
  have y := Y.out
  have cR := r.cell
  have fR := r.free
  have lr := r.lt
  have cY := y.cell
  have fY := y.free
  have lY := y.lt
  have ne1 : bx ≠ by' := by omega
  have ne2 : by' ≠ bx := by omega
  have hw0 := HB.out
  have hw := HB.out
  rw [ex] at hw
  go_wp2_with fail
  refine ret_c rfl rfl boxA Tryz.underlying40 rfl zk ?_
  exact ⟨rfl, belA⟩
structure AtB (W : World) (b12 b9 b8 q p : Nat) : Prop where
  f : Box W b12 #[.func (.func 41) #[] #[]] 68
  q : Box W b9 #[.int .i64 (q : Int)] 3
  p : Box W b8 #[.int .i64 (p : Int)] 3
theorem AtB.later {w w' : World} {b12 b9 b8 q p : Nat} (h : AtB w b12 b9 b8 q p) (hb : Below w.heap.size w w') : AtB w' b12 b9 b8 q p := ⟨h.f.later hb, h.q.later hb, h.p.later hb⟩
theorem cmp_wr (n a m b : Nat) (hn : n ≤ 10 ^ 18 + 1) (hm : m ≤ 10 ^ 18 + 1) (ha : a ≤ 12) (hb : b ≤ 12) : cmpF (Fr.of (rN n ^ a)) (Fr.of (rN m ^ b)) = (cmpN n a m b, 0) := by
  unfold cmpF
  rw [rd_of (rN_pow_ok hn ha), rd_of (rN_pow_ok hm hb)]
  simp only
  rw [cmpN_eq]
theorem at_ok (n m q p b12 b9 b8 : Nat) (hn : n ≤ 10 ^ 18 + 1) (hm : m ≤ 10 ^ 18 + 1) (hq : q ≤ 12) (hp : p ≤ 12) (w : World) (hA : AtB w b12 b9 b8 q p) (ht : Bld.Pow w) :
    Calls Tryz.prog 43 #[.int .i64 (n : Int), .int .i64 (m : Int), .pointer (some ⟨b12, 0, none⟩), .pointer (some ⟨b9, 0, none⟩), .pointer (some ⟨b8, 0, none⟩)] w (fun e w' => e = .returned (.int .i64 (cmpN n q m p)) ∧ Below w.heap.size w w') := by
  have H1 := zh (fun W h => raised_ok n q hn hq W h)
  have H2 := zh (fun W h => raised_ok m p hm hp W h)
  have HC := zh (fun W => frac.Cmp_ok (Fr.of (rN n ^ q)) (Fr.of (rN m ^ p)) W)
  rw [cmp_wr n q m p hn hm hq hp] at HC
  have HP := zh ht
  have A := zh hA
  clear ht hn hm hq hp hA
  generalize cmpN n q m p = c at *
  generalize Fr.of (rN n ^ q) = x at *
  generalize Fr.of (rN m ^ p) = y at *
  obtain ⟨x1, x2⟩ := x
  obtain ⟨y1, y2⟩ := y
  simp only [Fr.v, frac.pair] at H1 H2 HC
  go_enter Tryz.func43, Tryz.ntmps43
  go_wp2_with fail
  have c1 := A.out.f.cell
  have c2 := A.out.q.cell
  have c3 := A.out.p.cell
  have l1 := A.out.f.lt
  have l2 := A.out.q.lt
  have l3 := A.out.p.lt
  refine wp_region_walk [(.read, 0), (.pure, 1), (.read, 2), (.read, 4), (.pure, 5), (.read, 6), (.ext, 3), (.ext, 7), (.ext, 8), (.pure, 9), (.pure, 10), (.pure, 11), (.fin, 12), (.fin, 13)] zk zk zR zP ?_
  repeat (first | (refine walk_pure0 rfl rfl fun J h => ?_; go_simp; refine h _ ?_; clear h J) | (refine walk_load rfl rfl rfl rfl fun J h => ?_; go_simp; refine h _ ?_; clear h J; try go_simp) | (refine walk_pureG rfl rfl fun J h => ?_; go_simp; refine h _ ?_; clear h J) | (refine walk_loadG rfl rfl rfl rfl fun J h => ?_; go_simp; refine h _ ?_; clear h J; try go_simp))
  refine walk_ext rfl rfl (fun we hbe J hJ => ?_); go_simp
  have hx : Below w.heap.size w we := belA
  refine (H1.out _ (HP.out.later hx)).mono ?_
  rintro e u ⟨rfl, h⟩
  refine hJ _ _ h ?_
  clear hJ J hbe c1 c2 c3 l1 l2 l3
  have hu := Bt hx h
  clear hx h
  have A2 := zh (A.out.later hu)
  have c1 := A2.out.f.cell
  have c2 := A2.out.q.cell
  have c3 := A2.out.p.cell
  have l1 := A2.out.f.lt
  have l2 := A2.out.q.lt
  have l3 := A2.out.p.lt
  repeat (first | (refine walk_pure0 rfl rfl fun J h => ?_; go_simp; refine h _ ?_; clear h J) | (refine walk_load rfl rfl rfl rfl fun J h => ?_; go_simp; refine h _ ?_; clear h J; try go_simp) | (refine walk_pureG rfl rfl fun J h => ?_; go_simp; refine h _ ?_; clear h J) | (refine walk_loadG rfl rfl rfl rfl fun J h => ?_; go_simp; refine h _ ?_; clear h J; try go_simp))
  refine walk_ext rfl rfl (fun we hbe J hJ => ?_); go_simp
  have hx : Below u.heap.size u we := belA
  refine (H2.out _ (HP.out.later (Bt hu hx))).mono ?_
  rintro e v ⟨rfl, h⟩
  refine hJ _ _ h ?_
  clear hJ J hbe c1 c2 c3 l1 l2 l3
  have hv := Bt hu (Bt hx h)
  clear hx h hu
  repeat (first | (refine walk_pure0 rfl rfl fun J h => ?_; go_simp; refine h _ ?_; clear h J) | (refine walk_load rfl rfl rfl rfl fun J h => ?_; go_simp; refine h _ ?_; clear h J; try go_simp) | (refine walk_pureG rfl rfl fun J h => ?_; go_simp; refine h _ ?_; clear h J) | (refine walk_loadG rfl rfl rfl rfl fun J h => ?_; go_simp; refine h _ ?_; clear h J; try go_simp))
  refine walk_ext rfl rfl (fun we hbe J hJ => ?_); go_simp
  have hx : Below v.heap.size v we := belA
  refine (HC.out _).mono ?_
  rintro e z ⟨rfl, h⟩
  refine hJ _ _ h ?_
  clear hJ J hbe
  have hz := Bt hv (Bt hx h)
  clear hx h hv
  repeat (first | (refine walk_pure0 rfl rfl fun J h => ?_; go_simp; refine h _ ?_; clear h J) | (refine walk_load rfl rfl rfl rfl fun J h => ?_; go_simp; refine h _ ?_; clear h J; try go_simp) | (refine walk_pureG rfl rfl fun J h => ?_; go_simp; refine h _ ?_; clear h J) | (refine walk_loadG rfl rfl rfl rfl fun J h => ?_; go_simp; refine h _ ?_; clear h J; try go_simp))
  refine walk_fin [_, _] rfl (fun wf hbf => ?_)
  have hw := Bt hz (show Below z.heap.size z wf from belA)
  go_wp2_with fail
  go_ret
  exact ⟨rfl, hw⟩
end Go.Proofs.verdigrislaw04
namespace Go.Proofs.power
open Go Go.Num Go.Proofs.band
theorem pw_or {lo hi p q : Nat} (h1 : lo ≤ hi) (h2 : hi ≤ 10 ^ 18) (p1 : 1 ≤ p) (p36 : p ≤ 36) (q1 : 1 ≤ q) (q12 : q ≤ 12) :
    (pwE (lo : Int) (hi : Int) (p : Int) (q : Int) = ((((plo lo p q : Nat) : Int), ((phi hi p q : Nat) : Int)), 0) ∧ plo lo p q ≤ 10 ^ 18 ∧ phi hi p q ≤ 10 ^ 18) ∨ pwE (lo : Int) (hi : Int) (p : Int) (q : Int) = ((0, 0), 6) := by
  have a := (phi_bounds hi p q).1
  have b := plo_mono (p := p) q1 h1
  rw [pwE_at h1 h2 p1 p36 q1 q12]
  by_cases h : phi hi p q ≤ 10 ^ 18
  · left
    have e1 : endV lo p q false = (((plo lo p q : Nat) : Int), 0) := by
      unfold endV
      rw [if_pos zo]
      rfl
    have e2 : endV hi p q true = (((phi hi p q : Nat) : Int), 0) := by
      unfold endV
      rw [if_pos zo]
      rfl
    refine ⟨?_, by omega, h⟩
    rw [e1, e2]
    unfold outE
    rw [if_neg (fun h => h rfl), if_neg (fun h => h rfl), if_pos (bok_nat zo h)]
  · right
    unfold endV
    by_cases k1 : plo lo p q ≤ 10 ^ 18
    · by_cases k2 : plo hi p q ≤ 10 ^ 18
      · rw [if_pos k1, if_pos k2]
        unfold outE
        have h18 : (10 : Nat) ^ 18 = 1000000000000000000 := by decide
        rw [h18] at h
        rw [if_neg (fun h => h rfl), if_neg (fun h => h rfl), if_neg]
        unfold bok
        simp only [Bool.and_eq_true, decide_eq_true_eq, if_true, Bool.false_eq_true, if_false]
        omega
      · rw [if_pos k1, if_neg k2]
        rfl
    · rw [if_neg k1]
      rfl
theorem pw_neg {lo hi p q : Int} (h1 : bok lo hi = true) (h2 : lo < 0) : pwE lo hi p q = ((0, 0), 2) := by
  unfold pwE
  rw [if_neg (by rw [h1]; simp), if_pos (Or.inr h2)]
end Go.Proofs.power
namespace Go.Proofs.verdigrislaw04
open Go Go.RowKit Go.SW Go.Num Go.Mem Go.Proofs Go.Dec Go.Fra Go.Proofs.band
theorem cmp_le {n a m b : Nat} (h : n ^ a * 10 ^ (12 * b) ≤ m ^ b * 10 ^ (12 * a)) : cmpN n a m b ≤ 0 := by
  unfold cmpN
  split
  · decide
  · rw [if_neg zo]
    decide
theorem cmp_gt {n a m b : Nat} (h : m ^ b * 10 ^ (12 * a) < n ^ a * 10 ^ (12 * b)) : 0 < cmpN n a m b := by
  unfold cmpN
  rw [if_neg zo, if_pos h]
  decide
theorem cmp_ge {n a m b : Nat} (h : m ^ b * 10 ^ (12 * a) ≤ n ^ a * 10 ^ (12 * b)) : 0 ≤ cmpN n a m b := by
  unfold cmpN
  rw [if_neg zo]
  split <;> decide
theorem cmp_lt {n a m b : Nat} (h : n ^ a * 10 ^ (12 * b) < m ^ b * 10 ^ (12 * a)) : cmpN n a m b < 0 := by
  unfold cmpN
  rw [if_pos h]
  decide
theorem PowerEnds_ok (at' wide p k : Int) (w0 : 0 ≤ wide) (w1 : wide ≤ 4294967295) (p0 : 0 ≤ p) (p1 : p ≤ 255) (k0 : 0 ≤ k) (k1 : k ≤ 255) (w : World) (ht : Bld.Pow w) (he : whole.Er w) :
    Calls Tryz.prog 10 #[.agg #[.int .i64 at', .int .u32 wide], .int .u8 p, .int .u8 k] w (fun e w' => e = .returned (.bool true) ∧ Below w.heap.size w w') := by
  have HP := zh ht
  have HE := zh he
  have HU := zh (fun W => Small_ok at' wide w0 w1 W)
  have HW := zh (fun W h1 h2 => works_ok W h1 h2)
  clear ht he w0 w1
  go_enter Tryz.func10, Tryz.ntmps10
  go_wp2_with fail
  obtain ⟨wx, EW, hz, X⟩ := al1 w #[.int .i64 at', .int .u32 wide] 26
  rw [EW]
  clear EW
  have HB := zh hz
  clear hz
  refine (HW.out _ (HP.out.later HB.out) (HE.out.later HB.out)).mono ?_
  rintro e u ⟨rfl, h⟩
  replace X := X.bl h
  replace HB := zh (Bt HB.out h)
  clear h HW
  obtain ⟨cX, lX⟩ := X.cl
  go_wp2_with fail
  refine (HU.out _).mono ?_
  rintro e u ⟨⟨lo, hi, rfl, h0, h1, h2⟩, h⟩
  replace HB := zh (Bt HB.out h)
  clear h HU X cX lX
  obtain ⟨m, em⟩ : ∃ m : Nat, 1 + p % 5 = (m : Int) := ⟨(1 + p % 5).toNat, by omega⟩
  obtain ⟨n, en⟩ : ∃ n : Nat, 1 + k % 12 = (n : Int) := ⟨(1 + k % 12).toNat, by omega⟩
  have n1 : 1 ≤ n := by omega
  have n12 : n ≤ 12 := by omega
  have m1 : 1 ≤ m := by omega
  have m5 : m ≤ 5 := by omega
  by_cases hneg : lo < 0
  · have g0 : decide (lo < 0) = true := decide_eq_true hneg
    have hk : bok lo hi = true := by
      unfold bok
      simp only [Bool.and_eq_true, decide_eq_true_eq]
      omega
    have C := zh (fun W h1 h2 => power.Power_ok lo hi (m : Int) (n : Int) W h1 h2)
    rw [power.pw_neg hk hneg] at C
    unfold bndV at C
    simp only at C
    clear hk hneg h0 h1 h2
    go_wp2_with fail
    obtain ⟨wy, EW, hz, B7, B8, B9⟩ := al3 u #[.int .i64 lo, .int .i64 hi] 23 #[.int .i64 (m : Int)] 3 #[.int .i64 (n : Int)] 3
    rw [EW]
    clear EW
    replace HB := zh (Bt HB.out hz)
    clear hz
    obtain ⟨c7, l7⟩ := B7.cl
    obtain ⟨c8, l8⟩ := B8.cl
    obtain ⟨c9, l9⟩ := B9.cl
    refine wp_region_walk [(.read, 1), (.read, 2), (.read, 3), (.ext, 0), (.ext, 4), (.pure, 5), (.pure, 6), (.ext, 7), (.fin, 8)] zk zk zR zP ?_
    repeat (first | (refine walk_pure0 rfl rfl fun J h => ?_; go_simp; refine h _ ?_; clear h J) | (refine walk_load rfl rfl rfl rfl fun J h => ?_; go_simp; refine h _ ?_; clear h J; try go_simp) | (refine walk_pureG rfl rfl fun J h => ?_; go_simp; refine h _ ?_; clear h J) | (refine walk_loadG rfl rfl rfl rfl fun J h => ?_; go_simp; refine h _ ?_; clear h J; try go_simp))
    refine walk_ext rfl rfl (fun we hbe J hJ => ?_); go_simp
    have hx : Below wy.heap.size wy we := belA
    refine (fails_ok 2 _).mono ?_
    rintro e v ⟨⟨fv, rfl, fa, rfl, ha⟩, h⟩
    have hy := Bt hx h
    refine hJ _ _ h ?_
    clear hJ J hbe hx h
    replace HB := zh (Bt HB.out hy)
    have HA := zh ha
    clear ha hy B7 B8 B9 c7 c8 c9 l7 l8 l9
    repeat (first | (refine walk_pure0 rfl rfl fun J h => ?_; go_simp; refine h _ ?_; clear h J) | (refine walk_load rfl rfl rfl rfl fun J h => ?_; go_simp; refine h _ ?_; clear h J; try go_simp) | (refine walk_pureG rfl rfl fun J h => ?_; go_simp; refine h _ ?_; clear h J) | (refine walk_loadG rfl rfl rfl rfl fun J h => ?_; go_simp; refine h _ ?_; clear h J; try go_simp))
    refine walk_ext rfl rfl (fun we hbe J hJ => ?_); go_simp
    have hx : Below v.heap.size v we := belA
    refine (C.out _ (HP.out.later (Bt HB.out hx)) (HE.out.later (Bt HB.out hx))).mono ?_
    rintro e z ⟨rfl, h⟩
    have hy := Bt hx h
    refine hJ _ _ h ?_
    clear hJ J hbe hx h
    replace HB := zh (Bt HB.out hy)
    replace HA := HA.bl hy
    clear hy
    repeat (first | (refine walk_pure0 rfl rfl fun J h => ?_; go_simp; refine h _ ?_; clear h J) | (refine walk_load rfl rfl rfl rfl fun J h => ?_; go_simp; refine h _ ?_; clear h J; try go_simp) | (refine walk_pureG rfl rfl fun J h => ?_; go_simp; refine h _ ?_; clear h J) | (refine walk_loadG rfl rfl rfl rfl fun J h => ?_; go_simp; refine h _ ?_; clear h J; try go_simp))
    refine walk_ext rfl rfl (fun we hbe J hJ => ?_); go_simp
    have hx : Below z.heap.size z we := belA
    refine (fails1_ok 2 fa _ (HA.out.later hx)).mono ?_
    rintro e y ⟨rfl, h⟩
    have hy := Bt hx h
    refine hJ _ _ h ?_
    clear hJ J hbe hx h
    replace HB := zh (Bt HB.out hy)
    clear hy HA
    repeat (first | (refine walk_pure0 rfl rfl fun J h => ?_; go_simp; refine h _ ?_; clear h J) | (refine walk_load rfl rfl rfl rfl fun J h => ?_; go_simp; refine h _ ?_; clear h J; try go_simp) | (refine walk_pureG rfl rfl fun J h => ?_; go_simp; refine h _ ?_; clear h J) | (refine walk_loadG rfl rfl rfl rfl fun J h => ?_; go_simp; refine h _ ?_; clear h J; try go_simp))
    refine walk_fin [_] rfl (fun wf hbf => ?_)
    have hw := Bt HB.out (show Below y.heap.size y wf from belA)
    go_wp2_with fail
    go_ret
    exact ⟨rfl, hw⟩
  · have g0 : decide (lo < 0) = false := decide_eq_false hneg
    obtain ⟨a, rfl⟩ := Int.eq_ofNat_of_zero_le (Int.not_lt.1 hneg)
    obtain ⟨b, rfl⟩ := Int.eq_ofNat_of_zero_le (show 0 ≤ hi by omega)
    have h18 : (10 : Nat) ^ 18 = 1000000000000000000 := by decide
    have hab : a ≤ b := by omega
    have hb18 : b ≤ 10 ^ 18 := by omega
    have C := zh (fun W h1 h2 => power.Power_ok (a : Int) (b : Int) (m : Int) (n : Int) W h1 h2)
    rcases power.pw_or (p := m) (q := n) hab hb18 m1 zo n1 n12 with ⟨hE, hr1, hr2⟩ | hE
    · rw [hE] at C
      have s1 := plo_spec n1 a m
      have s2 := phi_spec n1 b m
      have s3 := phi_pred (n := b) (p := m) n1
      have A1 := zh (fun b12 b9 b8 W hA h => at_ok (plo a m n) a n m b12 b9 b8 zo zo n12 zo W hA h)
      have A2 := zh (fun b12 b9 b8 W hA h => at_ok (plo a m n + 1) a n m b12 b9 b8 zo zo n12 zo W hA h)
      have A3 := zh (fun b12 b9 b8 W hA h => at_ok (phi b m n) b n m b12 b9 b8 zo zo n12 zo W hA h)
      have A4 := zh (fun b12 b9 b8 W hA h => at_ok (phi b m n - 1) b n m b12 b9 b8 zo zo n12 zo W hA h)
      have d1 := decide_eq_true (cmp_le s1.1)
      have d2 := decide_eq_true (cmp_gt s1.2)
      have d3 := decide_eq_true (cmp_ge s2)
      have d4 : 0 < phi b m n → decide (cmpN (phi b m n - 1) n b m < 0) = true := fun h => decide_eq_true (cmp_lt (s3 h))
      rw [h18] at hr1 hr2
      unfold bndV at C
      simp only at C
      clear s1 s2 s3 hE hab hb18 h0 h1 h2 hneg h18
      generalize cmpN (plo a m n) n a m = v1 at *
      generalize cmpN (plo a m n + 1) n a m = v2 at *
      generalize cmpN (phi b m n) n b m = v3 at *
      generalize cmpN (phi b m n - 1) n b m = v4 at *
      generalize plo a m n = r1 at *
      generalize phi b m n = r2 at *
      have e2 : ((r1 + 1 : Nat) : Int) = (r1 : Int) + 1 := by omega
      rw [e2] at A2
      clear e2
      go_wp2_with fail
      obtain ⟨wy, EW, hz, B7, B8, B9⟩ := al3 u #[.int .i64 (a : Int), .int .i64 (b : Int)] 23 #[.int .i64 (m : Int)] 3 #[.int .i64 (n : Int)] 3
      rw [EW]
      clear EW
      replace HB := zh (Bt HB.out hz)
      clear hz
      refine (C.out _ (HP.out.later HB.out) (HE.out.later HB.out)).mono ?_
      rintro e v ⟨rfl, h⟩
      replace B7 := B7.bl h
      replace B8 := B8.bl h
      replace B9 := B9.bl h
      replace HB := zh (Bt HB.out h)
      clear h C
      obtain ⟨c7, l7⟩ := B7.cl
      go_wp2_with fail
      obtain ⟨wz, EW, hz, B10, BF⟩ := al2 v #[.int .i64 (r1 : Int), .int .i64 (r2 : Int)] 23 #[.func (.func 41) #[] #[]] 68
      rw [EW]
      clear EW c7 l7
      replace B7 := B7.bl hz
      replace B8 := B8.bl hz
      replace B9 := B9.bl hz
      replace HB := zh (Bt HB.out hz)
      clear hz
      have HT := zh (AtB.mk BF.out B9.out B8.out)
      clear BF B8 B9
      refine (A1.out _ _ _ _ HT.out (HP.out.later HB.out)).mono ?_
      rintro e y ⟨rfl, h⟩
      replace HT := zh (HT.out.later h)
      replace B7 := B7.bl h
      replace B10 := B10.bl h
      replace HB := zh (Bt HB.out h)
      clear h
      obtain ⟨c7, l7⟩ := B7.cl
      obtain ⟨c10, l10⟩ := B10.cl
      go_wp2_with fail
      clear c7 l7 c10 l10
      refine (A2.out _ _ _ _ HT.out (HP.out.later HB.out)).mono ?_
      rintro e y ⟨rfl, h⟩
      replace HT := zh (HT.out.later h)
      replace B7 := B7.bl h
      replace B10 := B10.bl h
      replace HB := zh (Bt HB.out h)
      clear h
      obtain ⟨c7, l7⟩ := B7.cl
      obtain ⟨c10, l10⟩ := B10.cl
      go_wp2_with fail
      clear c7 l7 c10 l10
      refine (A3.out _ _ _ _ HT.out (HP.out.later HB.out)).mono ?_
      rintro e y ⟨rfl, h⟩
      replace HT := zh (HT.out.later h)
      replace B7 := B7.bl h
      replace B10 := B10.bl h
      replace HB := zh (Bt HB.out h)
      clear h
      obtain ⟨c7, l7⟩ := B7.cl
      obtain ⟨c10, l10⟩ := B10.cl
      rcases Nat.eq_zero_or_pos r2 with hz | hz
      · have g4 : ((r2 : Int) == 0) = true := by simp [hz]
        have hw := HB.out
        go_wp2_with fail
        go_ret
        exact ⟨rfl, hw⟩
      · have g4 : ((r2 : Int) == 0) = false := beq_eq_false_iff_ne.2 zo
        have g5 := d4 hz
        have e2 : ((r2 - 1 : Nat) : Int) = (r2 : Int) - 1 := by omega
        rw [e2] at A4
        clear d4 e2
        go_wp2_with fail
        refine (A4.out _ _ _ _ HT.out (HP.out.later HB.out)).mono ?_
        rintro e y ⟨rfl, h⟩
        have hw := Bt HB.out h
        go_wp2_with fail
        go_ret
        exact ⟨rfl, hw⟩
    · rw [hE] at C
      unfold bndV at C
      simp only at C
      clear hE hab hb18 h0 h1 h2 hneg h18
      go_wp2_with fail
      obtain ⟨wy, EW, hz, B7, B8, B9⟩ := al3 u #[.int .i64 (a : Int), .int .i64 (b : Int)] 23 #[.int .i64 (m : Int)] 3 #[.int .i64 (n : Int)] 3
      rw [EW]
      clear EW
      replace HB := zh (Bt HB.out hz)
      clear hz
      refine (C.out _ (HP.out.later HB.out) (HE.out.later HB.out)).mono ?_
      rintro e v ⟨rfl, h⟩
      have hw := Bt HB.out h
      go_wp2_with fail
      go_ret
      exact ⟨rfl, belA⟩
end Go.Proofs.verdigrislaw04
namespace Go.Proofs.YtpoecfpbafpokaaGreatDoor
open Go Go.ChangeShapes Go.WideShapes Go.ChangeAt Go.RowKit Go.Proofs
theorem own : ownKnob Tryz.prog.godebug = none := by kernel_rfl
theorem door_met (os : Os) (args : Array Value) : laidMetH Tryz.prog Rows.powerEndsRow.laid ((World.doorLaid Tryz.prog 4000 os).forCall (fun _ _ => 0) ⟨#[], args, []⟩).memory := by
  rw [MakeChecks.laidMetH_plain _ _ _ zk]
  exact laidMet_of_run' 8 zk zk
theorem args3 {H : Type} {enc : TypeId × Value → H} {P : Program} {w : World} {base : Nat} {sp : Nat → Bool} {held : Bool} {t t1 t2 : TypeId} {args : Array Value} {ds : List (DataW H)} {ps : List MemPlace} (h : DataW.TrodAll enc P w base sp held [t, t1, t2] args.toList ds ps) :
    ∃ v v1 v2 d d1 d2 p p1 p2, args = #[v, v1, v2] ∧ ds = [d, d1, d2] ∧ ps = p ++ p1 ++ p2 ∧ DataW.Trod enc P w base sp held t v d p ∧ DataW.Trod enc P w base sp held t1 v1 d1 p1 ∧ DataW.Trod enc P w base sp held t2 v2 d2 p2 := by
  obtain ⟨v, vs, d, ds1, p, q, hargs, rfl, rfl, hd, hrest⟩ := trodAll_cons h
  obtain ⟨v1, vs1, d1, ds2, p1, q1, rfl, rfl, rfl, hd1, hrest1⟩ := trodAll_cons hrest
  obtain ⟨v2, vs2, d2, ds3, p2, q2, rfl, rfl, rfl, hd2, hrest2⟩ := trodAll_cons hrest1
  obtain ⟨rfl, rfl, rfl⟩ := trodAll_nil hrest2
  exact ⟨v, v1, v2, d, d1, d2, p, p1, p2, by cases args; simp_all, rfl, by simp, hd, hd1, hd2⟩
theorem powerEnds_lifted (os : Os) (started : os.Started) (H : Type) (enc : TypeId × Value → H) :
    ReturnsInHanded {} Tryz.checked os 10 .any (fun w args => (Rows.powerEndsSpec.pre enc Tryz.prog Tryz.f10 [] false w args ∧ laidMetH Tryz.prog Rows.powerEndsRow.laid w) ∧ sizedMet enc Tryz.prog Tryz.f10 (OpenSpec.ofChange Rows.powerEndsSpec) false w args)
      (Rows.powerEndsSpec.post enc Tryz.prog Tryz.f10 false true false false) := by
  refine returnsInHanded_of_change_and (C := Tryz.checked) (X := fun w _ => laidMetH Tryz.prog Rows.powerEndsRow.laid w) (fun _ _ _ hh h => h.of_heap hh) own started zk Tryz.func10
    (ChangeSpec.witness_shaped (enc := enc) (C := Tryz.checked) (os := os) (X := fun w _ => laidMetH Tryz.prog Rows.powerEndsRow.laid w) false (World.doorLaid Tryz.prog 4000 os) #[.agg #[.int .i64 0, .int .u32 0], .int .u8 0, .int .u8 0] 8 rfl (World.shaped_of_RefB zk zk) zk zk zk (door_met os _)) ?_
  intro W base args ds gs before hval0 hW _ _ hL _
  have hW' := hW
  obtain ⟨p, q, hA0, hV, rfl, hfz, hnd⟩ := hW
  have hA : DataW.TrodAll enc Tryz.prog W 0 (fun _ => true) true Tryz.f10.params.toList args.toList ds p := hA0
  rw [Tryz.params10] at hA
  have hval : ∀ (j : Nat) t v, Tryz.f10.params[j]? = some t → args[j]? = some v → Value.okWide Tryz.prog W .any base t v := hval0
  rw [Tryz.params10] at hval
  obtain ⟨v0, v1, v2, d0, d1, d2, p0, p1, p2, rfl, rfl, rfl, h0, h1, h2⟩ := args3 hA
  obtain ⟨rfl, rfl⟩ := trodVars_none hV
  obtain ⟨a, b, ⟨rfl, hb1, hb2⟩, rfl, ra⟩ := open_draft (hval 0 26 v0 rfl rfl) h0
  obtain ⟨n, rfl, rfl, rfl, wn⟩ := open_int Tryz.underlying5 (hval 1 5 v1 rfl rfl) h1
  obtain ⟨m, rfl, rfl, rfl, wm⟩ := open_int Tryz.underlying5 (hval 2 5 v2 rfl rfl) h2
  obtain ⟨hp, hc⟩ := of_laid hL
  refine (verdigrislaw04.PowerEnds_ok a b n m hb1 hb2 (u8_wf wn).1 (u8_wf wn).2 (u8_wf wm).1 (u8_wf wm).2 W hp hc).mono fun e W' ⟨he, hb⟩ => ?_
  subst he
  refine ⟨_, rfl, _, _, _, [], [], [], hW', ?_, ?_, ?_, hb.frame _, fun h => by cases h⟩
  · exact trodAll_mk1 (shut_bool Tryz.underlying4 true)
  · exact trodAll_mk3 (ra _ _ _ _) (shut_int Tryz.underlying5 wn) (shut_int Tryz.underlying5 wm)
  · rfl
theorem powerEnds_holds : Rows.PowerEndsSaid :=
  OpenClaim.holds_of_wide 10 Tryz.f10 rfl rfl rfl rfl rfl rfl rfl ⟨rfl, rfl, rfl, rfl, rfl⟩ rfl rfl rfl rfl rfl zk Tryz.func10 zk
    (of_decide_eq_true zk) (by unfold Func.isWrapper; first | (rw [if_pos (by decide +kernel)]; kernel_rfl) | (rw [if_neg (by decide +kernel)]; exact ⟨rfl, rfl⟩))
    (fun os started H enc _ => powerEnds_lifted os started H enc)
theorem wants8 : Tryz.prog.wantsStandIn 5 = false := by kernel_rfl
theorem wantsD : Tryz.prog.wantsStandIn 26 = false := by kernel_rfl
theorem powerEnds_card : Rows.PowerEndsCardSaid :=
  Claim7.holds_tied_plain_at .later [] [.data, .data, .data, .sentinel, .sentinel] true (true, "bc1bf536eb06bf18bc4c231e9aa64150270bda42f4b23e044d7bfc9ab11b0e23") true
    powerEnds_holds (fun _ h => by cases h) zk (fun _ h => by cases h) powerEnds_row_tie rfl ⟨rfl, rfl⟩ zk rfl
    (fun f fn hf hfn => by
      obtain rfl : f = 10 := Option.some.inj ((show Tryz.prog.funcNamed "verdigris/verdigrislaw04.PowerEnds" = some 10 by kernel_rfl).symm.trans hf) |>.symm
      obtain rfl : fn = Tryz.f10 := (Option.some.inj (Tryz.func10.symm.trans hfn)).symm
      exact ⟨by kernel_rfl, fun j t ht => by
        rw [Tryz.params10] at ht
        have ht' : t = 26 ∨ t = 5 := by
          rcases j with _ | _ | _ | j <;> simp at ht
          · exact .inl ht.symm
          · exact .inr ht.symm
          · exact .inr ht.symm
        rcases ht' with rfl | rfl
        · exact wantsD
        · exact wants8⟩)
    zk
end Go.Proofs.YtpoecfpbafpokaaGreatDoor
