/- Lemmas for the proof. No condition. -/
import Derived.Test.YtpoecfpbafpokaaGreatDoorSB01
import Derived.Test.YtpoecfpbafpokaaGreatDoorSB10
set_option linter.unusedVariables false
set_option linter.unusedSimpArgs false
set_option maxRecDepth 100000
set_option maxHeartbeats 16000000
namespace Go.Proofs.verdigrisref04
open Go Go.RowKit Go.SW Go.Num Go.Mem Go.Proofs Go.Dec Go.Fra Go.Proofs.band Go.Proofs.verdigrisref02 Go.Proofs.verdigrisref03 Go.Proofs.power
structure Seek (X : Rat) (q r : Nat) : Prop where
  q12 : q ≤ 12
  big : szq 10000000000 X
  iff : ∀ m, cmpq (rN m ^ q) X ≤ 0 ↔ m ≤ r
theorem down_ok (x : Value) (X : Rat) (q r : Nat) (w : World) (hx : Ra w x X) (hs : Seek X q r) : Calls Tryz.prog 52 #[x, .int .i64 q] w (fun e w' => e = .returned (.int .i64 (min r 1000000000000000001 : Nat)) ∧ Below w.heap.size w w') := by
  obtain ⟨bA, paA, lA, caA, bAd, paAd, lAd, caAd, rfl, -⟩ := id hx
  have NX := zh hx
  have HS := zh hs
  clear hx hs
  go_enter Tryz.func52, Tryz.ntmps52
  go_wp2_with fail
  obtain ⟨wx, EW, hz, X2⟩ := al1 w #[.bool bA, .slice paA lA caA, .bool bAd, .slice paAd lAd caAd] 97
  rw [EW]
  clear EW
  have HB := zh hz
  clear hz
  go_loopw [5, 6, 7] (fun lv hv _ wr => ∃ (lo hi : Nat), lv = .int .i64 (lo : Int) ∧ hv = .int .i64 (hi : Int) ∧ Hid (lo < hi) ∧ Hid (hi ≤ 1000000000000000002) ∧ Hid (lo ≤ r) ∧ Hid (hi = 1000000000000000002 ∨ r < hi) ∧ Hid (Box wr w.heap.size #[.bool bA, .slice paA lA caA, .bool bAd, .slice paAd lAd caAd] 97) ∧ Hid (Below w.heap.size w wr)) (fun lv hv _ _ => (intOf hv - intOf lv).toNat)
  case atStart => exact ⟨0, 1000000000000000002, rfl, rfl, zh zo, zh zo, zh zo, zh (.inl rfl), X2, HB⟩
  case round =>
    clear X2 HB
    obtain ⟨lo, hi, rfl, rfl, HLO, HHI, HL, HR, X2, HB⟩ := hrel
    have k1 := HLO.out
    have k2 := HHI.out
    by_cases hgt : 1 < hi - lo
    · have hg1 : (1 : Int) < (hi : Int) - (lo : Int) := by omega
      obtain ⟨m, hm⟩ : ∃ m, (lo + hi) / 2 = m := ⟨_, rfl⟩
      have hm3 : Int.tdiv ((lo : Int) + (hi : Int)) 2 = (m : Int) := by rw [Int.tdiv_eq_ediv_of_nonneg zo]; omega
      have HM : Hid (lo < m ∧ m < hi) := zh zo
      obtain ⟨c2, l2⟩ := X2.cl
      go_wp2_with fail
      clear hm3 hg1 hgt hm
      refine wp_region_walk [(.pure, 0), (.pure, 2), (.read, 4), (.ext, 1), (.ext, 3), (.ext, 5), (.pure, 6)] zk zk zR zP ?_
      refine Wk.out ?_
      repeat (first | (apply wk_skip; (rfl); (rfl); (rfl); (intro J hJ; go_simp; (with_reducible refine hJ _ ?_); clear hJ J)) | (apply wk_len; (rfl); (rfl); (rfl); (rfl); (exact zk); (intro J hJ; go_simp; (with_reducible refine hJ _ ?_); clear hJ J)) | (apply wk_pure; (rfl); (rfl); (intro J hJ; go_simp; (with_reducible refine hJ _ ?_); clear hJ J)) | (apply wk_load; (rfl); (rfl); (rfl); (rfl); (intro J hJ; go_simp; (with_reducible refine hJ _ ?_); clear hJ J; try go_simp)))
      refine wk_ext rfl rfl (fun w1 hb1 J hJ => ?_)
      have hz1 : Below wr.heap.size wr w1 := belA
      go_simp
      refine (Value_ok m (by have := HM.out; omega) w1).mono ?_
      rintro e w2 ⟨v2, rfl, hb2, hv2⟩
      refine hJ _ _ hb2 ?_
      have hz2 := Bt hz1 hb2
      obtain ⟨b2, p2, n2, e2, d2, p2d, n2d, e2d, rfl, -⟩ := id hv2
      have HV := zh hv2
      clear hJ J hv2 hb1 hb2 hz1
      repeat (first | (apply wk_skip; (rfl); (rfl); (rfl); (intro J hJ; go_simp; (with_reducible refine hJ _ ?_); clear hJ J)) | (apply wk_len; (rfl); (rfl); (rfl); (rfl); (exact zk); (intro J hJ; go_simp; (with_reducible refine hJ _ ?_); clear hJ J)) | (apply wk_pure; (rfl); (rfl); (intro J hJ; go_simp; (with_reducible refine hJ _ ?_); clear hJ J)) | (apply wk_load; (rfl); (rfl); (rfl); (rfl); (intro J hJ; go_simp; (with_reducible refine hJ _ ?_); clear hJ J; try go_simp)))
      refine wk_ext rfl rfl (fun w3 hb3 J hJ => ?_)
      have hz3 := Bt hz2 hb3
      go_simp
      refine (rN_raised m q (by have := HM.out; omega) (by have := HS.out.q12; omega) _ w3 (HV.out.later hb3)).mono ?_
      rintro e w4 ⟨v4, rfl, hb4, hv4⟩
      refine hJ _ _ hb4 ?_
      have hz4 := Bt hz3 hb4
      obtain ⟨b4, p4, n4, e4, d4, p4d, n4d, e4d, rfl, -⟩ := id hv4
      replace HV := zh hv4
      clear hJ J hv4 hb3 hb4 hz3 hz2
      repeat (first | (apply wk_skip; (rfl); (rfl); (rfl); (intro J hJ; go_simp; (with_reducible refine hJ _ ?_); clear hJ J)) | (apply wk_len; (rfl); (rfl); (rfl); (rfl); (exact zk); (intro J hJ; go_simp; (with_reducible refine hJ _ ?_); clear hJ J)) | (apply wk_pure; (rfl); (rfl); (intro J hJ; go_simp; (with_reducible refine hJ _ ?_); clear hJ J)) | (apply wk_load; (rfl); (rfl); (rfl); (rfl); (intro J hJ; go_simp; (with_reducible refine hJ _ ?_); clear hJ J; try go_simp)))
      refine wk_ext rfl rfl (fun w5 hb5 J hJ => ?_)
      have hz5 := Bt hz4 hb5
      go_simp
      refine (verdigrisref02.Order_ok _ _ (rN m ^ q) X w5 (HV.out.later hb5) (NX.out.later (Bt HB.out hz5)) ((okq_sz (rN_pow_ok (by have := HM.out; omega) HS.out.q12)).mono zo) HS.out.big).mono ?_
      rintro e w6 ⟨rfl, hb6⟩
      refine hJ _ _ hb6 ?_
      have hz6 := Bt hz5 hb6
      clear hJ J hb5 hb6 hz5 hz4 HV c2 l2
      have HI := zh (HS.out.iff m)
      generalize cmpq (rN m ^ q) X = cv at *
      by_cases hle : m ≤ r
      · have hcv : cv ≤ 0 := HI.out.2 hle
        have HLE := zh hle
        clear hle
        repeat (first | (apply wk_skip; (rfl); (rfl); (rfl); (intro J hJ; go_simp; (with_reducible refine hJ _ ?_); clear hJ J)) | (apply wk_len; (rfl); (rfl); (rfl); (rfl); (exact zk); (intro J hJ; go_simp; (with_reducible refine hJ _ ?_); clear hJ J)) | (apply wk_pure; (rfl); (rfl); (intro J hJ; go_simp; (with_reducible refine hJ _ ?_); clear hJ J)) | (apply wk_load; (rfl); (rfl); (rfl); (rfl); (intro J hJ; go_simp; (with_reducible refine hJ _ ?_); clear hJ J; try go_simp)))
        refine wk_nil fun wf hbf => ?_
        replace X2 := (X2.bl hz6).bl hbf
        replace HB := zh (Bt (Bt HB.out hz6) hbf)
        clear hz6 hbf
        go_wp2_with fail
        go_roundw
        case rel => exact ⟨m, hi, rfl, rfl, zh HM.out.2, HHI, HLE, HR, X2, HB⟩
        case measure => have := HM.out; simp [intOf]; omega
      · have hcv : ¬ cv ≤ 0 := fun h => hle (HI.out.1 h)
        have HLE := zh (Nat.lt_of_not_le hle)
        clear hle
        repeat (first | (apply wk_skip; (rfl); (rfl); (rfl); (intro J hJ; go_simp; (with_reducible refine hJ _ ?_); clear hJ J)) | (apply wk_len; (rfl); (rfl); (rfl); (rfl); (exact zk); (intro J hJ; go_simp; (with_reducible refine hJ _ ?_); clear hJ J)) | (apply wk_pure; (rfl); (rfl); (intro J hJ; go_simp; (with_reducible refine hJ _ ?_); clear hJ J)) | (apply wk_load; (rfl); (rfl); (rfl); (rfl); (intro J hJ; go_simp; (with_reducible refine hJ _ ?_); clear hJ J; try go_simp)))
        refine wk_nil fun wf hbf => ?_
        replace X2 := (X2.bl hz6).bl hbf
        replace HB := zh (Bt (Bt HB.out hz6) hbf)
        clear hz6 hbf
        go_wp2_with fail
        go_roundw
        case rel => exact ⟨lo, m, rfl, rfl, zh HM.out.1, zh (by have := HM.out; omega), HL, zh (.inr HLE.out), X2, HB⟩
        case measure => have := HM.out; simp [intOf]; omega
    · have hg1 : ¬ (1 : Int) < (hi : Int) - (lo : Int) := by omega
      obtain rfl : hi = lo + 1 := by omega
      have HE : Hid (lo = min r 1000000000000000001) := zh (by have := HL.out; have := HR.out; omega)
      go_wp2_with fail
      go_ret
      exact ⟨by rw [← HE.out]; rfl, HB.out⟩
def upN (X : Rat) (q r : Nat) : Nat := if cmpq (rN (min r 1000000000000000001) ^ q) X < 0 then min r 1000000000000000001 + 1 else min r 1000000000000000001
theorem up_ok (x : Value) (X : Rat) (q r : Nat) (w : World) (hx : Ra w x X) (hs : Seek X q r) : Calls Tryz.prog 55 #[x, .int .i64 q] w (fun e w' => e = .returned (.int .i64 (upN X q r : Nat)) ∧ Below w.heap.size w w') := by
  obtain ⟨bA, paA, lA, caA, bAd, paAd, lAd, caAd, rfl, -⟩ := id hx
  have NX := zh hx
  have HS := zh hs
  clear hx hs
  obtain ⟨U, EU⟩ : ∃ y, upN X q r = y := ⟨_, rfl⟩
  rw [EU]
  have HU := zh EU
  clear EU
  unfold upN at HU
  have hD := zh (fun (v : Value) W (h : Ra W v X) => down_ok v X q r W h HS.out)
  have hm : min r 1000000000000000001 ≤ 1000000000000000001 := by omega
  generalize min r 1000000000000000001 = m at *
  have HM := zh hm
  go_enter Tryz.func55, Tryz.ntmps55
  go_wp2_with fail
  obtain ⟨wx, EW, hz, X2⟩ := al1 w #[.bool bA, .slice paA lA caA, .bool bAd, .slice paAd lAd caAd] 97
  rw [EW]
  clear EW
  refine (hD.out _ _ (NX.out.later hz)).mono ?_
  rintro e wr ⟨rfl, hb⟩
  replace X2 := X2.bl hb
  have HB := zh (Bt hz hb)
  clear hz hb hD
  obtain ⟨c2, l2⟩ := X2.cl
  go_wp2_with fail
  refine wp_region_walk [(.pure, 0), (.pure, 2), (.read, 4), (.ext, 1), (.ext, 3), (.ext, 5), (.pure, 6)] zk zk zR zP ?_
  refine Wk.out ?_
  repeat (first | (apply wk_skip; (rfl); (rfl); (rfl); (intro J hJ; go_simp; (with_reducible refine hJ _ ?_); clear hJ J)) | (apply wk_len; (rfl); (rfl); (rfl); (rfl); (exact zk); (intro J hJ; go_simp; (with_reducible refine hJ _ ?_); clear hJ J)) | (apply wk_pure; (rfl); (rfl); (intro J hJ; go_simp; (with_reducible refine hJ _ ?_); clear hJ J)) | (apply wk_load; (rfl); (rfl); (rfl); (rfl); (intro J hJ; go_simp; (with_reducible refine hJ _ ?_); clear hJ J; try go_simp)))
  refine wk_ext rfl rfl (fun w1 hb1 J hJ => ?_)
  have hz1 : Below wr.heap.size wr w1 := belA
  go_simp
  refine (Value_ok m (by have := HM.out; omega) w1).mono ?_
  rintro e w2 ⟨v2, rfl, hb2, hv2⟩
  refine hJ _ _ hb2 ?_
  have hz2 := Bt hz1 hb2
  obtain ⟨b2, p2, n2, e2, d2, p2d, n2d, e2d, rfl, -⟩ := id hv2
  have HV := zh hv2
  clear hJ J hv2 hb1 hb2 hz1
  repeat (first | (apply wk_skip; (rfl); (rfl); (rfl); (intro J hJ; go_simp; (with_reducible refine hJ _ ?_); clear hJ J)) | (apply wk_len; (rfl); (rfl); (rfl); (rfl); (exact zk); (intro J hJ; go_simp; (with_reducible refine hJ _ ?_); clear hJ J)) | (apply wk_pure; (rfl); (rfl); (intro J hJ; go_simp; (with_reducible refine hJ _ ?_); clear hJ J)) | (apply wk_load; (rfl); (rfl); (rfl); (rfl); (intro J hJ; go_simp; (with_reducible refine hJ _ ?_); clear hJ J; try go_simp)))
  refine wk_ext rfl rfl (fun w3 hb3 J hJ => ?_)
  have hz3 := Bt hz2 hb3
  go_simp
  refine (rN_raised m q (by have := HM.out; omega) (by have := HS.out.q12; omega) _ w3 (HV.out.later hb3)).mono ?_
  rintro e w4 ⟨v4, rfl, hb4, hv4⟩
  refine hJ _ _ hb4 ?_
  have hz4 := Bt hz3 hb4
  obtain ⟨b4, p4, n4, e4, d4, p4d, n4d, e4d, rfl, -⟩ := id hv4
  replace HV := zh hv4
  clear hJ J hv4 hb3 hb4 hz3 hz2
  repeat (first | (apply wk_skip; (rfl); (rfl); (rfl); (intro J hJ; go_simp; (with_reducible refine hJ _ ?_); clear hJ J)) | (apply wk_len; (rfl); (rfl); (rfl); (rfl); (exact zk); (intro J hJ; go_simp; (with_reducible refine hJ _ ?_); clear hJ J)) | (apply wk_pure; (rfl); (rfl); (intro J hJ; go_simp; (with_reducible refine hJ _ ?_); clear hJ J)) | (apply wk_load; (rfl); (rfl); (rfl); (rfl); (intro J hJ; go_simp; (with_reducible refine hJ _ ?_); clear hJ J; try go_simp)))
  refine wk_ext rfl rfl (fun w5 hb5 J hJ => ?_)
  have hz5 := Bt hz4 hb5
  go_simp
  refine (verdigrisref02.Order_ok _ _ (rN m ^ q) X w5 (HV.out.later hb5) (NX.out.later (Bt HB.out hz5)) ((okq_sz (rN_pow_ok (by have := HM.out; omega) HS.out.q12)).mono zo) HS.out.big).mono ?_
  rintro e w6 ⟨rfl, hb6⟩
  refine hJ _ _ hb6 ?_
  have hz6 := Bt hz5 hb6
  clear hJ J hb5 hb6 hz5 hz4 HV c2 l2
  generalize cmpq (rN m ^ q) X = cv at *
  by_cases hcv : cv < 0
  · rw [if_pos hcv] at HU
    have hw : IntKind.i64.wrap ((m : Int) + 1) = (m : Int) + 1 := by rw [IntKind.wrap_i64]; omega
    repeat (first | (apply wk_skip; (rfl); (rfl); (rfl); (intro J hJ; go_simp; (with_reducible refine hJ _ ?_); clear hJ J)) | (apply wk_len; (rfl); (rfl); (rfl); (rfl); (exact zk); (intro J hJ; go_simp; (with_reducible refine hJ _ ?_); clear hJ J)) | (apply wk_pure; (rfl); (rfl); (intro J hJ; go_simp; (with_reducible refine hJ _ ?_); clear hJ J)) | (apply wk_load; (rfl); (rfl); (rfl); (rfl); (intro J hJ; go_simp; (with_reducible refine hJ _ ?_); clear hJ J; try go_simp)))
    refine wk_nil fun wf hbf => ?_
    replace HB := zh (Bt (Bt HB.out hz6) hbf)
    clear hz6 hbf
    go_wp2_with fail
    go_ret
    exact ⟨by rw [← HU.out]; rfl, HB.out⟩
  · rw [if_neg hcv] at HU
    repeat (first | (apply wk_skip; (rfl); (rfl); (rfl); (intro J hJ; go_simp; (with_reducible refine hJ _ ?_); clear hJ J)) | (apply wk_len; (rfl); (rfl); (rfl); (rfl); (exact zk); (intro J hJ; go_simp; (with_reducible refine hJ _ ?_); clear hJ J)) | (apply wk_pure; (rfl); (rfl); (intro J hJ; go_simp; (with_reducible refine hJ _ ?_); clear hJ J)) | (apply wk_load; (rfl); (rfl); (rfl); (rfl); (intro J hJ; go_simp; (with_reducible refine hJ _ ?_); clear hJ J; try go_simp)))
    refine wk_nil fun wf hbf => ?_
    replace HB := zh (Bt (Bt HB.out hz6) hbf)
    clear hz6 hbf
    go_wp2_with fail
    go_ret
    exact ⟨by rw [← HU.out]; rfl, HB.out⟩
end Go.Proofs.verdigrisref04
