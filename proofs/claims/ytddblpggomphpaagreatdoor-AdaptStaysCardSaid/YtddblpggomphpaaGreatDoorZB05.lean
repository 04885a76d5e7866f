/- Lemmas for the proof. No condition. -/
import Derived.Test.YtddblpggomphpaaGreatDoorZB04
set_option linter.unusedVariables false
set_option linter.unusedSimpArgs false
namespace Go.Proofs.frac
open Go Go.RowKit Go.SW Go.Num Go.Mem Go.Proofs Go.Dec Go.Fra
set_option maxRecDepth 10000 in
set_option maxHeartbeats 400000 in
theorem div_bad (s t s' t' : ByteArray) (w : World) (h : rd ⟨s, t⟩ = none ∨ rd ⟨s', t'⟩ = none) :
  Calls Tryz.prog 87 #[.agg #[.string s, .string t], .agg #[.string s', .string t']] w (fun e w' => e = .returned (.tuple #[.agg #[.string ⟨#[]⟩, .string ⟨#[]⟩], .int .i64 20]) ∧ Below w.heap.size w w') := by
 cases h1 : rd ⟨s, t⟩ with
 | none =>
  have HR := Lib.hid (read_not h1)
  cases k : rd ⟨s', t'⟩ with
  | none =>
   have HS := Lib.hid (read_not k)
   clear h k h1
   go_enter Tryz.func87, Tryz.ntmps87
   go_wp2_with fail
   refine (HR.out _).mono ?_
   rintro e v1 ⟨rfl, hc1⟩
   have BR := Box.later (Box.at2 _ _ _ _ _) hc1; have cBR := BR.cell; have fBR := BR.free; have lBR := BR.lt
   have B1 := Box.later (Box.alloc (Box.at1 _ _ _ _) _) hc1; have cB1 := B1.cell; have fB1 := B1.free; have lB1 := B1.lt
   go_wp2_with fail
   refine (HS.out _).mono ?_
   rintro e v2 ⟨rfl, hc2⟩
   replace BR : Box _ (w.heap.size + 1 + 1) _ _ := Box.later boxA hc2; (try simp only [List.setIfInBounds_toArray, List.set_cons_zero, List.set_cons_succ] at BR); replace cBR := BR.cell; replace fBR := BR.free; replace lBR := BR.lt
   go_wp2_with fail
   refine ret_ct rfl rfl boxA Tryz.underlying36 rfl (by kernel_rfl) ?_
   exact ⟨rfl, belA⟩
  | some q =>
   have HS := Lib.hid (read_of k)
   clear h k h1
   go_enter Tryz.func87, Tryz.ntmps87
   go_wp2_with fail
   refine (HR.out _).mono ?_
   rintro e v1 ⟨rfl, hc1⟩
   have BR := Box.later (Box.at2 _ _ _ _ _) hc1; have cBR := BR.cell; have fBR := BR.free; have lBR := BR.lt
   have B1 := Box.later (Box.alloc (Box.at1 _ _ _ _) _) hc1; have cB1 := B1.cell; have fB1 := B1.free; have lB1 := B1.lt
   go_wp2_with fail
   refine (HS.out _).mono ?_
   rintro e v2 ⟨v, rfl, hc2, hv⟩
   obtain ⟨paHq, lHq, caHq, pbHq, mHq, cbHq, rfl, Hq, Hqd⟩ := hv; replace Hq := Lib.hid Hq; replace Hqd := Lib.hid Hqd
   replace BR : Box _ (w.heap.size + 1 + 1) _ _ := Box.later boxA hc2; (try simp only [List.setIfInBounds_toArray, List.set_cons_zero, List.set_cons_succ] at BR); replace cBR := BR.cell; replace fBR := BR.free; replace lBR := BR.lt
   go_wp2_with fail
   refine ret_ct rfl rfl boxA Tryz.underlying36 rfl (by kernel_rfl) ?_
   exact ⟨rfl, belA⟩
 | some p =>
  have HR := Lib.hid (read_of h1)
  cases k : rd ⟨s', t'⟩ with
  | none =>
   have HS := Lib.hid (read_not k)
   clear h k h1
   go_enter Tryz.func87, Tryz.ntmps87
   go_wp2_with fail
   refine (HR.out _).mono ?_
   rintro e v1 ⟨v, rfl, hc1, hv⟩
   obtain ⟨paHp, lHp, caHp, pbHp, mHp, cbHp, rfl, Hp, Hpd⟩ := hv; replace Hp := Lib.hid Hp; replace Hpd := Lib.hid Hpd
   have BR := Box.later (Box.at2 _ _ _ _ _) hc1; have cBR := BR.cell; have fBR := BR.free; have lBR := BR.lt
   have B1 := Box.later (Box.alloc (Box.at1 _ _ _ _) _) hc1; have cB1 := B1.cell; have fB1 := B1.free; have lB1 := B1.lt
   go_wp2_with fail
   refine (HS.out _).mono ?_
   rintro e v2 ⟨rfl, hc2⟩
   replace BR : Box _ (w.heap.size + 1 + 1) _ _ := Box.later boxA hc2; (try simp only [List.setIfInBounds_toArray, List.set_cons_zero, List.set_cons_succ] at BR); replace cBR := BR.cell; replace fBR := BR.free; replace lBR := BR.lt
   go_wp2_with fail
   refine ret_ct rfl rfl boxA Tryz.underlying36 rfl (by kernel_rfl) ?_
   exact ⟨rfl, belA⟩
  | some q => rw [h1, k] at h; simp at h
set_option maxRecDepth 10000 in
set_option maxHeartbeats 400000 in
theorem div_zero (s t s' t' : ByteArray) (w : World) (p : Rat) (h : rd ⟨s, t⟩ = some p) (k : rd ⟨s', t'⟩ = some 0) :
  Calls Tryz.prog 87 #[.agg #[.string s, .string t], .agg #[.string s', .string t']] w (fun e w' => e = .returned (.tuple #[.agg #[.string ⟨#[]⟩, .string ⟨#[]⟩], .int .i64 7]) ∧ Below w.heap.size w w') := by
 have HR := Lib.hid (read_of h)
 have HS := Lib.hid (read_of k)
 clear h k
 obtain ⟨n, En⟩ : ∃ y : Nat, Hid ((0 : Rat).num.natAbs = y) := ⟨_, Lib.hid rfl⟩
 have hz : decide (n = 0) = true := by rw [← En.out]; rfl
 have HZ := Lib.hid hz
 clear hz
 go_enter Tryz.func87, Tryz.ntmps87
 go_wp2_with fail
 refine (HR.out _).mono ?_
 rintro e v1 ⟨v, rfl, hc1, hv⟩
 obtain ⟨paHp, lHp, caHp, pbHp, mHp, cbHp, rfl, Hp, Hpd⟩ := hv; replace Hp := Lib.hid Hp; replace Hpd := Lib.hid Hpd
 have BR := Box.later (Box.at2 _ _ _ _ _) hc1; have cBR := BR.cell; have fBR := BR.free; have lBR := BR.lt
 have B1 := Box.later (Box.alloc (Box.at1 _ _ _ _) _) hc1; have cB1 := B1.cell; have fB1 := B1.free; have lB1 := B1.lt
 go_wp2_with fail
 refine (HS.out _).mono ?_
 rintro e v2 ⟨v, rfl, hc2, hv⟩
 obtain ⟨paHq, lHq, caHq, pbHq, mHq, cbHq, rfl, Hq, Hqd⟩ := hv; replace Hq := Lib.hid Hq; replace Hqd := Lib.hid Hqd
 replace BR : Box _ (w.heap.size + 1 + 1) _ _ := Box.later boxA hc2; (try simp only [List.setIfInBounds_toArray, List.set_cons_zero, List.set_cons_succ] at BR); replace cBR := BR.cell; replace fBR := BR.free; replace lBR := BR.lt
 go_wp2_with fail
 rw [En.out] at Hq
 refine (zero_ok _ n _ magA).mono ?_
 rintro e v5 ⟨rfl, rfl⟩
 rw [HZ.out]
 go_wp2_with fail
 refine ret_ct rfl rfl boxA Tryz.underlying36 rfl (by kernel_rfl) ?_
 exact ⟨rfl, belA⟩
set_option maxRecDepth 10000 in
set_option maxHeartbeats 1000000 in
theorem div_some (s t s' t' : ByteArray) (w : World) (p q : Rat) (h : rd ⟨s, t⟩ = some p) (k : rd ⟨s', t'⟩ = some q) (h0 : q ≠ 0) (ht : Bld.Pow w) :
  Calls Tryz.prog 87 #[.agg #[.string s, .string t], .agg #[.string s', .string t']] w (fun e w' => e = .returned (Fr.res (wr (p / q))) ∧ Below w.heap.size w w') := by
 have HR := Lib.hid (read_of h)
 have HS := Lib.hid (read_of k)
 have kp := okq_sz (of_rd h).2
 have kq := okq_sz (of_rd k).2
 have ki := szq_inv kq h0
 have hz : decide (q.num.natAbs = 0) = false := by
  simp [h0]
 have HZ := Lib.hid hz
 have HQ0 := Lib.hid h0
 have HT := Lib.hid ht
 rw [Rat.div_def]
 have km := szq_mul kp ki
 obtain ⟨i, Ei⟩ : ∃ y : Rat, Hid (q⁻¹ = y) := ⟨_, Lib.hid rfl⟩
 rw [Ei.out] at km ki ⊢
 obtain ⟨r, Er⟩ : ∃ y : Rat, Hid (p * i = y) := ⟨_, Lib.hid rfl⟩
 rw [Er.out] at km ⊢
 have KP := Lib.hid (kp.mono (show 67 ≤ 1000000 by omega))
 have KI := Lib.hid (ki.mono (show 67 ≤ 1000000 by omega))
 have KR := Lib.hid (km.mono (show 2 * 67 ≤ 1000000 by omega))
 obtain ⟨x, Ex⟩ : ∃ y : FrI, Hid (wr r = y) := ⟨_, Lib.hid rfl⟩
 rw [Ex.out]
 obtain ⟨⟨s1, t1⟩, e⟩ := x
 rw [res_mk]
 clear h k kp kq ki hz h0 ht km
 go_enter Tryz.func87, Tryz.ntmps87
 go_wp2_with fail
 refine (HR.out _).mono ?_
 rintro e v1 ⟨v, rfl, hc1, hv⟩
 obtain ⟨paHp, lHp, caHp, pbHp, mHp, cbHp, rfl, Hp, Hpd⟩ := hv; replace Hp := Lib.hid Hp; replace Hpd := Lib.hid Hpd
 have BR := Box.later (Box.at2 _ _ _ _ _) hc1; have cBR := BR.cell; have fBR := BR.free; have lBR := BR.lt
 have B1 := Box.later (Box.alloc (Box.at1 _ _ _ _) _) hc1; have cB1 := B1.cell; have fB1 := B1.free; have lB1 := B1.lt
 go_wp2_with fail
 refine (HS.out _).mono ?_
 rintro e v2 ⟨v, rfl, hc2, hv⟩
 obtain ⟨paHq, lHq, caHq, pbHq, mHq, cbHq, rfl, Hq, Hqd⟩ := hv; replace Hq := Lib.hid Hq; replace Hqd := Lib.hid Hqd
 replace Hp := Lib.hid (Mag.carry Hp.out magA hc2)
 replace Hpd := Lib.hid (Mag.carry Hpd.out magA hc2)
 replace X1 : Box _ (v1.heap.size) _ _ := Box.later boxA hc2; (try simp only [List.setIfInBounds_toArray, List.set_cons_zero, List.set_cons_succ] at X1); replace cX1 := X1.cell; replace fX1 := X1.free; replace lX1 := X1.lt
 replace BR : Box _ (w.heap.size + 1 + 1) _ _ := Box.later boxA hc2; (try simp only [List.setIfInBounds_toArray, List.set_cons_zero, List.set_cons_succ] at BR); replace cBR := BR.cell; replace fBR := BR.free; replace lBR := BR.lt
 go_wp2_with fail
 refine (zero_ok _ q.num.natAbs _ magA).mono ?_
 rintro e v5 ⟨rfl, rfl⟩
 rw [HZ.out]
 go_wp2_with fail
 refine wp_region_walk [(.read, 0), (.read, 1), (.ext, 2), (.ext, 3), (.ext, 4), (.pure, 5), (.pure, 6), (.fin, 7), (.fin, 8)] (by kernel_rfl) (by kernel_rfl) (allocRuns_of (by kernel_rfl)) (fun _ _ _ _ hd h => And.intro (hd.trans (And.left h)) (And.right h)) ?_
 repeat (first | (refine walk_pure0 rfl rfl (fun J hJ => ?_); go_simp; refine hJ _ ?_; clear hJ J) | (refine walk_load rfl rfl rfl rfl (fun J hJ => ?_); go_simp; refine hJ _ ?_; clear hJ J; try go_simp))
 refine walk_ext rfl rfl (fun w3 hb3 J hJ => ?_); go_simp
 replace Hp := Lib.hid (Mag.carry Hp.out magA hb3)
 replace Hpd := Lib.hid (Mag.carry Hpd.out magA hb3)
 replace BR : Box _ (w.heap.size + 1 + 1) _ _ := Box.later boxA hb3; (try simp only [List.setIfInBounds_toArray, List.set_cons_zero, List.set_cons_succ] at BR); replace cBR := BR.cell; replace fBR := BR.free; replace lBR := BR.lt
 refine ((inverse_ok _ q _ (RatV.of magA magA) HQ0.out).mono (by rw [Ei.out]; exact fun _ _ h => h)).mono ?_
 rintro e v3 ⟨v, rfl, hc3, hv⟩
 obtain ⟨paHv, lHv, caHv, pbHv, mHv, cbHv, rfl, Hv, Hvd⟩ := hv; replace Hv := Lib.hid Hv; replace Hvd := Lib.hid Hvd
 replace Hp := Lib.hid (Mag.later Hp.out hc3)
 replace Hpd := Lib.hid (Mag.later Hpd.out hc3)
 replace BR := Box.later (BR) hc3; replace cBR := BR.cell; replace fBR := BR.free; replace lBR := BR.lt
 refine hJ _ _ hc3 ?_
 clear hJ J
 refine walk_ext rfl rfl (fun w4 hb4 J hJ => ?_); go_simp
 replace Hp := Lib.hid (Mag.later Hp.out hb4)
 replace Hpd := Lib.hid (Mag.later Hpd.out hb4)
 replace Hv := Lib.hid (Mag.later Hv.out hb4)
 replace Hvd := Lib.hid (Mag.later Hvd.out hb4)
 replace BR := Box.later (BR) hb4; replace cBR := BR.cell; replace fBR := BR.free; replace lBR := BR.lt
 refine ((mul_ok _ _ p i _ (RatV.of magA magA) (RatV.of magA magA) KP.out KI.out).mono (by rw [Er.out]; exact fun _ _ h => h)).mono ?_
 rintro e v4 ⟨v, rfl, hc4, hv⟩
 obtain ⟨paHr, lHr, caHr, pbHr, mHr, cbHr, rfl, Hr, Hrd⟩ := hv; replace Hr := Lib.hid Hr; replace Hrd := Lib.hid Hrd
 replace Hp := Lib.hid (Mag.later Hp.out hc4)
 replace Hpd := Lib.hid (Mag.later Hpd.out hc4)
 replace Hv := Lib.hid (Mag.later Hv.out hc4)
 replace Hvd := Lib.hid (Mag.later Hvd.out hc4)
 replace BR := Box.later (BR) hc4; replace cBR := BR.cell; replace fBR := BR.free; replace lBR := BR.lt
 refine hJ _ _ hc4 ?_
 clear hJ J
 refine walk_ext rfl rfl (fun w5 hb5 J hJ => ?_); go_simp
 replace Hr := Lib.hid (Mag.later Hr.out hb5)
 replace Hrd := Lib.hid (Mag.later Hrd.out hb5)
 replace BR := Box.later (BR) hb5; replace cBR := BR.cell; replace fBR := BR.free; replace lBR := BR.lt
 refine ((write_ok _ r _ (RatV.of magA magA) KR.out (HT.out.later belA)).mono (by rw [Ex.out, res_mk]; exact fun _ _ h => h)).mono ?_
 rintro e v5 ⟨rfl, hc5⟩
 replace Hr := Lib.hid (Mag.later Hr.out hc5)
 replace Hrd := Lib.hid (Mag.later Hrd.out hc5)
 replace BR := Box.later (BR) hc5; replace cBR := BR.cell; replace fBR := BR.free; replace lBR := BR.lt
 refine hJ _ _ hc5 ?_
 clear hJ J
 repeat (first | (refine walk_pure0 rfl rfl (fun J hJ => ?_); go_simp; refine hJ _ ?_; clear hJ J) | (refine walk_load rfl rfl rfl rfl (fun J hJ => ?_); go_simp; refine hJ _ ?_; clear hJ J; try go_simp))
 refine walk_fin [_, _] rfl (fun w9 hb9 => ?_)
 replace BR := Box.later (BR) hb9; replace cBR := BR.cell; replace fBR := BR.free; replace lBR := BR.lt
 go_wp2_with fail
 refine ret_ct rfl rfl boxA Tryz.underlying36 rfl (by kernel_rfl) ?_
 exact ⟨rfl, belA⟩
theorem Div_ok (a b : Fr) (w : World) (ht : Bld.Pow w) :
  Calls Tryz.prog 87 #[a.v, b.v] w (fun e w' => e = .returned (Fr.res (divF a b)) ∧ Below w.heap.size w w') := by
 obtain ⟨s, t⟩ := a
 obtain ⟨s', t'⟩ := b
 show Calls _ _ #[.agg #[.string s, .string t], .agg #[.string s', .string t']] _ _
 unfold divF
 by_cases hbad : rd ⟨s, t⟩ = none ∨ rd ⟨s', t'⟩ = none
 ·have e : ∀ f, bin f ⟨s, t⟩ ⟨s', t'⟩ = (Fr.no, 20) := fun f => by
   rcases hbad with h | h
   ·exact bin_no1 h
   ·exact bin_no2 h
  rw [e]
  exact div_bad s t s' t' w hbad
 ·obtain ⟨p, hp⟩ : ∃ p, rd ⟨s, t⟩ = some p := Option.ne_none_iff_exists'.1 (fun e => hbad (.inl e))
  obtain ⟨q, hq⟩ : ∃ q, rd ⟨s', t'⟩ = some q := Option.ne_none_iff_exists'.1 (fun e => hbad (.inr e))
  rw [bin_some hp hq]
  by_cases h0 : q = 0
  ·rw [if_pos h0]
   subst h0
   exact div_zero s t s' t' w p hp hq
  ·rw [if_neg h0]
   exact div_some s t s' t' w p q hp hq h0 ht
end Go.Proofs.frac
namespace Go.Proofs.frac
open Go Go.RowKit Go.SW Go.Num Go.Mem Go.Proofs Go.Dec Go.Fra
set_option maxRecDepth 10000 in
set_option maxHeartbeats 1000000 in
theorem Make_ok (n d : Int) (hl1 : (Lib.decDigits n.natAbs).length ≤ 600) (hl2 : (Lib.decDigits d.natAbs).length ≤ 600) (w : World) (ht : Bld.Pow w) :
  Calls Tryz.prog 118 #[.string ⟨(Lib.itoa n).toArray⟩, .string ⟨(Lib.itoa d).toArray⟩] w (fun e w' => e = .returned (Fr.res (ofF n d)) ∧ Below w.heap.size w w') := by
 have HC := Lib.hid (check_yes (s := ⟨(Lib.itoa n).toArray⟩) (whole_of_itoa hl1))
 have HD := Lib.hid (check_yes (s := ⟨(Lib.itoa d).toArray⟩) (whole_of_itoa hl2))
 have HL1 := Lib.hid hl1
 have HL2 := Lib.hid hl2
 have S1 := okn_sz (okn_len.2 hl1)
 have S2 := okn_sz (okn_len.2 hl2)
 have HT := Lib.hid ht
 clear ht hl1 hl2
 by_cases h0 : d = 0
 ·have e : Fr.res (ofF n d) = .tuple #[.agg #[.string ⟨#[]⟩, .string ⟨#[]⟩], .int .i64 7] := by unfold ofF; rw [if_pos h0]; rfl
  rw [e]
  have hz : decide (d.natAbs = 0) = true := by simp; omega
  have HZ := Lib.hid hz
  clear e h0 hz S1 S2
  go_enter Tryz.func118, Tryz.ntmps118
  go_wp2_with fail
  refine (HC.out _).mono ?_
  rintro e v1 ⟨rfl, hc1⟩
  have BR := Box.later (Box.new _ _ _) hc1; have cBR := BR.cell; have fBR := BR.free; have lBR := BR.lt
  go_wp2_with fail
  refine (HD.out _).mono ?_
  rintro e v2 ⟨rfl, hc2⟩
  replace BR := Box.later (BR) hc2; replace cBR := BR.cell; replace fBR := BR.free; replace lBR := BR.lt
  go_wp2_with fail
  refine (number_ok n HL1.out _).mono ?_
  rintro e v3 ⟨v, rfl, hc3, hv⟩
  obtain ⟨paHN, lHN, caHN, rfl, HN⟩ := hv; replace HN := Lib.hid HN
  replace BR := Box.later (BR) hc3; replace cBR := BR.cell; replace fBR := BR.free; replace lBR := BR.lt
  go_wp2_with fail
  refine (number_ok d HL2.out _).mono ?_
  rintro e v4 ⟨v, rfl, hc4, hv⟩
  obtain ⟨paHM, lHM, caHM, rfl, HM⟩ := hv; replace HM := Lib.hid HM
  replace BR := Box.later (BR) hc4; replace cBR := BR.cell; replace fBR := BR.free; replace lBR := BR.lt
  go_wp2_with fail
  refine (zero_ok _ d.natAbs _ magA).mono ?_
  rintro e v5 ⟨rfl, rfl⟩
  rw [HZ.out]
  go_wp2_with fail
  refine ret_ct rfl rfl boxA Tryz.underlying36 rfl (by kernel_rfl) ?_
  exact ⟨rfl, belA⟩
 ·have e : ofF n d = wr (mkRat (sgd n.natAbs (!(decide (n < 0) == decide (d < 0)))) d.natAbs) := by unfold ofF; rw [if_neg h0, make_eq n d h0]
  rw [e]
  have hz : decide (d.natAbs = 0) = false := by simp; omega
  have HZ := Lib.hid hz
  have hdp : 0 < d.natAbs := by omega
  have HDP := Lib.hid hdp
  obtain ⟨f, Ef⟩ : ∃ y : Bool, Hid (Bool.not (decide (n < 0) == decide (d < 0)) = y) := ⟨_, Lib.hid rfl⟩
  obtain ⟨s, Es⟩ : ∃ y : Int, Hid (sgd n.natAbs f = y) := ⟨_, Lib.hid rfl⟩
  rw [Ef.out, Es.out]
  have hs : sz 1000000000 s.natAbs ≤ 67 := by rw [← Es.out, sgd_natAbs]; exact S1
  have KS := Lib.hid (Nat.le_trans hs (show 67 ≤ 549755813888 by omega))
  have KD := Lib.hid (Nat.le_trans S2 (show 67 ≤ 549755813888 by omega))
  have KQ : Hid (szq 1000000 (mkRat s d.natAbs)) := by
   have hp := mk_parts s hdp
   refine Lib.hid ⟨?_, ?_⟩
   ·rw [hp.1, sgd_natAbs]
    exact Nat.le_trans sz_div (by omega)
   ·rw [hp.2]
    exact Nat.le_trans sz_div (by omega)
  obtain ⟨q, Eq⟩ : ∃ y : Rat, Hid (mkRat s d.natAbs = y) := ⟨_, Lib.hid rfl⟩
  rw [Eq.out] at KQ ⊢
  obtain ⟨x, Ex⟩ : ∃ y : FrI, Hid (wr q = y) := ⟨_, Lib.hid rfl⟩
  rw [Ex.out]
  clear e
  obtain ⟨⟨s1, t1⟩, e⟩ := x
  rw [res_mk]
  clear h0 hz hdp hs S1 S2
  go_enter Tryz.func118, Tryz.ntmps118
  go_wp2_with fail
  refine (HC.out _).mono ?_
  rintro e v1 ⟨rfl, hc1⟩
  have BR := Box.later (Box.new _ _ _) hc1; have cBR := BR.cell; have fBR := BR.free; have lBR := BR.lt
  go_wp2_with fail
  refine (HD.out _).mono ?_
  rintro e v2 ⟨rfl, hc2⟩
  replace BR := Box.later (BR) hc2; replace cBR := BR.cell; replace fBR := BR.free; replace lBR := BR.lt
  go_wp2_with fail
  refine (number_ok n HL1.out _).mono ?_
  rintro e v3 ⟨v, rfl, hc3, hv⟩
  obtain ⟨paHN, lHN, caHN, rfl, HN⟩ := hv; replace HN := Lib.hid HN
  replace BR := Box.later (BR) hc3; replace cBR := BR.cell; replace fBR := BR.free; replace lBR := BR.lt
  go_wp2_with fail
  refine (number_ok d HL2.out _).mono ?_
  rintro e v4 ⟨v, rfl, hc4, hv⟩
  obtain ⟨paHM, lHM, caHM, rfl, HM⟩ := hv; replace HM := Lib.hid HM
  replace HN := Lib.hid (Mag.later HN.out hc4)
  replace BR := Box.later (BR) hc4; replace cBR := BR.cell; replace fBR := BR.free; replace lBR := BR.lt
  go_wp2_with fail
  refine (zero_ok _ d.natAbs _ magA).mono ?_
  rintro e v5 ⟨rfl, rfl⟩
  rw [HZ.out]
  go_wp2_with fail
  refine wp_region_walk [(.pure, 0), (.read, 1), (.pure, 2), (.read, 3), (.pure, 4), (.read, 5), (.pure, 6), (.pure, 8), (.read, 9), (.ext, 7), (.ext, 10), (.ext, 11), (.pure, 12), (.pure, 13), (.fin, 14), (.fin, 15)] (by kernel_rfl) (by kernel_rfl) (allocRuns_of (by kernel_rfl)) (fun _ _ _ _ hd h => And.intro (hd.trans (And.left h)) (And.right h)) ?_
  repeat (first | (refine walk_pure0 rfl rfl (fun J hJ => ?_); go_simp; refine hJ _ ?_; clear hJ J) | (refine walk_load rfl rfl rfl rfl (fun J hJ => ?_); go_simp; refine hJ _ ?_; clear hJ J; try go_simp))
  refine walk_ext rfl rfl (fun w6 hb6 J hJ => ?_); go_simp
  replace HM := Lib.hid (Mag.carry HM.out magA hb6)
  replace BR : Box _ (w.heap.size) _ _ := Box.later boxA hb6; (try simp only [List.setIfInBounds_toArray, List.set_cons_zero, List.set_cons_succ] at BR); replace cBR := BR.cell; replace fBR := BR.free; replace lBR := BR.lt
  refine ((signed_ok _ n.natAbs _ _ magA).mono (by rw [show (Bool.not (decide (n < 0) == decide (d < 0))) = f from Ef.out, Es.out]; exact fun _ _ h => h)).mono ?_
  rintro e v6 ⟨v, rfl, hc6, hv⟩
  obtain ⟨paHs, lHs, caHs, rfl, Hs⟩ := hv; replace Hs := Lib.hid Hs
  replace HM := Lib.hid (Mag.later HM.out hc6)
  replace BR := Box.later (BR) hc6; replace cBR := BR.cell; replace fBR := BR.free; replace lBR := BR.lt
  refine hJ _ _ hc6 ?_
  clear hJ J
  refine walk_ext rfl rfl (fun w7 hb7 J hJ => ?_); go_simp
  replace HM := Lib.hid (Mag.later HM.out hb7)
  replace Hs := Lib.hid (Mag.later Hs.out hb7)
  replace BR := Box.later (BR) hb7; replace cBR := BR.cell; replace fBR := BR.free; replace lBR := BR.lt
  refine ((reduced_ok _ _ s d.natAbs _ (IntV.of_neg magA) magA HDP.out KS.out KD.out).mono (by rw [Eq.out]; exact fun _ _ h => h)).mono ?_
  rintro e v7 ⟨v, rfl, hc7, hv⟩
  obtain ⟨paHq, lHq, caHq, pbHq, mHq, cbHq, rfl, Hq, Hqd⟩ := hv; replace Hq := Lib.hid Hq; replace Hqd := Lib.hid Hqd
  replace HM := Lib.hid (Mag.later HM.out hc7)
  replace Hs := Lib.hid (Mag.later Hs.out hc7)
  replace BR := Box.later (BR) hc7; replace cBR := BR.cell; replace fBR := BR.free; replace lBR := BR.lt
  refine hJ _ _ hc7 ?_
  clear hJ J
  refine walk_ext rfl rfl (fun w8 hb8 J hJ => ?_); go_simp
  replace BR := Box.later (BR) hb8; replace cBR := BR.cell; replace fBR := BR.free; replace lBR := BR.lt
  refine ((write_ok _ q _ (RatV.of magA magA) KQ.out (HT.out.later belA)).mono (by rw [Ex.out, res_mk]; exact fun _ _ h => h)).mono ?_
  rintro e v8 ⟨rfl, hc8⟩
  replace BR := Box.later (BR) hc8; replace cBR := BR.cell; replace fBR := BR.free; replace lBR := BR.lt
  refine hJ _ _ hc8 ?_
  clear hJ J
  repeat (first | (refine walk_pure0 rfl rfl (fun J hJ => ?_); go_simp; refine hJ _ ?_; clear hJ J) | (refine walk_load rfl rfl rfl rfl (fun J hJ => ?_); go_simp; refine hJ _ ?_; clear hJ J; try go_simp))
  refine walk_fin [_, _] rfl (fun w9 hb9 => ?_)
  replace BR := Box.later (BR) hb9; replace cBR := BR.cell; replace fBR := BR.free; replace lBR := BR.lt
  go_wp2_with fail
  refine ret_ct rfl rfl boxA Tryz.underlying36 rfl (by kernel_rfl) ?_
  exact ⟨rfl, belA⟩
theorem dec_int (z : Int) (h0 : -9223372036854775808 ≤ z) (h1 : z ≤ 9223372036854775807) : (Lib.decDigits z.natAbs).length ≤ 600 :=
 Nat.le_trans (dec_len_le 19 z.natAbs (by omega) (by omega)) (by omega)
set_option maxRecDepth 10000 in
theorem Of_ok (n d : Int) (n0 : -9223372036854775808 ≤ n) (n1 : n ≤ 9223372036854775807) (d0 : -9223372036854775808 ≤ d) (d1 : d ≤ 9223372036854775807) (w : World) (ht : Bld.Pow w) :
  Calls Tryz.prog 56 #[.int .i64 n, .int .i64 d] w (fun e w' => e = .returned (Fr.res (ofF n d)) ∧ Below w.heap.size w w') := by
 have H1 := Lib.hid (fun w ht => whole.of_ok n n0 n1 w ht)
 have H2 := Lib.hid (fun w ht => whole.of_ok d d0 d1 w ht)
 have H3 := Lib.hid (fun w ht => Make_ok n d (dec_int n n0 n1) (dec_int d d0 d1) w ht)
 have HT := Lib.hid ht
 clear ht n0 n1 d0 d1
 obtain ⟨x, Ex⟩ : ∃ y : FrI, Hid (ofF n d = y) := ⟨_, Lib.hid rfl⟩
 rw [Ex.out]
 obtain ⟨⟨s1, t1⟩, e⟩ := x
 rw [res_mk]
 go_enter Tryz.func56, Tryz.ntmps56
 go_wp2_with fail
 refine ((H1.out _ (HT.out.later belA)).mono (fun _ _ h => by unfold itxt at h; exact h)).mono ?_
 rintro e v1 ⟨rfl, hc1⟩
 have BR := Box.later (Box.new _ _ _) hc1; have cBR := BR.cell; have fBR := BR.free; have lBR := BR.lt
 go_wp2_with fail
 refine ((H2.out _ (HT.out.later belA)).mono (fun _ _ h => by unfold itxt at h; exact h)).mono ?_
 rintro e v2 ⟨rfl, hc2⟩
 replace BR := Box.later (BR) hc2; replace cBR := BR.cell; replace fBR := BR.free; replace lBR := BR.lt
 go_wp2_with fail
 refine ((H3.out _ (HT.out.later belA)).mono (by rw [Ex.out, res_mk]; exact fun _ _ h => h)).mono ?_
 rintro e v3 ⟨rfl, hc3⟩
 replace BR := Box.later (BR) hc3; replace cBR := BR.cell; replace fBR := BR.free; replace lBR := BR.lt
 go_wp2_with fail
 refine ret_ct rfl rfl boxA Tryz.underlying36 rfl (by kernel_rfl) ?_
 exact ⟨rfl, belA⟩
end Go.Proofs.frac
