/- Lemmas for the proof. No condition. -/
import Derived.Test.YtpoecfpbafpokaaGreatDoorSB01
import Derived.Test.YtpoecfpbafpokaaGreatDoorSB02
import Derived.Test.YtpoecfpbafpokaaGreatDoorSB05
import Derived.Test.YtpoecfpbafpokaaGreatDoorSB06
import Derived.Laws.EntriesVeiled
import Derived.RegionTactic
import Derived.ChangeAlike
set_option linter.unusedVariables false
set_option linter.unusedSimpArgs false
set_option maxRecDepth 100000
set_option maxHeartbeats 16000000
namespace Go.Proofs.frac
open Go Go.RowKit Go.SW Go.Num Go.Mem Go.Proofs Go.Dec Go.Fra
theorem Make_ok (n d : Int) (hl1 : (Lib.decDigits n.natAbs).length ≤ 600) (hl2 : (Lib.decDigits d.natAbs).length ≤ 600) (w : World) (ht : Bld.Pow w) :
    Calls Tryz.prog 91 #[.string ⟨(Lib.itoa n).toArray⟩, .string ⟨(Lib.itoa d).toArray⟩] w (fun e w' => e = .returned (Fr.res (ofF n d)) ∧ Below w.heap.size w w') := by
  have HC := zh (check_yes (s := ⟨(Lib.itoa n).toArray⟩) (whole_of_itoa hl1))
  have HD := zh (check_yes (s := ⟨(Lib.itoa d).toArray⟩) (whole_of_itoa hl2))
  have HL1 := zh hl1
  have HL2 := zh hl2
  have S1 := okn_sz (okn_len.2 hl1)
  have S2 := okn_sz (okn_len.2 hl2)
  have HT := zh ht
  clear ht hl1 hl2
  by_cases h0 : d = 0
  · have e : Fr.res (ofF n d) = .tuple #[.agg #[.string ⟨#[]⟩, .string ⟨#[]⟩], .int .i64 7] := by unfold ofF; rw [if_pos h0]; rfl
    rw [e]
    have hz : decide (d.natAbs = 0) = true := by simp; omega
    have HZ := zh hz
    clear e h0 hz S1 S2
    go_enter Tryz.func91, Tryz.ntmps91
    go_wp2_with fail
    refine (HC.out _).mono ?_
    rintro e v1 ⟨rfl, hc1⟩
    have BR := Box.later (Box.new _ _ _) hc1; have cBR := BR.cell; have fBR := BR.free; have lBR := BR.lt
    go_wp2_with fail
    refine (HD.out _).mono ?_
    rintro e v2 ⟨rfl, hc2⟩
    replace BR := Box.later (BR) hc2; replace cBR := BR.cell; replace fBR := BR.free; replace lBR := BR.lt
    go_wp2_with fail
    refine (number_ok n HL1.out _).mono ?_
    rintro e v3 ⟨v, rfl, hc3, hv⟩
    obtain ⟨paHN, lHN, caHN, rfl, HN⟩ := hv; replace HN := zh HN
    replace BR := Box.later (BR) hc3; replace cBR := BR.cell; replace fBR := BR.free; replace lBR := BR.lt
    go_wp2_with fail
    refine (number_ok d HL2.out _).mono ?_
    rintro e v4 ⟨v, rfl, hc4, hv⟩
    obtain ⟨paHM, lHM, caHM, rfl, HM⟩ := hv; replace HM := zh HM
    replace BR := Box.later (BR) hc4; replace cBR := BR.cell; replace fBR := BR.free; replace lBR := BR.lt
    go_wp2_with fail
    refine (zero_ok _ d.natAbs _ magA).mono ?_
    rintro e v5 ⟨rfl, rfl⟩
    rw [HZ.out]
    go_wp2_with fail
    refine ret_ct rfl rfl boxA Tryz.underlying40 rfl zk ?_
    exact ⟨rfl, belA⟩
  · have e : ofF n d = wr (mkRat (sgd n.natAbs (!(decide (n < 0) == decide (d < 0)))) d.natAbs) := by unfold ofF; rw [if_neg h0, make_eq n d h0]
    rw [e]
    have hz : decide (d.natAbs = 0) = false := by simp; omega
    have HZ := zh hz
    have hdp : 0 < d.natAbs := by omega
    have HDP := zh hdp
    obtain ⟨f, Ef⟩ : ∃ y : Bool, Hid (Bool.not (decide (n < 0) == decide (d < 0)) = y) := ⟨_, zh rfl⟩
    obtain ⟨s, Es⟩ : ∃ y : Int, Hid (sgd n.natAbs f = y) := ⟨_, zh rfl⟩
    rw [Ef.out, Es.out]
    have hs : sz 1000000000 s.natAbs ≤ 67 := by rw [← Es.out, sgd_natAbs]; exact S1
    have KS := zh (Nat.le_trans hs (show 67 ≤ 549755813888 by omega))
    have KD := zh (Nat.le_trans S2 (show 67 ≤ 549755813888 by omega))
    have KQ : Hid (szq 1000000 (mkRat s d.natAbs)) := by
      have hp := mk_parts s hdp
      refine zh ⟨?_, ?_⟩
      · rw [hp.1, sgd_natAbs]
        exact Nat.le_trans sz_div zo
      · rw [hp.2]
        exact Nat.le_trans sz_div zo
    obtain ⟨q, Eq⟩ : ∃ y : Rat, Hid (mkRat s d.natAbs = y) := ⟨_, zh rfl⟩
    rw [Eq.out] at KQ ⊢
    obtain ⟨x, Ex⟩ : ∃ y : FrI, Hid (wr q = y) := ⟨_, zh rfl⟩
    rw [Ex.out]
    clear e
    obtain ⟨⟨s1, t1⟩, e⟩ := x
    rw [res_mk]
    clear h0 hz hdp hs S1 S2
    go_enter Tryz.func91, Tryz.ntmps91
    go_wp2_with fail
    refine (HC.out _).mono ?_
    rintro e v1 ⟨rfl, hc1⟩
    have BR := Box.later (Box.new _ _ _) hc1; have cBR := BR.cell; have fBR := BR.free; have lBR := BR.lt
    go_wp2_with fail
    refine (HD.out _).mono ?_
    rintro e v2 ⟨rfl, hc2⟩
    replace BR := Box.later (BR) hc2; replace cBR := BR.cell; replace fBR := BR.free; replace lBR := BR.lt
    go_wp2_with fail
    refine (number_ok n HL1.out _).mono ?_
    rintro e v3 ⟨v, rfl, hc3, hv⟩
    obtain ⟨paHN, lHN, caHN, rfl, HN⟩ := hv; replace HN := zh HN
    replace BR := Box.later (BR) hc3; replace cBR := BR.cell; replace fBR := BR.free; replace lBR := BR.lt
    go_wp2_with fail
    refine (number_ok d HL2.out _).mono ?_
    rintro e v4 ⟨v, rfl, hc4, hv⟩
    obtain ⟨paHM, lHM, caHM, rfl, HM⟩ := hv; replace HM := zh HM
    replace HN := zh (Mag.later HN.out hc4)
    replace BR := Box.later (BR) hc4; replace cBR := BR.cell; replace fBR := BR.free; replace lBR := BR.lt
    go_wp2_with fail
    refine (zero_ok _ d.natAbs _ magA).mono ?_
    rintro e v5 ⟨rfl, rfl⟩
    rw [HZ.out]
    go_wp2_with fail
    refine wp_region_walk [(.pure, 0), (.read, 1), (.pure, 2), (.read, 3), (.pure, 4), (.read, 5), (.pure, 6), (.pure, 8), (.read, 9), (.ext, 7), (.ext, 10), (.ext, 11), (.pure, 12), (.pure, 13), (.fin, 14), (.fin, 15)] zk zk zR zP ?_
    repeat (first | (refine walk_pure0 rfl rfl fun J h => ?_; go_simp; refine h _ ?_; clear h J) | (refine walk_load rfl rfl rfl rfl fun J h => ?_; go_simp; refine h _ ?_; clear h J; try go_simp))
    refine walk_ext rfl rfl (fun w6 hb6 J hJ => ?_); go_simp
    replace HM := zh (Mag.carry HM.out magA hb6)
    replace BR : Box _ (w.heap.size) _ _ := Box.later boxA hb6; (try simp only [List.setIfInBounds_toArray, List.set_cons_zero, List.set_cons_succ] at BR); replace cBR := BR.cell; replace fBR := BR.free; replace lBR := BR.lt
    refine ((signed_ok _ n.natAbs _ _ magA).mono (by rw [show (Bool.not (decide (n < 0) == decide (d < 0))) = f from Ef.out, Es.out]; exact fun _ _ h => h)).mono ?_
    rintro e v6 ⟨v, rfl, hc6, hv⟩
    obtain ⟨paHs, lHs, caHs, rfl, Hs⟩ := hv; replace Hs := zh Hs
    replace HM := zh (Mag.later HM.out hc6)
    replace BR := Box.later (BR) hc6; replace cBR := BR.cell; replace fBR := BR.free; replace lBR := BR.lt
    refine hJ _ _ hc6 ?_
    clear hJ J
    refine walk_ext rfl rfl (fun w7 hb7 J hJ => ?_); go_simp
    replace HM := zh (Mag.later HM.out hb7)
    replace Hs := zh (Mag.later Hs.out hb7)
    replace BR := Box.later (BR) hb7; replace cBR := BR.cell; replace fBR := BR.free; replace lBR := BR.lt
    refine ((reduced_ok _ _ s d.natAbs _ (IntV.of_neg magA) magA HDP.out KS.out KD.out).mono (by rw [Eq.out]; exact fun _ _ h => h)).mono ?_
    rintro e v7 ⟨v, rfl, hc7, hv⟩
    obtain ⟨paHq, lHq, caHq, pbHq, mHq, cbHq, rfl, Hq, Hqd⟩ := hv; replace Hq := zh Hq; replace Hqd := zh Hqd
    replace HM := zh (Mag.later HM.out hc7)
    replace Hs := zh (Mag.later Hs.out hc7)
    replace BR := Box.later (BR) hc7; replace cBR := BR.cell; replace fBR := BR.free; replace lBR := BR.lt
    refine hJ _ _ hc7 ?_
    clear hJ J
    refine walk_ext rfl rfl (fun w8 hb8 J hJ => ?_); go_simp
    replace BR := Box.later (BR) hb8; replace cBR := BR.cell; replace fBR := BR.free; replace lBR := BR.lt
    refine ((write_ok _ q _ (RatV.of magA magA) KQ.out (HT.out.later belA)).mono (by rw [Ex.out, res_mk]; exact fun _ _ h => h)).mono ?_
    rintro e v8 ⟨rfl, hc8⟩
    replace BR := Box.later (BR) hc8; replace cBR := BR.cell; replace fBR := BR.free; replace lBR := BR.lt
    refine hJ _ _ hc8 ?_
    clear hJ J
    repeat (first | (refine walk_pure0 rfl rfl fun J h => ?_; go_simp; refine h _ ?_; clear h J) | (refine walk_load rfl rfl rfl rfl fun J h => ?_; go_simp; refine h _ ?_; clear h J; try go_simp))
    refine walk_fin [_, _] rfl (fun w9 hb9 => ?_)
    replace BR := Box.later (BR) hb9; replace cBR := BR.cell; replace fBR := BR.free; replace lBR := BR.lt
    go_wp2_with fail
    refine ret_ct rfl rfl boxA Tryz.underlying40 rfl zk ?_
    exact ⟨rfl, belA⟩
theorem dec_int (z : Int) (h0 : -9223372036854775808 ≤ z) (h1 : z ≤ 9223372036854775807) : (Lib.decDigits z.natAbs).length ≤ 600 :=
  Nat.le_trans (dec_len_le 19 z.natAbs zo zo) zo
theorem Of_ok (n d : Int) (n0 : -9223372036854775808 ≤ n) (n1 : n ≤ 9223372036854775807) (d0 : -9223372036854775808 ≤ d) (d1 : d ≤ 9223372036854775807) (w : World) (ht : Bld.Pow w) :
    Calls Tryz.prog 42 #[.int .i64 n, .int .i64 d] w (fun e w' => e = .returned (Fr.res (ofF n d)) ∧ Below w.heap.size w w') := by
  have H1 := zh (fun w ht => whole.of_ok n n0 n1 w ht)
  have H2 := zh (fun w ht => whole.of_ok d d0 d1 w ht)
  have H3 := zh (fun w ht => Make_ok n d (dec_int n n0 n1) (dec_int d d0 d1) w ht)
  have HT := zh ht
  clear ht n0 n1 d0 d1
  obtain ⟨x, Ex⟩ : ∃ y : FrI, Hid (ofF n d = y) := ⟨_, zh rfl⟩
  rw [Ex.out]
  obtain ⟨⟨s1, t1⟩, e⟩ := x
  rw [res_mk]
  go_enter Tryz.func42, Tryz.ntmps42
  go_wp2_with fail
  refine ((H1.out _ (HT.out.later belA)).mono (fun _ _ h => by unfold itxt at h; exact h)).mono ?_
  rintro e v1 ⟨rfl, hc1⟩
  have BR := Box.later (Box.new _ _ _) hc1; have cBR := BR.cell; have fBR := BR.free; have lBR := BR.lt
  go_wp2_with fail
  refine ((H2.out _ (HT.out.later belA)).mono (fun _ _ h => by unfold itxt at h; exact h)).mono ?_
  rintro e v2 ⟨rfl, hc2⟩
  replace BR := Box.later (BR) hc2; replace cBR := BR.cell; replace fBR := BR.free; replace lBR := BR.lt
  go_wp2_with fail
  refine ((H3.out _ (HT.out.later belA)).mono (by rw [Ex.out, res_mk]; exact fun _ _ h => h)).mono ?_
  rintro e v3 ⟨rfl, hc3⟩
  replace BR := Box.later (BR) hc3; replace cBR := BR.cell; replace fBR := BR.free; replace lBR := BR.lt
  go_wp2_with fail
  refine ret_ct rfl rfl boxA Tryz.underlying40 rfl zk ?_
  exact ⟨rfl, belA⟩
end Go.Proofs.frac
namespace Go.Proofs.verdigrislaw04
open Go Go.RowKit Go.SW Go.Num Go.Mem Go.Proofs Go.Dec Go.Fra
def IsF (w : World) (v : Value) (lo hi : Int) : Prop := ∃ a b, v = .func (.func 73) #[] #[.pointer (some ⟨a, 0, none⟩), .pointer (some ⟨b, 0, none⟩)] ∧ Box w a #[.int .i64 lo] 3 ∧ Box w b #[.int .i64 hi] 3
def FailsF (w : World) (v : Value) (e : Int) : Prop := ∃ a, v = .func (.func 72) #[] #[.pointer (some ⟨a, 0, none⟩)] ∧ Box w a #[.int .i64 e] 33
def ExactF (w : World) (v : Value) (n d : ByteArray) : Prop := ∃ a b, v = .func (.func 75) #[] #[.pointer (some ⟨a, 0, none⟩), .pointer (some ⟨b, 0, none⟩)] ∧ Box w a #[.string n] 38 ∧ Box w b #[.string d] 38
def NoneF (w : World) (v : Value) (e : Int) : Prop := ∃ a, v = .func (.func 74) #[] #[.pointer (some ⟨a, 0, none⟩)] ∧ Box w a #[.int .i64 e] 33
theorem b_ok (lo hi : Int) (w : World) : Calls Tryz.prog 27 #[.int .i64 lo, .int .i64 hi] w (fun e w' => e = .returned (.agg #[.int .i64 lo, .int .i64 hi]) ∧ Below w.heap.size w w') := by
  go_enter Tryz.func27, Tryz.ntmps27
  go_wp2_with fail
  refine ret_c rfl rfl boxA Tryz.underlying23 rfl zk ?_
  exact ⟨rfl, belA⟩
theorem is_ok (lo hi : Int) (w : World) : Calls Tryz.prog 30 #[.int .i64 lo, .int .i64 hi] w (fun e w' => (∃ v, e = .returned v ∧ IsF w' v lo hi) ∧ Below w.heap.size w w') := by
  go_enter Tryz.func30, Tryz.ntmps30
  go_wp2_with fail
  go_ret
  exact ⟨⟨_, rfl, _, _, rfl, boxA, boxA⟩, belA⟩
theorem fails_ok (k : Int) (w : World) : Calls Tryz.prog 29 #[.int .i64 k] w (fun e w' => (∃ v, e = .returned v ∧ FailsF w' v k) ∧ Below w.heap.size w w') := by
  go_enter Tryz.func29, Tryz.ntmps29
  go_wp2_with fail
  go_ret
  exact ⟨⟨_, rfl, _, rfl, boxA⟩, belA⟩
theorem exact_ok (n d : ByteArray) (w : World) : Calls Tryz.prog 33 #[.string n, .string d] w (fun e w' => (∃ v, e = .returned v ∧ ExactF w' v n d) ∧ Below w.heap.size w w') := by
  go_enter Tryz.func33, Tryz.ntmps33
  go_wp2_with fail
  go_ret
  exact ⟨⟨_, rfl, _, _, rfl, boxA, boxA⟩, belA⟩
theorem none_ok (k : Int) (w : World) : Calls Tryz.prog 31 #[.int .i64 k] w (fun e w' => (∃ v, e = .returned v ∧ NoneF w' v k) ∧ Below w.heap.size w w') := by
  go_enter Tryz.func31, Tryz.ntmps31
  go_wp2_with fail
  go_ret
  exact ⟨⟨_, rfl, _, rfl, boxA⟩, belA⟩
theorem fails1_ok (k : Int) (a : Nat) (w : World) (h : Box w a #[.int .i64 k] 33) : Calls Tryz.prog 72 #[.agg #[.int .i64 0, .int .i64 0], .int .i64 k, .pointer (some ⟨a, 0, none⟩)] w (fun e w' => e = .returned (.bool true) ∧ Below w.heap.size w w') := by
  have c1 := h.cell
  have l1 := h.lt
  go_enter Tryz.func72, Tryz.ntmps72
  go_wp2_with fail
  go_ret
  exact ⟨rfl, belA⟩
theorem none1_ok (k : Int) (a : Nat) (w : World) (h : Box w a #[.int .i64 k] 33) : Calls Tryz.prog 74 #[.agg #[.string ⟨#[]⟩, .string ⟨#[]⟩], .int .i64 k, .pointer (some ⟨a, 0, none⟩)] w (fun e w' => e = .returned (.bool true) ∧ Below w.heap.size w w') := by
  have c1 := h.cell
  have l1 := h.lt
  go_enter Tryz.func74, Tryz.ntmps74
  go_wp2_with fail
  go_ret
  exact ⟨rfl, belA⟩
theorem exact1_ok (n d : ByteArray) (a b : Nat) (w : World) (h : Box w a #[.string n] 38) (k : Box w b #[.string d] 38) : Calls Tryz.prog 75 #[.agg #[.string n, .string d], .int .i64 0, .pointer (some ⟨a, 0, none⟩), .pointer (some ⟨b, 0, none⟩)] w (fun e w' => e = .returned (.bool true) ∧ Below w.heap.size w w') := by
  have c1 := h.cell
  have l1 := h.lt
  have c2 := k.cell
  have l2 := k.lt
  go_enter Tryz.func75, Tryz.ntmps75
  go_wp2_with fail
  go_ret
  exact ⟨by simp, belA⟩
theorem is1_ok (lo hi : Int) (a b : Nat) (w : World) (h : Box w a #[.int .i64 lo] 3) (k : Box w b #[.int .i64 hi] 3) : Calls Tryz.prog 73 #[.agg #[.int .i64 lo, .int .i64 hi], .int .i64 0, .pointer (some ⟨a, 0, none⟩), .pointer (some ⟨b, 0, none⟩)] w (fun e w' => e = .returned (.bool true) ∧ Below w.heap.size w w') := by
  have HB := zh (fun W => b_ok lo hi W)
  go_enter Tryz.func73, Tryz.ntmps73
  go_wp2_with fail
  obtain ⟨wx, EW, hz, X⟩ := al1 w #[.int .i64 lo, .int .i64 hi] 23
  rw [EW]
  clear EW
  have A := (zh h).bl hz
  have B := (zh k).bl hz
  have hw := hz
  obtain ⟨bx, eb⟩ : ∃ y, w.heap.size = y := ⟨_, rfl⟩
  rw [eb] at X ⊢
  obtain ⟨cA, lA⟩ := A.cl
  obtain ⟨cB, lB⟩ := B.cl
  obtain ⟨cX, lX⟩ := X.cl
  refine wp_region_walk [(.read, 0), (.read, 1), (.read, 2), (.ext, 3), (.pure, 4), (.pure, 5), (.pure, 6), (.pure, 7), (.pure, 8), (.fin, 9)] zk zk zR zP ?_
  repeat (first | (refine walk_pure0 rfl rfl fun J h => ?_; go_simp; refine h _ ?_; clear h J) | (refine walk_load rfl rfl rfl rfl fun J h => ?_; go_simp; refine h _ ?_; clear h J; try go_simp) | (refine walk_pureG rfl rfl fun J h => ?_; go_simp; refine h _ ?_; clear h J) | (refine walk_loadG rfl rfl rfl rfl fun J h => ?_; go_simp; refine h _ ?_; clear h J; try go_simp))
  refine walk_ext rfl rfl (fun we hbe J hJ => ?_); go_simp
  have h1 : Below wx.heap.size wx we := belA
  refine (HB.out _).mono ?_
  rintro e w1 ⟨rfl, hb1⟩
  refine hJ _ _ hb1 ?_
  clear hJ J
  have h2 := Bt h1 hb1
  clear h1 hbe hb1
  repeat (first | (refine walk_pure0 rfl rfl fun J h => ?_; go_simp; refine h _ ?_; clear h J) | (refine walk_load rfl rfl rfl rfl fun J h => ?_; go_simp; refine h _ ?_; clear h J; try go_simp) | (refine walk_pureG rfl rfl fun J h => ?_; go_simp; refine h _ ?_; clear h J) | (refine walk_loadG rfl rfl rfl rfl fun J h => ?_; go_simp; refine h _ ?_; clear h J; try go_simp))
  refine walk_fin [_] rfl (fun wf hbf => ?_)
  have h5 : Below wx.heap.size wx wf := Bt h2 belA
  go_wp2_with fail
  go_ret
  exact ⟨by simp, Bt hz h5⟩
theorem q_ok (n d : Int) (n0 : -9223372036854775808 ≤ n) (n1 : n ≤ 9223372036854775807) (d0 : -9223372036854775808 ≤ d) (d1 : d ≤ 9223372036854775807) (w : World) (ht : Bld.Pow w) :
    Calls Tryz.prog 32 #[.int .i64 n, .int .i64 d] w (fun e w' => e = .returned (ofF n d).1.v ∧ Below w.heap.size w w') := by
  have H := zh (fun W h => frac.Of_ok n d n0 n1 d0 d1 W h)
  have HP := zh ht
  clear ht n0 n1 d0 d1
  generalize ofF n d = z at *
  obtain ⟨⟨s, t⟩, e0⟩ := z
  simp only [res_mk, Fr.v] at H ⊢
  go_enter Tryz.func32, Tryz.ntmps32
  go_wp2_with fail
  obtain ⟨wx, EW, hz, R⟩ := al1 w #[.string ⟨#[]⟩, .string ⟨#[]⟩] 40
  rw [EW]
  clear EW
  have HB := zh hz
  clear hz
  obtain ⟨bx, eb⟩ : ∃ y, w.heap.size = y := ⟨_, rfl⟩
  rw [eb] at R ⊢
  refine (H.out _ (HP.out.later HB.out)).mono ?_
  rintro e w1 ⟨rfl, hb1⟩
  replace R := R.bl hb1
  replace HB := zh (Bt HB.out hb1)
  clear hb1
  have hx := R.out
  have cx := hx.cell
  have fx := hx.free
  have lx := hx.lt
  have hw0 := HB.out
  have hw := HB.out
  rw [eb] at hw
  go_wp2_with fail
  refine ret_c rfl rfl boxA Tryz.underlying40 rfl zk ?_
  exact ⟨rfl, belA⟩
end Go.Proofs.verdigrislaw04
namespace Go.Proofs.power
open Go Go.RowKit Go.SW Go.Num Go.Mem Go.Proofs Go.Dec Go.Fra Go.Proofs.whole
theorem itoa_eq {a b : Nat} : ((⟨(Lib.itoa (a : Int)).toArray⟩ : ByteArray).toList == (⟨(Lib.itoa (b : Int)).toArray⟩ : ByteArray).toList) = decide (a = b) := by
  rw [ByteArray.toList_eq, ByteArray.toList_eq]
  show (Lib.itoa (a : Int) == Lib.itoa (b : Int)) = _
  by_cases h : a = b
  · subst h
    simp
  · rw [decide_eq_false h]
    refine beq_eq_false_iff_ne.2 fun e => h ?_
    have := itoa_inj e
    omega
theorem root_ok (a k : Nat) (ha : okn a = true) (hk : 1 ≤ k) (k12 : k ≤ 12) (w : World) (ht : Bld.Pow w) :
    Calls Tryz.prog 63 #[itxt (a : Int), .int .i64 (k : Int)] w (fun e w' => e = .returned (.tuple #[itxt (iroot k a : Nat), .bool (decide (iroot k a ^ k = a)), .int .i64 0]) ∧ Below w.heap.size w w') := by
  have hle := (iroot_spec hk a).1
  have hro : okn (iroot k a) = true := okn_le ha (iroot_self hk)
  have HR := zh (fun W hp => Root_ok a k ha hk k12 W hp)
  have HPW := zh (fun W hp => Pow_ok (iroot k a) k hro zo W hp)
  rw [wtV_ok (okn_le ha hle)] at HPW
  have he : ((⟨(Lib.itoa ((iroot k a ^ k : Nat) : Int)).toArray⟩ : ByteArray).toList == (⟨(Lib.itoa (a : Int)).toArray⟩ : ByteArray).toList) = decide (iroot k a ^ k = a) := itoa_eq
  have HP := zh ht
  clear hle hro ha ht
  generalize decide (iroot k a ^ k = a) = ex at *
  generalize iroot k a ^ k = rp at *
  generalize iroot k a = r at *
  unfold itxt at *
  generalize (⟨(Lib.itoa (a : Int)).toArray⟩ : ByteArray) = ta at *
  generalize (⟨(Lib.itoa (rp : Int)).toArray⟩ : ByteArray) = tp at *
  generalize (⟨(Lib.itoa (r : Int)).toArray⟩ : ByteArray) = tr at *
  go_enter Tryz.func63, Tryz.ntmps63
  go_wp2_with fail
  refine (HR.out _ HP.out).mono ?_
  rintro e w1 ⟨rfl, hb1⟩
  have HB1 := zh hb1
  clear hb1
  go_wp2_with fail
  refine (HPW.out _ (HP.out.later HB1.out)).mono ?_
  rintro e w2 ⟨rfl, hb2⟩
  have hw := Bt HB1.out hb2
  go_wp2_with fail
  go_ret3
  exact ⟨by rw [← he]; rfl, hw⟩
theorem itoa_ten (c : Nat) : Lib.itoa ((10 ^ c : Nat) : Int) = 49 :: Lib.repeatL [48] c := by
  have h := dec_pad c 1 0 zo (Nat.pow_pos zo)
  rw [Nat.one_mul, Nat.add_zero, dec_small (u := 1) zo, pad_zero] at h
  have hr := Lib.repeatL_replicate 48 1 c
  rw [Nat.mul_one] at hr
  rw [show ([48] : List UInt8) = List.replicate 1 48 from rfl, hr]
  exact h
theorem tenfold_ok (c : Nat) (hc : c ≤ 1000) (w : World) :
    Calls Tryz.prog 98 #[.int .i64 (c : Int)] w (fun e w' => e = .returned (itxt (10 ^ c : Nat)) ∧ Below w.heap.size w w') := by
  have H := zh (fun W => Tryz.strings_Repeat ⟨#[48]⟩ c W zo (by rw [show (⟨#[48]⟩ : ByteArray).size = 1 from rfl]; omega))
  have e : (⟨(Lib.itoa ((10 ^ c : Nat) : Int)).toArray⟩ : ByteArray) = (⟨#[49]⟩ : ByteArray) ++ ⟨(Lib.repeatL [48] c).toArray⟩ := by
    rw [itoa_ten]
    apply ByteArray.ext
    simp
  unfold itxt
  rw [e]
  clear e
  have hs : (⟨(Lib.repeatL [48] c).toArray⟩ : ByteArray).size ≤ 1000 := by
    show (Lib.repeatL [48] c).length ≤ 1000
    rw [Lib.repeatL_length]
    simp
    omega
  generalize (⟨(Lib.repeatL [48] c).toArray⟩ : ByteArray) = t at *
  go_enter Tryz.func98, Tryz.ntmps98
  go_wp2_with fail
  refine (H.out _).mono ?_
  rintro e w1 ⟨rfl, hb1⟩
  go_wp2_with fail
  go_ret
  exact ⟨rfl, hb1⟩
def intV (n : Nat) (up : Bool) : Int × Int := if n ≤ 1000000000000000000 then ((n : Int) + (if up then 1 else 0), 0) else (0, 6)
theorem integer_ok (n : Nat) (up : Bool) (hn : okn n = true) (w : World) (he : Er w) :
    Calls Tryz.prog 69 #[itxt (n : Int), .bool up] w (fun e w' => e = .returned (.tuple #[.int .i64 (intV n up).1, .int .i64 (intV n up).2]) ∧ Below w.heap.size w w') := by
  have H := zh (fun W h => Int_ok n hn W h)
  have HE := zh he
  clear hn he
  unfold itxt intE at *
  generalize (⟨(Lib.itoa (n : Int)).toArray⟩ : ByteArray) = t at *
  unfold intV
  by_cases h1 : n < 9223372036854775808
  · simp only [if_pos h1] at H
    by_cases h2 : n ≤ 1000000000000000000
    · have g : decide ((1000000000000000000 : Int) < (n : Int)) = false := by simp; omega
      simp only [if_pos h2]
      cases up
      all_goals
        go_enter Tryz.func69, Tryz.ntmps69
        go_wp2_with fail
        refine (H.out _ HE.out).mono ?_
        rintro e w1 ⟨rfl, hb1⟩
        go_wp2_with fail
        go_ret2
        exact ⟨by simp, hb1⟩
    · have g : decide ((1000000000000000000 : Int) < (n : Int)) = true := by simp; omega
      simp only [if_neg h2]
      go_enter Tryz.func69, Tryz.ntmps69
      go_wp2_with fail
      refine (H.out _ HE.out).mono ?_
      rintro e w1 ⟨rfl, hb1⟩
      go_wp2_with fail
      go_ret2
      exact ⟨rfl, hb1⟩
  · simp only [if_neg h1] at H
    have h2 : ¬ n ≤ 1000000000000000000 := by omega
    simp only [if_neg h2]
    go_enter Tryz.func69, Tryz.ntmps69
    go_wp2_with fail
    refine (H.out _ HE.out).mono ?_
    rintro e w1 ⟨rfl, hb1⟩
    go_wp2_with fail
    go_ret2
    exact ⟨rfl, hb1⟩
theorem tenTo_lt {c k : Nat} (h : c < k) : 10 ^ c < tenTo k := by
  unfold tenTo
  exact Nat.pow_lt_pow_right zo h
theorem okn_ten {c : Nat} (h : c < 600) : okn (10 ^ c) = true := by
  unfold okn
  exact decide_eq_true (tenTo_lt h)
theorem okn_iff {n : Nat} : okn n = true ↔ n < 10 ^ 600 := by
  unfold okn tenTo
  exact decide_eq_true_iff
theorem zero_eq (b : Nat) : ((⟨(Lib.itoa (b : Int)).toArray⟩ : ByteArray).toList == [48]) = decide (b = 0) := by
  have := @itoa_eq b 0
  have e : (⟨(Lib.itoa ((0 : Nat) : Int)).toArray⟩ : ByteArray).toList = [48] := by
    rw [ByteArray.toList_eq]
    show Lib.itoa ((0 : Nat) : Int) = [48]
    decide +kernel
  rw [e] at this
  exact this
theorem endV_no {n p q : Nat} {up : Bool} (h : ¬ plo n p q ≤ 10 ^ 18) : endV n p q up = (0, 6) := by
  unfold endV
  rw [if_neg h]
theorem intV_end {n p q : Nat} {up : Bool} : intV (plo n p q) (up && !(pex n p q)) = endV n p q up := by
  by_cases h : plo n p q ≤ 10 ^ 18
  · rw [endV_up h]
    unfold intV
    rw [if_pos h]
  · rw [endV_no h]
    unfold intV
    rw [if_neg h]
theorem end_ok (n p q : Nat) (up : Bool) (hn : n ≤ 10 ^ 18) (p1 : 1 ≤ p) (p36 : p ≤ 36) (q1 : 1 ≤ q) (q12 : q ≤ 12) (w : World) (ht : Bld.Pow w) (he : Er w) :
    Calls Tryz.prog 48 #[.agg #[.int .i64 (p : Int), .int .i64 (q : Int)], .int .i64 (n : Int), .bool up] w (fun e w' => e = .returned (.tuple #[.int .i64 (endV n p q up).1, .int .i64 (endV n p q up).2]) ∧ Below w.heap.size w w') := by
  have hn0 : okn n = true := okn_iff.2 (Nat.lt_of_le_of_lt hn (by decide +kernel))
  have h63 : (n : Int) ≤ 9223372036854775807 := by
    have : (10 : Nat) ^ 18 = 1000000000000000000 := by decide
    omega
  have HO := zh (fun W h => of_ok (n : Int) zo h63 W h)
  have HPW := zh (fun W h => Pow_ok n p hn0 zo W h)
  have HP := zh ht
  have HE := zh he
  clear ht he h63
  by_cases h1 : okn (n ^ p) = true
  · rw [wtV_ok h1] at HPW
    by_cases hpq : p ≤ q
    · have g : decide ((p : Int) ≤ (q : Int)) = true := by simp; omega
      have e12 : (12 : Int) * ((q : Int) - (p : Int)) = ((12 * (q - p) : Nat) : Int) := by omega
      have h12 : 12 * (q - p) ≤ 132 := by omega
      have HT := zh (fun W => tenfold_ok (12 * (q - p)) zo W)
      have HM := zh (fun W h => Mul_ok (n ^ p) (10 ^ (12 * (q - p))) h1 (okn_ten zo) W h)
      have ea := pow12_le (n := n) hpq
      rw [← ea] at HM
      have ex : pex n p q = _ := pex_le hpq
      by_cases h2 : okn (pow12 n p q) = true
      · rw [wtV_ok h2] at HM
        have HR := zh (fun W h => root_ok (pow12 n p q) q h2 q1 q12 W h)
        have HI := zh (fun W h => integer_ok (plo n p q) (up && !(pex n p q)) (okn_le h2 (iroot_self q1)) W h)
        rw [intV_end] at HI
        change Hid (∀ (W : World), Bld.Pow W → Calls _ _ _ _ (fun e w' => e = .returned (.tuple #[itxt ((plo n p q : Nat) : Int), .bool (decide (plo n p q ^ q = pow12 n p q)), .int .i64 0]) ∧ _)) at HR
        rw [← ex] at HR
        clear ex ea h2 h1 hn0
        obtain ⟨v, Ev⟩ : ∃ v, endV n p q up = v := ⟨_, rfl⟩
        rw [Ev] at HI ⊢
        obtain ⟨v1, v2⟩ := v
        clear Ev
        simp only at HI ⊢
        generalize 10 ^ (12 * (q - p)) = t12 at *
        generalize 12 * (q - p) = c12 at *
        generalize pex n p q = ex at *
        generalize plo n p q = r at *
        generalize pow12 n p q = a at *
        generalize n ^ p = np at *
        clear hn
        unfold itxt at *
        generalize (⟨(Lib.itoa (n : Int)).toArray⟩ : ByteArray) = tn at *
        generalize (⟨(Lib.itoa (np : Int)).toArray⟩ : ByteArray) = tnp at *
        generalize (⟨(Lib.itoa (t12 : Int)).toArray⟩ : ByteArray) = t12t at *
        generalize (⟨(Lib.itoa (a : Int)).toArray⟩ : ByteArray) = ta at *
        generalize (⟨(Lib.itoa (r : Int)).toArray⟩ : ByteArray) = tr at *
        go_enter Tryz.func48, Tryz.ntmps48
        go_wp2_with fail
        obtain ⟨wx, EW, hz, X⟩ := al1 w #[.int .i64 (p : Int), .int .i64 (q : Int)] 86
        rw [EW]
        clear EW
        have HB1 := zh hz
        clear hz
        obtain ⟨bx, eb⟩ : ∃ y, w.heap.size = y := ⟨_, rfl⟩
        rw [eb] at X ⊢
        obtain ⟨cX, lX⟩ := X.cl
        refine wp_region_walk [(.pure, 0), (.pure, 2), (.pure, 3), (.read, 4), (.ext, 1), (.ext, 5), (.pure, 6), (.pure, 7), (.pure, 8), (.fin, 9), (.fin, 10)] zk zk zR zP ?_
        repeat (first | (refine walk_pure0 rfl rfl fun J h => ?_; go_simp; refine h _ ?_; clear h J) | (refine walk_load rfl rfl rfl rfl fun J h => ?_; go_simp; refine h _ ?_; clear h J; try go_simp) | (refine walk_pureG rfl rfl fun J h => ?_; go_simp; refine h _ ?_; clear h J) | (refine walk_loadG rfl rfl rfl rfl fun J h => ?_; go_simp; refine h _ ?_; clear h J; try go_simp))
        refine walk_ext rfl rfl (fun we hbe J hJ => ?_); go_simp
        have h1 : Below wx.heap.size wx we := belA
        refine (HO.out _ (HP.out.later (Bt HB1.out h1))).mono ?_
        rintro e w1 ⟨rfl, hb1⟩
        refine hJ _ _ hb1 ?_
        clear hJ J
        have h2 := Bt h1 hb1
        clear h1 hbe hb1
        refine walk_ext rfl rfl (fun we hbe J hJ => ?_); go_simp
        have h3 : Below w1.heap.size w1 we := belA
        refine (HPW.out _ (HP.out.later (Bt HB1.out (Bt h2 h3)))).mono ?_
        rintro e w2 ⟨rfl, hb2⟩
        refine hJ _ _ hb2 ?_
        clear hJ J
        have h4 := Bt h2 (Bt h3 hb2)
        clear h3 h2 hbe hb2
        repeat (first | (refine walk_pure0 rfl rfl fun J h => ?_; go_simp; refine h _ ?_; clear h J) | (refine walk_load rfl rfl rfl rfl fun J h => ?_; go_simp; refine h _ ?_; clear h J; try go_simp))
        refine walk_fin [_, _] rfl (fun wf hbf => ?_)
        have h5 : Below wx.heap.size wx wf := Bt h4 belA
        replace X := X.bl h5
        replace HB1 := zh (Bt HB1.out h5)
        clear h5 h4 hbf cX lX
        obtain ⟨cX, lX⟩ := X.cl
        go_wp2_with fail
        try rw [e12]
        refine (HT.out _).mono ?_
        rintro e w3 ⟨rfl, hb3⟩
        replace HB1 := zh (Bt HB1.out hb3)
        replace X := X.bl hb3
        clear hb3 cX lX
        obtain ⟨cX, lX⟩ := X.cl
        go_wp2_with fail
        refine (HM.out _ (HP.out.later HB1.out)).mono ?_
        rintro e w4 ⟨rfl, hb4⟩
        replace HB1 := zh (Bt HB1.out hb4)
        replace X := X.bl hb4
        clear hb4 cX lX
        obtain ⟨cX, lX⟩ := X.cl
        go_wp2_with fail
        refine (HR.out _ (HP.out.later HB1.out)).mono ?_
        rintro e w5 ⟨rfl, hb5⟩
        replace HB1 := zh (Bt HB1.out hb5)
        clear hb5 X cX lX
        cases up <;> cases ex
        all_goals
          go_wp2_with fail
          refine (HI.out _ (HE.out.later HB1.out)).mono ?_
          rintro e w6 ⟨rfl, hb6⟩
          have hw := Bt HB1.out hb6
          go_wp2_with fail
          go_ret2
          exact ⟨rfl, hw⟩
      · have hno : ¬ plo n p q ≤ 10 ^ 18 := Nat.not_le.2 (big_root q1 q12 (Nat.not_lt.1 fun h => h2 (okn_iff.2 h)))
        rw [endV_no hno]
        rw [show wtV ((pow12 n p q : Nat) : Int) = .tuple #[.string ⟨#[]⟩, .int .i64 6] from by unfold wtV; rw [Int.natAbs_natCast, if_neg h2]] at HM
        clear ex ea h2 h1 hn0 hno
        generalize 10 ^ (12 * (q - p)) = t12 at *
        generalize 12 * (q - p) = c12 at *
        generalize n ^ p = np at *
        clear hn
        unfold itxt at *
        generalize (⟨(Lib.itoa (n : Int)).toArray⟩ : ByteArray) = tn at *
        generalize (⟨(Lib.itoa (np : Int)).toArray⟩ : ByteArray) = tnp at *
        generalize (⟨(Lib.itoa (t12 : Int)).toArray⟩ : ByteArray) = t12t at *
        go_enter Tryz.func48, Tryz.ntmps48
        go_wp2_with fail
        obtain ⟨wx, EW, hz, X⟩ := al1 w #[.int .i64 (p : Int), .int .i64 (q : Int)] 86
        rw [EW]
        clear EW
        have HB1 := zh hz
        clear hz
        obtain ⟨bx, eb⟩ : ∃ y, w.heap.size = y := ⟨_, rfl⟩
        rw [eb] at X ⊢
        obtain ⟨cX, lX⟩ := X.cl
        refine wp_region_walk [(.pure, 0), (.pure, 2), (.pure, 3), (.read, 4), (.ext, 1), (.ext, 5), (.pure, 6), (.pure, 7), (.pure, 8), (.fin, 9), (.fin, 10)] zk zk zR zP ?_
        repeat (first | (refine walk_pure0 rfl rfl fun J h => ?_; go_simp; refine h _ ?_; clear h J) | (refine walk_load rfl rfl rfl rfl fun J h => ?_; go_simp; refine h _ ?_; clear h J; try go_simp) | (refine walk_pureG rfl rfl fun J h => ?_; go_simp; refine h _ ?_; clear h J) | (refine walk_loadG rfl rfl rfl rfl fun J h => ?_; go_simp; refine h _ ?_; clear h J; try go_simp))
        refine walk_ext rfl rfl (fun we hbe J hJ => ?_); go_simp
        have h1 : Below wx.heap.size wx we := belA
        refine (HO.out _ (HP.out.later (Bt HB1.out h1))).mono ?_
        rintro e w1 ⟨rfl, hb1⟩
        refine hJ _ _ hb1 ?_
        clear hJ J
        have h2 := Bt h1 hb1
        clear h1 hbe hb1
        refine walk_ext rfl rfl (fun we hbe J hJ => ?_); go_simp
        have h3 : Below w1.heap.size w1 we := belA
        refine (HPW.out _ (HP.out.later (Bt HB1.out (Bt h2 h3)))).mono ?_
        rintro e w2 ⟨rfl, hb2⟩
        refine hJ _ _ hb2 ?_
        clear hJ J
        have h4 := Bt h2 (Bt h3 hb2)
        clear h3 h2 hbe hb2
        repeat (first | (refine walk_pure0 rfl rfl fun J h => ?_; go_simp; refine h _ ?_; clear h J) | (refine walk_load rfl rfl rfl rfl fun J h => ?_; go_simp; refine h _ ?_; clear h J; try go_simp))
        refine walk_fin [_, _] rfl (fun wf hbf => ?_)
        have h5 : Below wx.heap.size wx wf := Bt h4 belA
        replace X := X.bl h5
        replace HB1 := zh (Bt HB1.out h5)
        clear h5 h4 hbf cX lX
        obtain ⟨cX, lX⟩ := X.cl
        go_wp2_with fail
        try rw [e12]
        refine (HT.out _).mono ?_
        rintro e w3 ⟨rfl, hb3⟩
        replace HB1 := zh (Bt HB1.out hb3)
        replace X := X.bl hb3
        clear hb3 cX lX
        obtain ⟨cX, lX⟩ := X.cl
        go_wp2_with fail
        refine (HM.out _ (HP.out.later HB1.out)).mono ?_
        rintro e w4 ⟨rfl, hb4⟩
        have hw := Bt HB1.out hb4
        go_wp2_with fail
        go_ret2
        exact ⟨rfl, hw⟩
    · have g : decide ((p : Int) ≤ (q : Int)) = false := by simp; omega
      have e12 : (12 : Int) * ((p : Int) - (q : Int)) = ((12 * (p - q) : Nat) : Int) := by omega
      have h12 : 12 * (p - q) ≤ 420 := by omega
      have HT := zh (fun W => tenfold_ok (12 * (p - q)) zo W)
      have HM := zh (fun W h => Div_ok (n ^ p) (10 ^ (12 * (p - q))) h1 (okn_ten zo) (ten_pos _) W h)
      have ea := pow12_gt (n := n) (p := p) (q := q) zo
      rw [← ea] at HM
      have ex : pex n p q = _ := pex_gt q1 zo
      have h2 : okn (pow12 n p q) = true := by
        rw [ea]
        exact okn_le h1 (Nat.div_le_self _ _)
      · have HR := zh (fun W h => root_ok (pow12 n p q) q h2 q1 q12 W h)
        have HI := zh (fun W h => integer_ok (plo n p q) (up && !(pex n p q)) (okn_le h2 (iroot_self q1)) W h)
        rw [intV_end] at HI
        change Hid (∀ (W : World), Bld.Pow W → Calls _ _ _ _ (fun e w' => e = .returned (.tuple #[itxt ((plo n p q : Nat) : Int), .bool (decide (plo n p q ^ q = pow12 n p q)), .int .i64 0]) ∧ _)) at HR
        rw [ex] at HI
        clear ex ea h2 h1 hn0
        obtain ⟨v, Ev⟩ : ∃ v, endV n p q up = v := ⟨_, rfl⟩
        rw [Ev] at HI ⊢
        obtain ⟨v1, v2⟩ := v
        clear Ev
        simp only at HI ⊢
        have hz := zero_eq (n ^ p % 10 ^ (12 * (p - q)))
        rw [← hz] at HI
        clear hz
        generalize n ^ p % 10 ^ (12 * (p - q)) = rm at *
        generalize 10 ^ (12 * (p - q)) = t12 at *
        generalize 12 * (p - q) = c12 at *
        generalize decide (plo n p q ^ q = pow12 n p q) = ex at *
        generalize plo n p q = r at *
        generalize pow12 n p q = a at *
        generalize n ^ p = np at *
        clear hn
        unfold itxt at *
        generalize (⟨(Lib.itoa (n : Int)).toArray⟩ : ByteArray) = tn at *
        generalize (⟨(Lib.itoa (np : Int)).toArray⟩ : ByteArray) = tnp at *
        generalize (⟨(Lib.itoa (t12 : Int)).toArray⟩ : ByteArray) = t12t at *
        generalize (⟨(Lib.itoa (a : Int)).toArray⟩ : ByteArray) = ta at *
        generalize (⟨(Lib.itoa (r : Int)).toArray⟩ : ByteArray) = tr at *
        generalize (⟨(Lib.itoa (rm : Int)).toArray⟩ : ByteArray) = tm at *
        go_enter Tryz.func48, Tryz.ntmps48
        go_wp2_with fail
        obtain ⟨wx, EW, hz, X⟩ := al1 w #[.int .i64 (p : Int), .int .i64 (q : Int)] 86
        rw [EW]
        clear EW
        have HB1 := zh hz
        clear hz
        obtain ⟨bx, eb⟩ : ∃ y, w.heap.size = y := ⟨_, rfl⟩
        rw [eb] at X ⊢
        obtain ⟨cX, lX⟩ := X.cl
        refine wp_region_walk [(.pure, 0), (.pure, 2), (.pure, 3), (.read, 4), (.ext, 1), (.ext, 5), (.pure, 6), (.pure, 7), (.pure, 8), (.fin, 9), (.fin, 10)] zk zk zR zP ?_
        repeat (first | (refine walk_pure0 rfl rfl fun J h => ?_; go_simp; refine h _ ?_; clear h J) | (refine walk_load rfl rfl rfl rfl fun J h => ?_; go_simp; refine h _ ?_; clear h J; try go_simp) | (refine walk_pureG rfl rfl fun J h => ?_; go_simp; refine h _ ?_; clear h J) | (refine walk_loadG rfl rfl rfl rfl fun J h => ?_; go_simp; refine h _ ?_; clear h J; try go_simp))
        refine walk_ext rfl rfl (fun we hbe J hJ => ?_); go_simp
        have h1 : Below wx.heap.size wx we := belA
        refine (HO.out _ (HP.out.later (Bt HB1.out h1))).mono ?_
        rintro e w1 ⟨rfl, hb1⟩
        refine hJ _ _ hb1 ?_
        clear hJ J
        have h2 := Bt h1 hb1
        clear h1 hbe hb1
        refine walk_ext rfl rfl (fun we hbe J hJ => ?_); go_simp
        have h3 : Below w1.heap.size w1 we := belA
        refine (HPW.out _ (HP.out.later (Bt HB1.out (Bt h2 h3)))).mono ?_
        rintro e w2 ⟨rfl, hb2⟩
        refine hJ _ _ hb2 ?_
        clear hJ J
        have h4 := Bt h2 (Bt h3 hb2)
        clear h3 h2 hbe hb2
        repeat (first | (refine walk_pure0 rfl rfl fun J h => ?_; go_simp; refine h _ ?_; clear h J) | (refine walk_load rfl rfl rfl rfl fun J h => ?_; go_simp; refine h _ ?_; clear h J; try go_simp))
        refine walk_fin [_, _] rfl (fun wf hbf => ?_)
        have h5 : Below wx.heap.size wx wf := Bt h4 belA
        replace X := X.bl h5
        replace HB1 := zh (Bt HB1.out h5)
        clear h5 h4 hbf cX lX
        obtain ⟨cX, lX⟩ := X.cl
        go_wp2_with fail
        try rw [e12]
        refine (HT.out _).mono ?_
        rintro e w3 ⟨rfl, hb3⟩
        replace HB1 := zh (Bt HB1.out hb3)
        replace X := X.bl hb3
        clear hb3 cX lX
        obtain ⟨cX, lX⟩ := X.cl
        go_wp2_with fail
        refine (HM.out _ (HP.out.later HB1.out)).mono ?_
        rintro e w4 ⟨rfl, hb4⟩
        replace HB1 := zh (Bt HB1.out hb4)
        replace X := X.bl hb4
        clear hb4 cX lX
        obtain ⟨cX, lX⟩ := X.cl
        go_wp2_with fail
        refine (HR.out _ (HP.out.later HB1.out)).mono ?_
        rintro e w5 ⟨rfl, hb5⟩
        replace HB1 := zh (Bt HB1.out hb5)
        clear hb5 X cX lX
        cases hz : (tm.toList == [48]) <;> rw [hz] at HI <;> cases up <;> cases ex
        all_goals
          go_wp2_with fail
          refine (HI.out _ (HE.out.later HB1.out)).mono ?_
          rintro e w6 ⟨rfl, hb6⟩
          have hw := Bt HB1.out hb6
          go_wp2_with fail
          go_ret2
          exact ⟨rfl, hw⟩
  · have hno : ¬ plo n p q ≤ 10 ^ 18 := Nat.not_le.2 (plo_big q1 p36 q12 (Nat.not_lt.1 fun h => h1 (okn_iff.2 h)))
    rw [endV_no hno]
    rw [show wtV ((n ^ p : Nat) : Int) = .tuple #[.string ⟨#[]⟩, .int .i64 6] from by unfold wtV; rw [Int.natAbs_natCast, if_neg h1]] at HPW
    clear h1 hn0 hno hn
    unfold itxt at *
    generalize (⟨(Lib.itoa (n : Int)).toArray⟩ : ByteArray) = tn at *
    go_enter Tryz.func48, Tryz.ntmps48
    go_wp2_with fail
    obtain ⟨wx, EW, hz, X⟩ := al1 w #[.int .i64 (p : Int), .int .i64 (q : Int)] 86
    rw [EW]
    clear EW
    have HB1 := zh hz
    clear hz
    obtain ⟨bx, eb⟩ : ∃ y, w.heap.size = y := ⟨_, rfl⟩
    rw [eb] at X ⊢
    obtain ⟨cX, lX⟩ := X.cl
    refine wp_region_walk [(.pure, 0), (.pure, 2), (.pure, 3), (.read, 4), (.ext, 1), (.ext, 5), (.pure, 6), (.pure, 7), (.pure, 8), (.fin, 9), (.fin, 10)] zk zk zR zP ?_
    repeat (first | (refine walk_pure0 rfl rfl fun J h => ?_; go_simp; refine h _ ?_; clear h J) | (refine walk_load rfl rfl rfl rfl fun J h => ?_; go_simp; refine h _ ?_; clear h J; try go_simp) | (refine walk_pureG rfl rfl fun J h => ?_; go_simp; refine h _ ?_; clear h J) | (refine walk_loadG rfl rfl rfl rfl fun J h => ?_; go_simp; refine h _ ?_; clear h J; try go_simp))
    refine walk_ext rfl rfl (fun we hbe J hJ => ?_); go_simp
    have h1 : Below wx.heap.size wx we := belA
    refine (HO.out _ (HP.out.later (Bt HB1.out h1))).mono ?_
    rintro e w1 ⟨rfl, hb1⟩
    refine hJ _ _ hb1 ?_
    clear hJ J
    have h2 := Bt h1 hb1
    clear h1 hbe hb1
    refine walk_ext rfl rfl (fun we hbe J hJ => ?_); go_simp
    have h3 : Below w1.heap.size w1 we := belA
    refine (HPW.out _ (HP.out.later (Bt HB1.out (Bt h2 h3)))).mono ?_
    rintro e w2 ⟨rfl, hb2⟩
    refine hJ _ _ hb2 ?_
    clear hJ J
    have h4 := Bt h2 (Bt h3 hb2)
    clear h3 h2 hbe hb2
    repeat (first | (refine walk_pure0 rfl rfl fun J h => ?_; go_simp; refine h _ ?_; clear h J) | (refine walk_load rfl rfl rfl rfl fun J h => ?_; go_simp; refine h _ ?_; clear h J; try go_simp))
    refine walk_fin [_, _] rfl (fun wf hbf => ?_)
    have h5 : Below wx.heap.size wx wf := Bt h4 belA
    replace X := X.bl h5
    replace HB1 := zh (Bt HB1.out h5)
    clear h5 h4 hbf cX lX
    obtain ⟨cX, lX⟩ := X.cl
    have hw := HB1.out
    go_wp2_with fail
    go_ret2
    exact ⟨rfl, hw⟩
end Go.Proofs.power
namespace Go.Proofs.power
open Go Go.RowKit Go.SW Go.Num Go.Mem Go.Proofs Go.Dec Go.Fra Go.Proofs.whole Go.Proofs.band
def outE (a b : Int × Int) : (Int × Int) × Int := if a.2 ≠ 0 then ((0, 0), a.2) else if b.2 ≠ 0 then ((0, 0), b.2) else if bok a.1 b.1 then ((a.1, b.1), 0) else ((0, 0), 6)
theorem outB_eq (a b : Int × Int) : outB a b = bndV (outE a b) := by
  unfold outB outE bndV
  by_cases h1 : a.2 = 0 <;> by_cases h2 : b.2 = 0 <;> cases h3 : bok a.1 b.1 <;> simp [h1, h2]
def pwE (lo hi p q : Int) : (Int × Int) × Int := if bok lo hi = false then ((0, 0), 30) else if eok p q = false ∨ lo < 0 then ((0, 0), 2) else outE (endV lo.toNat p.toNat q.toNat false) (endV hi.toNat p.toNat q.toNat true)
theorem Power_ok (lo hi p q : Int) (w : World) (ht : Bld.Pow w) (he : Er w) :
    Calls Tryz.prog 15 #[.agg #[.int .i64 lo, .int .i64 hi], .int .i64 p, .int .i64 q] w (fun e w' => e = .returned (bndV (pwE lo hi p q)) ∧ Below w.heap.size w w') := by
  have HP := zh ht
  have HE := zh he
  have HC := zh (fun W => Check_ok lo hi W)
  have HV := zh (fun W => valid_ok p q W)
  clear ht he
  generalize hz0 : pwE lo hi p q = z at *
  unfold pwE at hz0
  obtain ⟨⟨z1, z2⟩, z3⟩ := z
  unfold bndV
  simp only
  go_enter Tryz.func15, Tryz.ntmps15
  go_wp2_with fail
  obtain ⟨wx, EW, hz, X, R⟩ := al2 w #[.int .i64 lo, .int .i64 hi] 23 #[.int .i64 0, .int .i64 0] 23
  rw [EW]
  clear EW
  have HB := zh hz
  clear hz
  obtain ⟨bx, eb⟩ : ∃ y, w.heap.size = y := ⟨_, rfl⟩
  rw [eb] at X R ⊢
  refine (HC.out _).mono ?_
  rintro e w1 ⟨rfl, hb1⟩
  replace X := X.bl hb1
  replace R := R.bl hb1
  replace HB := zh (Bt HB.out hb1)
  clear hb1 HC
  obtain ⟨cX, lX⟩ := X.cl
  cases hk : bok lo hi
  · rw [hk, if_pos rfl] at hz0
    cases hz0
    have hx := R.out
    have cx := hx.cell
    have fx := hx.free
    have lx := hx.lt
    have hw := HB.out
    go_wp2_with fail
    refine ret_ct rfl rfl boxA Tryz.underlying23 rfl zk ?_
    exact ⟨rfl, belA⟩
  · rw [hk, if_neg zi] at hz0
    go_wp2_with fail
    obtain ⟨wy, EW, hz, Y⟩ := al1 w1 #[.int .i64 p, .int .i64 q] 86
    rw [EW]
    clear EW
    replace HB := zh (Bt HB.out hz)
    replace X := X.bl hz
    replace R := R.bl hz
    clear hz cX lX
    obtain ⟨by', eb⟩ : ∃ y, w1.heap.size = y := ⟨_, rfl⟩
    rw [eb] at Y ⊢
    refine (HV.out _).mono ?_
    rintro e w2 ⟨rfl, hb2⟩
    replace HB := zh (Bt HB.out hb2)
    replace X := X.bl hb2
    replace R := R.bl hb2
    replace Y := Y.bl hb2
    clear hb2 HV
    obtain ⟨cX, lX⟩ := X.cl
    obtain ⟨cY, lY⟩ := Y.cl
    cases hv : eok p q
    · rw [hv, if_pos (Or.inl rfl)] at hz0
      cases hz0
      have hx := R.out
      have cx := hx.cell
      have fx := hx.free
      have lx := hx.lt
      have hw := HB.out
      go_wp2_with fail
      refine ret_ct rfl rfl boxA Tryz.underlying23 rfl zk ?_
      exact ⟨rfl, belA⟩
    · by_cases h0 : lo < 0
      · have g : decide (lo < 0) = true := decide_eq_true h0
        rw [if_pos (Or.inr h0)] at hz0
        cases hz0
        have hx := R.out
        have cx := hx.cell
        have fx := hx.free
        have lx := hx.lt
        have hw := HB.out
        go_wp2_with fail
        refine ret_ct rfl rfl boxA Tryz.underlying23 rfl zk ?_
        exact ⟨rfl, belA⟩
      · have g : decide (lo < 0) = false := decide_eq_false h0
        rw [hv, if_neg (by simp [h0])] at hz0
        obtain ⟨hp1, hp36, hq1, hq12⟩ : 1 ≤ p ∧ p ≤ 36 ∧ 1 ≤ q ∧ q ≤ 12 := by simpa [eok] using hv
        obtain ⟨hk1, hk2, hk3⟩ : -1000000000000000000 ≤ lo ∧ lo ≤ hi ∧ hi ≤ 1000000000000000000 := by simpa [bok] using hk
        have h18 : (10 : Nat) ^ 18 = 1000000000000000000 := by decide
        have E1 := fun W (h : Below w2.heap.size w2 W) => end_ok lo.toNat p.toNat q.toNat false (by rw [h18]; omega) zo zo zo zo W (HP.out.later (Bt HB.out h)) (HE.out.later (Bt HB.out h))
        have E2 := fun W (h : Below w2.heap.size w2 W) => end_ok hi.toNat p.toNat q.toNat true (by rw [h18]; omega) zo zo zo zo W (HP.out.later (Bt HB.out h)) (HE.out.later (Bt HB.out h))
        simp only [Int.toNat_of_nonneg (show 0 ≤ lo by omega), Int.toNat_of_nonneg (show 0 ≤ hi by omega), Int.toNat_of_nonneg (show 0 ≤ p by omega), Int.toNat_of_nonneg (show 0 ≤ q by omega)] at E1 E2
        have HO := zh (outward_ok lo hi (.func (.func 48) #[.agg #[.int .i64 p, .int .i64 q]] #[]) 48 #[.agg #[.int .i64 p, .int .i64 q]] #[] _ _ w2 rfl E1 E2 rfl (fun args W => by rfl))
        rw [outB_eq, hz0] at HO
        unfold bndV at HO
        clear hz0 E1 E2 h18 hp1 hp36 hq1 hq12 hk1 hk2 hk3 hv h0 hk
        go_wp2_with fail
        refine HO.out.mono ?_
        rintro e w3 ⟨rfl, hb3⟩
        replace HB := zh (Bt HB.out hb3)
        replace R := R.bl hb3
        clear hb3 HO X Y cX lX cY lY
        have hx := R.out
        have cx := hx.cell
        have fx := hx.free
        have lx := hx.lt
        have hw := HB.out
        go_wp2_with fail
        refine ret_ct rfl rfl boxA Tryz.underlying23 rfl zk ?_
        exact ⟨rfl, belA⟩
theorem Root_ok (lo hi q : Int) (w : World) (ht : Bld.Pow w) (he : Er w) :
    Calls Tryz.prog 17 #[.agg #[.int .i64 lo, .int .i64 hi], .int .i64 q] w (fun e w' => e = .returned (bndV (pwE lo hi 1 q)) ∧ Below w.heap.size w w') := by
  have HP := zh ht
  have HE := zh he
  have H := zh (fun W h1 h2 => Power_ok lo hi 1 q W h1 h2)
  clear ht he
  generalize pwE lo hi 1 q = z at *
  obtain ⟨⟨z1, z2⟩, z3⟩ := z
  unfold bndV at *
  simp only at *
  go_enter Tryz.func17, Tryz.ntmps17
  go_wp2_with fail
  obtain ⟨wx, EW, hz, X, R⟩ := al2 w #[.int .i64 lo, .int .i64 hi] 23 #[.int .i64 0, .int .i64 0] 23
  rw [EW]
  clear EW
  have HB := zh hz
  clear hz
  obtain ⟨bx, eb⟩ : ∃ y, w.heap.size = y := ⟨_, rfl⟩
  rw [eb] at X R ⊢
  refine (H.out _ (HP.out.later HB.out) (HE.out.later HB.out)).mono ?_
  rintro e w1 ⟨rfl, hb1⟩
  replace R := R.bl hb1
  replace HB := zh (Bt HB.out hb1)
  clear hb1 X
  have hx := R.out
  have cx := hx.cell
  have fx := hx.free
  have lx := hx.lt
  have hw := HB.out
  go_wp2_with fail
  refine ret_ct rfl rfl boxA Tryz.underlying23 rfl zk ?_
  exact ⟨rfl, belA⟩
theorem outwardW_ok (lo hi : ByteArray) (f : Value) (F : FuncId) (caps free : Array Value) (a b : Int × Int) (w : World) (hf : f = .func (.func F) caps free)
    (h1 : ∀ W, Below w.heap.size w W → Calls Tryz.prog F (caps ++ #[.string lo, .bool false]) W (fun e w' => e = .returned (.tuple #[.int .i64 a.1, .int .i64 a.2]) ∧ Below W.heap.size W w'))
    (h2 : ∀ W, Below w.heap.size w W → Calls Tryz.prog F (caps ++ #[.string hi, .bool true]) W (fun e w' => e = .returned (.tuple #[.int .i64 b.1, .int .i64 b.2]) ∧ Below W.heap.size W w')) (hfr : free = #[])
    (hen : ∀ args W, (callFunc F args).run Tryz.prog W = .ok (.enter F args) W) :
    Calls Tryz.prog 67 #[.string lo, .string hi, f] w (fun e w' => e = .returned (outB a b) ∧ Below w.heap.size w w') := by
  subst hf hfr
  obtain ⟨a1, a2⟩ := a
  obtain ⟨b1, b2⟩ := b
  have H1 := zh h1
  have H2 := zh h2
  have HO := zh (fun W => Of_ok a1 b1 W)
  unfold outB
  simp only
  clear h1 h2
  go_enter Tryz.func67, Tryz.ntmps67
  go_wp2_with fail
  refine (H1.out _ belA).mono ?_
  rintro e w1 ⟨rfl, hb1⟩
  have hx := Box.later (Box.new w #[.int .i64 0, .int .i64 0] 23) hb1
  have HX := zh hx
  have HB1 := zh (Bt (show Below w.heap.size w (w.alloc (.cells #[.int .i64 0, .int .i64 0] 23)) from belA) hb1)
  clear hx hb1
  by_cases ha : a2 = 0
  · subst ha
    go_wp2_with fail
    refine (H2.out _ HB1.out).mono ?_
    rintro e w2 ⟨rfl, hb2⟩
    replace HX := zh (HX.out.later hb2)
    have HB2 := zh (Bt HB1.out hb2)
    clear hb2 HB1
    by_cases hb : b2 = 0
    · subst hb
      go_wp2_with fail
      refine (HO.out _).mono ?_
      rintro e w3 ⟨rfl, hb3⟩
      replace HX := zh (HX.out.later hb3)
      have HB3 := zh (Bt HB2.out hb3)
      clear hb3 HB2
      have hx := HX.out
      have cx := hx.cell
      have fx := hx.free
      have lx := hx.lt
      have hw := HB3.out
      cases hk : bok a1 b1
      all_goals
        go_wp2_with fail
        refine ret_ct rfl rfl boxA Tryz.underlying23 rfl zk ?_
        exact ⟨by first | rfl | (rw [if_neg (fun h => h rfl), if_neg (fun h => h rfl), hk]; rfl), belA⟩
    · have g : (b2 == 0) = false := beq_eq_false_iff_ne.2 hb
      have hx := HX.out
      have cx := hx.cell
      have fx := hx.free
      have lx := hx.lt
      have hw := HB2.out
      go_wp2_with fail
      refine ret_ct rfl rfl boxA Tryz.underlying23 rfl zk ?_
      exact ⟨by first | rfl | (rw [if_neg (fun h => h rfl), if_pos hb]; rfl), belA⟩
  · have g : (a2 == 0) = false := beq_eq_false_iff_ne.2 ha
    have hx := HX.out
    have cx := hx.cell
    have fx := hx.free
    have lx := hx.lt
    have hw := HB1.out
    go_wp2_with fail
    refine ret_ct rfl rfl boxA Tryz.underlying23 rfl zk ?_
    exact ⟨by first | rfl | (rw [if_pos ha]; rfl), belA⟩
theorem addSquare_ok (s n : Nat) (hs : okn s = true) (hn : n ≤ 10 ^ 18) (hk : okn (s + n ^ 2) = true) (w : World) (ht : Bld.Pow w) :
    Calls Tryz.prog 66 #[itxt (s : Int), .int .i64 (n : Int)] w (fun e w' => e = .returned (.tuple #[itxt ((s + n ^ 2 : Nat) : Int), .int .i64 0]) ∧ Below w.heap.size w w') := by
  have hn0 : okn n = true := okn_iff.2 (Nat.lt_of_le_of_lt hn (by decide +kernel))
  have hn2 : okn (n ^ 2) = true := okn_le hk zo
  have h63 : (n : Int) ≤ 9223372036854775807 := by
    have : (10 : Nat) ^ 18 = 1000000000000000000 := by decide
    omega
  have HO := zh (fun W h => of_ok (n : Int) zo h63 W h)
  have HPW := zh (fun W h => Pow_ok n 2 hn0 zo W h)
  have HA := zh (fun W h => Add_ok s (n ^ 2) hs hn2 W h)
  rw [wtV_ok hn2] at HPW
  rw [wtV_ok hk] at HA
  have HP := zh ht
  clear ht h63 hn2 hn0 hs hn hk
  generalize s + n ^ 2 = u at *
  generalize n ^ 2 = n2 at *
  unfold itxt at *
  generalize (⟨(Lib.itoa (n : Int)).toArray⟩ : ByteArray) = tn at *
  generalize (⟨(Lib.itoa (n2 : Int)).toArray⟩ : ByteArray) = tn2 at *
  generalize (⟨(Lib.itoa (s : Int)).toArray⟩ : ByteArray) = ts at *
  generalize (⟨(Lib.itoa (u : Int)).toArray⟩ : ByteArray) = tu at *
  go_enter Tryz.func66, Tryz.ntmps66
  go_wp2_with fail
  refine (HO.out _ HP.out).mono ?_
  rintro e w1 ⟨rfl, hb1⟩
  go_wp2_with fail
  refine (HPW.out _ (HP.out.later hb1)).mono ?_
  rintro e w2 ⟨rfl, hb2⟩
  go_wp2_with fail
  refine (HA.out _ (HP.out.later (Bt hb1 hb2))).mono ?_
  rintro e w3 ⟨rfl, hb3⟩
  go_wp2_with fail
  go_ret2
  exact ⟨rfl, Bt hb1 (Bt hb2 hb3)⟩
theorem Norm1_ok (s : Nat) (up : Bool) (hs : okn s = true) (w : World) (ht : Bld.Pow w) (he : Er w) :
    Calls Tryz.prog 68 #[itxt (s : Int), .bool up] w (fun e w' => e = .returned (.tuple #[.int .i64 (intV (iroot 2 s) (up && !(decide (iroot 2 s ^ 2 = s)))).1, .int .i64 (intV (iroot 2 s) (up && !(decide (iroot 2 s ^ 2 = s)))).2]) ∧ Below w.heap.size w w') := by
  have HR := zh (fun W h => root_ok s 2 hs zo zo W h)
  have HI := zh (fun W h => integer_ok (iroot 2 s) (up && !(decide (iroot 2 s ^ 2 = s))) (okn_le hs (iroot_self zo)) W h)
  have HP := zh ht
  have HE := zh he
  clear ht he hs
  generalize decide (iroot 2 s ^ 2 = s) = ex at *
  obtain ⟨v, Ev⟩ : ∃ v, intV (iroot 2 s) (up && !ex) = v := ⟨_, rfl⟩
  rw [Ev] at HI ⊢
  clear Ev
  obtain ⟨v1, v2⟩ := v
  simp only at HI ⊢
  generalize iroot 2 s = r at *
  unfold itxt at *
  generalize (⟨(Lib.itoa (s : Int)).toArray⟩ : ByteArray) = ts at *
  generalize (⟨(Lib.itoa (r : Int)).toArray⟩ : ByteArray) = tr at *
  go_enter Tryz.func68, Tryz.ntmps68
  go_wp2_with fail
  refine (HR.out _ HP.out).mono ?_
  rintro e w1 ⟨rfl, hb1⟩
  cases up <;> cases ex
  all_goals
    go_wp2_with fail
    refine (HI.out _ (HE.out.later hb1)).mono ?_
    rintro e w2 ⟨rfl, hb2⟩
    go_wp2_with fail
    go_ret2
    exact ⟨rfl, Bt hb1 hb2⟩
theorem intV_norm {l : List Nat} {up : Bool} : intV (iroot 2 (sqs l)) (up && !(decide (iroot 2 (sqs l) ^ 2 = sqs l))) = nrmV l up := by
  show intV (nlo l) (up && !(decide (nlo l ^ 2 = sqs l))) = nrmV l up
  by_cases h : nlo l ≤ 10 ^ 18
  · rw [nrmV_up h]
    unfold intV
    rw [if_pos h]
  · unfold nrmV intV
    rw [if_neg h, if_neg h]
end Go.Proofs.power
namespace Go.Proofs.power
open Go Go.RowKit Go.Shelf Go.SW Go.Num Go.Mem Go.Proofs Go.Dec Go.Fra Go.Proofs.whole Go.Proofs.band
attribute [local go_sem] Oper.semAt_some
theorem keeps_of_below {W W' : World} (h : Below W.heap.size W W') : KeepsOthers W W' :=
  ⟨h.size, fun k o hk _ => (h.block k (Array.getElem?_eq_some_iff.1 hk).1).trans hk⟩
theorem box_kept {W W' : World} {row : Option Nat} {b : Nat} {cs : Array Value} {T : TypeId} (h : Box W b cs T) (hg : W.grownBy W' row) (hr : ∀ r, row = some r → ∃ o : Obj, W.heap[r]? = some o ∧ o.isCells = false) : Box W' b cs T := by
  unfold Box at *
  rw [hg.block b (Array.getElem?_eq_some_iff.1 h).1 ?_]
  · exact h
  · intro e
    obtain ⟨o, ho, hc⟩ := hr b e.symm
    rw [h] at ho
    cases ho
    cases hc
theorem sqs_bound {l : List Nat} {m : Nat} (h : ∀ x ∈ l, x ≤ m) : sqs l ≤ l.length * m ^ 2 := by
  induction l with
  | nil => exact Nat.zero_le _
  | cons x t ih =>
    rw [sqs_cons, List.length_cons, Nat.add_mul, Nat.one_mul, Nat.add_comm]
    exact Nat.add_le_add (ih fun y hy => h y (List.mem_cons_of_mem _ hy)) (Nat.pow_le_pow_left (h x zi) 2)
theorem okn_sqs {l : List Nat} (h : ∀ x ∈ l, x ≤ 10 ^ 18) (h8 : l.length ≤ 8) : okn (sqs l) = true := by
  have h1 := sqs_bound h
  have h3 : 8 * (10 ^ 18) ^ 2 < 10 ^ 600 := by decide +kernel
  generalize (10 ^ 18) ^ 2 = m at *
  have h2 : l.length * m ≤ 8 * m := Nat.mul_le_mul_right _ h8
  exact okn_iff.2 (Nat.lt_of_le_of_lt h1 (Nat.lt_of_le_of_lt h2 h3))
def los (bs : List (Int × Int)) (pre : List (Fin bs.length)) : List Nat := pre.map fun x => blo bs[x.1]
def his (bs : List (Int × Int)) (pre : List (Fin bs.length)) : List Nat := pre.map fun x => bhi bs[x.1]
theorem los_upto (bs : List (Int × Int)) : los bs (upto bs.length (Nat.le_refl _)) = bs.map blo := by
  unfold los upto
  rw [List.map_ofFn]
  refine List.ext_getElem zi fun i h1 h2 => ?_
  simp
theorem his_upto (bs : List (Int × Int)) : his bs (upto bs.length (Nat.le_refl _)) = bs.map bhi := by
  unfold his upto
  rw [List.map_ofFn]
  refine List.ext_getElem zi fun i h1 h2 => ?_
  simp
theorem los_snoc (bs : List (Int × Int)) (pre : List (Fin bs.length)) (x : Fin bs.length) : sqs (los bs (pre ++ [x])) = sqs (los bs pre) + blo bs[x.1] ^ 2 := by
  unfold los
  rw [List.map_append, sqs_append]
  simp [sqs]
theorem his_snoc (bs : List (Int × Int)) (pre : List (Fin bs.length)) (x : Fin bs.length) : sqs (his bs (pre ++ [x])) = sqs (his bs pre) + bhi bs[x.1] ^ 2 := by
  unfold his
  rw [List.map_append, sqs_append]
  simp [sqs]
theorem outN_ok (l m : List Nat) (hl : okn (sqs l) = true) (hm : okn (sqs m) = true) (w : World) (ht : Bld.Pow w) (he : Er w) :
    Calls Tryz.prog 67 #[itxt (sqs l : Nat), itxt (sqs m : Nat), .func (.func 68) #[] #[]] w (fun e w' => e = .returned (bndV (outE (nrmV l false) (nrmV m true))) ∧ Below w.heap.size w w') := by
  have E1 := fun W (h : Below w.heap.size w W) => Norm1_ok (sqs l) false hl W (ht.later h) (he.later h)
  have E2 := fun W (h : Below w.heap.size w W) => Norm1_ok (sqs m) true hm W (ht.later h) (he.later h)
  simp only [intV_norm] at E1 E2
  unfold itxt at *
  rw [← outB_eq]
  exact outwardW_ok _ _ (.func (.func 68) #[] #[]) 68 #[] #[] _ _ w rfl E1 E2 rfl (fun args W => by rfl)
def nrmE (bs : List (Int × Int)) : (Int × Int) × Int := if bs.length = 0 then ((0, 0), 2) else if 8 < bs.length then ((0, 0), 3) else if okB bs = false then ((0, 0), 30) else outE (nrmV (bs.map blo) false) (nrmV (bs.map bhi) true)
theorem Norm_main (a : Option Addr) (cap : Nat) (T : TypeId) (bs : List (Int × Int)) (h1 : 1 ≤ bs.length) (h8 : bs.length ≤ 8) (hok : okB bs = true) (w : World) (hv : Bds w T (.slice a bs.length cap) bs) (ht : Bld.Pow w) (he : Er w) :
    Calls Tryz.prog 25 #[.slice a bs.length cap] w (fun e w' => e = .returned (bndV (outE (nrmV (bs.map blo) false) (nrmV (bs.map bhi) true))) ∧ Below w.heap.size w w') := by
  have q1 : ((bs.length : Int) == 0) = false := beq_eq_false_iff_ne.2 zo
  have q2 : decide ((8 : Int) < (bs.length : Int)) = false := by simp; omega
  have HR := zh hv
  have HP := zh ht
  have HE := zh he
  have HOK := zh hok
  have HL := zh h8
  have hread : ∀ k (_ : k < bs.length), ∃ b off, a = some ⟨b, off, none⟩ ∧ b < w.heap.size ∧ w.cell? ⟨b, off + k * 2, none⟩ = some (.int .i64 bs[k].1) ∧ w.cell? ⟨b, off + k * 2 + 1, none⟩ = some (.int .i64 bs[k].2) := by
    obtain ⟨a', cap', e, -, -, h⟩ := hv.read
    cases e
    exact h
  have HRD := zh hread
  clear hread
  clear hv ht he hok h8
  obtain ⟨z, EZ⟩ : ∃ z, outE (nrmV (bs.map blo) false) (nrmV (bs.map bhi) true) = z := ⟨_, rfl⟩
  rw [EZ]
  have HZ := zh EZ
  clear EZ
  obtain ⟨⟨z1, z2⟩, z3⟩ := z
  unfold bndV
  simp only
  refine (callsIn_wide (n := 3)).1 ?_
  refine callsIn_of_wp_marks Tryz.func25 rfl trivial ?_ rfl
  simp only [Tryz.ntmps25, List.size_toArray, List.length_cons, List.length_nil, Nat.reduceAdd, Nat.reduceSub, Array.replicate_succ, Array.replicate_zero, List.push_toArray, List.append_toArray, List.nil_append, List.cons_append]
  gi_wp2
  refine wpIn_scope ?_
  gi_wp2
  refine wpIn_label ?_
  obtain ⟨wx, EW, hz, R, E3, E⟩ := al3 w #[.int .i64 0, .int .i64 0] 23 #[.int .i64 0] 33 #[.int .i64 0] 33
  rw [EW]
  clear EW
  obtain ⟨bx, eb⟩ : ∃ y, w.heap.size = y := ⟨_, rfl⟩
  rw [eb] at R E3 E ⊢
  gi_wp2
  gi_loopw [20] (fun i wr => ∃ k : Nat, i = .int .i64 k ∧ k ≤ bs.length ∧ Below w.heap.size w wr ∧ Hid (Box wr bx #[.int .i64 0, .int .i64 0] 23) ∧ Hid (Box wr (bx + 1) #[.int .i64 0] 33) ∧ Hid (Box wr (bx + 1 + 1) #[.int .i64 0] 33))
    (fun i _ => bs.length - (intOf i).toNat)
  case atStart => exact ⟨0, rfl, Nat.zero_le _, hz, R, E3, E⟩
  case round =>
    clear R E3 E hz
    obtain ⟨k, rfl, hk, hnx, R, E3, E⟩ := hrel
    have hw1 : wrap64 ((k : Int) + 1) = ((k + 1 : Nat) : Int) := by
      have := HL.out
      unfold wrap64
      omega
    by_cases hlt : k < bs.length
    · obtain ⟨b, off, rfl, hbl, hx1, hx2⟩ := HRD.out k hlt
      have hc1 := (hnx.cell (p := ⟨b, off + k * 2, none⟩) hbl).trans hx1
      have hc2 := (hnx.cell (p := ⟨b, off + k * 2 + 1, none⟩) hbl).trans hx2
      clear hx1 hx2
      have hv : bok bs[k].1 bs[k].2 = true := List.all_eq_true.1 HOK.out _ (List.getElem_mem hlt)
      have HC := zh (fun W => Check_ok bs[k].1 bs[k].2 W)
      rw [hv, if_pos rfl] at HC
      have HB := zh hbl
      clear hv hbl
      generalize bs[k].1 = y1 at *
      generalize bs[k].2 = y2 at *
      gi_wp2_with (refine ⟨trivial, ?_⟩; gi_at_call 45; refine (callsIn_wide.2 (HC.out _)).mono ?_; rintro e w1 ⟨rfl, hc3⟩; have HN := zh (hnx.alloc hnx.size (.cells #[.int .i64 y1, .int .i64 y2] 23)); replace R := (zh (R.out.alloc (.cells #[.int .i64 y1, .int .i64 y2] 23))).bl hc3; replace E3 := (zh (E3.out.alloc (.cells #[.int .i64 y1, .int .i64 y2] 23))).bl hc3; replace E := (zh (E.out.alloc (.cells #[.int .i64 y1, .int .i64 y2] 23))).bl hc3; replace HN := zh (Bt HN.out hc3); clear hc3 hnx hc1 hc2; have cE := E.out.cell; have fE := E.out.free; have lE := E.out.lt)
      go_roundw
      case rel =>
        have hn := HN.out
        rw [eb] at hn
        have r := R.out
        have e3 := E3.out
        have e4 := E.out
        rw [eb]
        exact ⟨k + 1, by rw [hw1], by omega, belA, zh boxA, zh boxA, zh (e4.set 0 _)⟩
      case measure =>
        rw [hw1]
        simp only [intOf, Int.toNat_natCast]
        omega
    · obtain rfl : k = bs.length := by omega
      have hge : ¬ bs.length < bs.length := by omega
      have hge2 : decide ((bs.length : Int) < (bs.length : Int)) = false := by simp
      have cE := E.out.cell
      have fE := E.out.free
      have lE := E.out.lt
      gi_wp2_with (refine ⟨trivial, ?_⟩; gi_at_call 65; refine (absolutes_in 2 _ _ _ _).mono ?_; rintro e w' ⟨rfl, rfl⟩)
      have hnx' := hnx
      obtain ⟨wy, EW, hz, LO, HI, SB⟩ := al3 wr #[.string ⟨#[48]⟩] 38 #[.string ⟨#[48]⟩] 38 #[.slice a bs.length cap] 55
      rw [EW]
      clear EW
      obtain ⟨lb, el⟩ : ∃ y, wr.heap.size = y := ⟨_, rfl⟩
      have hB0 : Below w.heap.size w wy := Bt hnx hz
      have hlb : bx + 1 + 1 < lb := by rw [← el]; exact E.out.lt
      replace R := R.bl hz
      replace E3 := E3.bl hz
      replace E := E.bl hz
      rw [el] at LO HI SB ⊢
      clear cE fE lE hz hnx hnx'
      have z0 : Value.string ⟨#[48]⟩ = itxt ((0 : Nat) : Int) := by kernel_rfl
      rw [z0] at LO HI
      have hlen8 := HL.out
      have HBN : Hid (∀ x : Fin bs.length, bok bs[x.1].1 bs[x.1].2 = true) := zh fun x => List.all_eq_true.1 HOK.out _ (List.getElem_mem x.2)
      have HLO : Hid (∀ pre : List (Fin bs.length), pre.length ≤ bs.length → okn (sqs (los bs pre)) = true) := zh fun pre hp => okn_sqs (fun y hy => by
        obtain ⟨x, -, rfl⟩ := List.mem_map.1 hy
        have := bhi_le (HBN.out x)
        omega) (by unfold los; rw [List.length_map]; omega)
      have HHI : Hid (∀ pre : List (Fin bs.length), pre.length ≤ bs.length → okn (sqs (his bs pre)) = true) := zh fun pre hp => okn_sqs (fun y hy => by
        obtain ⟨x, -, rfl⟩ := List.mem_map.1 hy
        exact (bhi_le (HBN.out x)).2) (by unfold his; rw [List.length_map]; omega)
      refine wpIn_rangeFunc_ownH (α := Fin bs.length) rfl zo (gf := 113) (lb := #[.pointer (some ⟨lb + 1 + 1, 0, none⟩)]) rfl trivial (enters_of Tryz.func113 zk rfl)
        (absolutes_stops 2 zo (lb + 1 + 1) w.heap.size (.slice a bs.length cap) T bs HOK.out w wy SB.out.lt hB0.size ((SB.out.cell 0).trans rfl) HR.out (Nat.le_refl _) hB0) belowK_t (belowK_b hB0.size) (Below.refl _ _) (fun _ => rfl)
        (fun pre W => (Box W bx #[.int .i64 0, .int .i64 0] 23 ∧ Box W (bx + 1) #[.int .i64 0] 33 ∧ Box W (bx + 1 + 1) #[.int .i64 0] 33 ∧ Box W lb #[itxt (sqs (los bs pre) : Nat)] 38 ∧ Box W (lb + 1) #[itxt (sqs (his bs pre) : Nat)] 38) ∧ Below w.heap.size w W)
        (fun c' pre W => False ∧ Below w.heap.size w W)
        (OwnFrom.and (Own.from (fun s A B row hs hg hr => ⟨box_kept hs.1 hg hr, box_kept hs.2.1 hg hr, box_kept hs.2.2.1 hg hr, box_kept hs.2.2.2.1 hg hr, box_kept hs.2.2.2.2 hg hr⟩) _) (ownFrom_below (Nat.le_refl _) hB0.size))
        (fun c => OwnFrom.and (Own.from (fun s A B row hs hg hr => hs) _) (ownFrom_below (Nat.le_refl _) hB0.size))
        ⟨⟨R.out, E3.out, E.out, LO.out, HI.out⟩, hB0⟩ (fun x a' W => ∃ u35 B, lb + 1 < B ∧ a' = { tmps := #[Value.slice a bs.length cap, undef, .pointer (some ⟨bx, 0, none⟩), .pointer (some ⟨bx + 1, 0, none⟩), .pointer (some ⟨bx + 1 + 1, 0, none⟩), undef, u6, .pointer (some ⟨lb, 0, none⟩), .pointer (some ⟨lb + 1, 0, none⟩), .pointer (some ⟨B, 0, none⟩), .slice a bs.length cap, .int .i64 bs.length, .bool false, undef, .slice a bs.length cap, .int .i64 bs.length, .bool false, undef, .slice a bs.length cap, .int .i64 bs.length, .int .i64 bs.length, .bool false, u22, u23, u24, u25, u26, u27, u28, .int .i64 0, .bool false, undef, undef, .slice a bs.length cap, .func (.func 113) #[] #[.pointer (some ⟨lb + 1 + 1, 0, none⟩)], u35, undef, undef, undef, undef, undef, undef, undef, undef, undef, undef, undef, undef, undef, undef, undef, undef, undef, undef, undef, undef, undef, undef, undef, undef, undef, undef, undef], defers := [] } ∧ Box W B #[.int .i64 ((blo bs[x.1] : Nat) : Int), .int .i64 ((bhi bs[x.1] : Nat) : Int)] 23) ?hAx ?assign ?body ?done ?stop
      case hAx =>
        intro x a'
        exact Own.from (fun s A B row hs hg hr => by
          obtain ⟨u1, B', h0, h1, h2⟩ := hs
          exact ⟨u1, B', h0, h1, box_kept h2 hg hr⟩) _
      case assign =>
        intro l pre x W K hI hK
        unfold encA
        gi_wp2
        exact hK _ _ ((keeps_of_below belA).from _) ((Below.refl _ W).alloc hI.2.size _) ⟨⟨hI.1.1.alloc _, hI.1.2.1.alloc _, hI.1.2.2.1.alloc _, hI.1.2.2.2.1.alloc _, hI.1.2.2.2.2.alloc _⟩, hI.2.alloc hI.2.size _⟩ ⟨_, _, hI.1.2.2.2.2.lt, rfl, boxA⟩
      case body =>
        rintro l pre x a' W hl hr ⟨⟨b1, b2, b3, b4, b5⟩, hB⟩ ⟨u35, B', hBl, rfl, hbB⟩ hpl
        dsimp only
        have hS1 := HLO.out pre zo
        have hS2 := HHI.out pre zo
        have hT1 := HLO.out (pre ++ [x]) (by rw [List.length_append, List.length_singleton]; omega)
        have hT2 := HHI.out (pre ++ [x]) (by rw [List.length_append, List.length_singleton]; omega)
        have hbx := bhi_le (HBN.out x)
        rw [los_snoc] at hT1
        rw [his_snoc] at hT2
        have A1 := zh (fun W h => addSquare_ok (sqs (los bs pre)) (blo bs[x.1]) hS1 zo hT1 W h)
        have A2 := zh (fun W h => addSquare_ok (sqs (his bs pre)) (bhi bs[x.1]) hS2 hbx.2 hT2 W h)
        rw [← los_snoc] at A1
        rw [← his_snoc] at A2
        clear hS1 hS2 hT1 hT2 hbx
        obtain ⟨t1, Et1⟩ : ∃ y, itxt ((sqs (los bs (pre ++ [x])) : Nat) : Int) = .string y := ⟨_, rfl⟩
        obtain ⟨t2, Et2⟩ : ∃ y, itxt ((sqs (his bs (pre ++ [x])) : Nat) : Int) = .string y := ⟨_, rfl⟩
        obtain ⟨s1, Es1⟩ : ∃ y, itxt ((sqs (los bs pre) : Nat) : Int) = .string y := ⟨_, rfl⟩
        obtain ⟨s2, Es2⟩ : ∃ y, itxt ((sqs (his bs pre) : Nat) : Int) = .string y := ⟨_, rfl⟩
        rw [Et1, Es1] at A1
        rw [Et2, Es2] at A2
        rw [Es1] at b4
        rw [Es2] at b5
        have HT1 := zh Et1
        have HT2 := zh Et2
        clear Et1 Et2 Es1 Es2
        generalize blo bs[x.1] = n1 at *
        generalize bhi bs[x.1] = n2 at *
        have ne1 : lb ≠ bx + 1 + 1 := by omega
        have ne2 : lb + 1 ≠ bx + 1 + 1 := by omega
        have ne3 : B' ≠ lb := by omega
        have ne4 : B' ≠ bx + 1 + 1 := by omega
        have cB := hbB.cell
        have lB := hbB.lt
        have c4 := b4.cell
        have l4 := b4.lt
        gi_wp2_with (first | (refine ⟨trivial, ?_⟩; gi_at_call 66; with_reducible refine (CallsIn.inRound l (callsIn_wide.2 (A1.out _ ?_))).mono ?_; exact (HP.out.later hB); rintro e w1 ⟨rfl, hc1⟩; have c1 := (b1.later hc1); have c2 := (b2.later hc1); have c3 := (b3.later hc1); have c4 := (b4.later hc1); have c5 := (b5.later hc1); have cB := (hbB.later hc1).cell; have lB := (hbB.later hc1).lt; have d3 := c3.cell; have d4 := c4.cell; have d5 := c5.cell; have f3 := c3.free; have f4 := c4.free; have f5 := c5.free; have l3 := c3.lt; have l4 := c4.lt; have l5 := c5.lt))
        have k1 : KeepsOthers W ((w1.setCell ⟨lb, 0, none⟩ (.string t1)).setCell ⟨bx + 1 + 1, 0, none⟩ (.int .i64 0)) := ((keeps_of_below hc1).trans (KeepsOthers.setCell _ _ _)).trans (KeepsOthers.setCell _ _ _)
        have p1 : Below w.heap.size W ((w1.setCell ⟨lb, 0, none⟩ (.string t1)).setCell ⟨bx + 1 + 1, 0, none⟩ (.int .i64 0)) := ((hc1.mono hB.size).setCell (p := ⟨lb, 0, none⟩) (by simp; omega) _).setCell (p := ⟨bx + 1 + 1, 0, none⟩) (by simp; omega) _
        have e1 : Box ((w1.setCell ⟨lb, 0, none⟩ (.string t1)).setCell ⟨bx + 1 + 1, 0, none⟩ (.int .i64 0)) bx #[.int .i64 0, .int .i64 0] 23 := Box.setOther (Box.setOther c1 _ (by simp; omega)) _ (by simp; omega)
        have e2 : Box ((w1.setCell ⟨lb, 0, none⟩ (.string t1)).setCell ⟨bx + 1 + 1, 0, none⟩ (.int .i64 0)) (bx + 1) #[.int .i64 0] 33 := Box.setOther (Box.setOther c2 _ (by simp; omega)) _ zi
        have e3 : Box ((w1.setCell ⟨lb, 0, none⟩ (.string t1)).setCell ⟨bx + 1 + 1, 0, none⟩ (.int .i64 0)) (bx + 1 + 1) #[.int .i64 0] 33 := Box.set (Box.setOther c3 _ (by simp; omega)) 0 _
        have e4 : Box ((w1.setCell ⟨lb, 0, none⟩ (.string t1)).setCell ⟨bx + 1 + 1, 0, none⟩ (.int .i64 0)) lb #[.string t1] 38 := Box.setOther (Box.set c4 0 _) _ (by simp; omega)
        have e5 : Box ((w1.setCell ⟨lb, 0, none⟩ (.string t1)).setCell ⟨bx + 1 + 1, 0, none⟩ (.int .i64 0)) (lb + 1) #[.string s2] 38 := Box.setOther (Box.setOther c5 _ zi) _ (by simp; omega)
        generalize (w1.setCell ⟨lb, 0, none⟩ (.string t1)).setCell ⟨bx + 1 + 1, 0, none⟩ (.int .i64 0) = w2 at *
        clear c1 c2 c3 c4 c5 d3 d4 d5 f3 f4 f5 l3 l4 l5 cB lB hc1 b1 b2 b3 b4 b5
        refine ⟨trivial, ?_⟩
        have hB2 := hB.trans p1
        refine (CallsIn.inRound l (callsIn_wide.2 (A2.out _ (HP.out.later hB2)))).mono ?_
        rintro e w3 ⟨rfl, hc3⟩
        have q1 := e1.later hc3
        have q2 := e2.later hc3
        have q3 := e3.later hc3
        have q4 := e4.later hc3
        have q5 := e5.later hc3
        have d3 := q3.cell
        have d5 := q5.cell
        have f3 := q3.free
        have f5 := q5.free
        have l3 := q3.lt
        have l5 := q5.lt
        gi_wp2
        have k3 : KeepsOthers W ((w3.setCell ⟨lb + 1, 0, none⟩ (.string t2)).setCell ⟨bx + 1 + 1, 0, none⟩ (.int .i64 0)) := ((k1.trans (keeps_of_below hc3)).trans (KeepsOthers.setCell _ _ _)).trans (KeepsOthers.setCell _ _ _)
        have p3 : Below w.heap.size W ((w3.setCell ⟨lb + 1, 0, none⟩ (.string t2)).setCell ⟨bx + 1 + 1, 0, none⟩ (.int .i64 0)) := ((p1.trans (hc3.mono hB2.size)).setCell (p := ⟨lb + 1, 0, none⟩) (by simp; omega) _).setCell (p := ⟨bx + 1 + 1, 0, none⟩) (by simp; omega) _
        have g1 : Box ((w3.setCell ⟨lb + 1, 0, none⟩ (.string t2)).setCell ⟨bx + 1 + 1, 0, none⟩ (.int .i64 0)) bx #[.int .i64 0, .int .i64 0] 23 := Box.setOther (Box.setOther q1 _ (by simp; omega)) _ (by simp; omega)
        have g2 : Box ((w3.setCell ⟨lb + 1, 0, none⟩ (.string t2)).setCell ⟨bx + 1 + 1, 0, none⟩ (.int .i64 0)) (bx + 1) #[.int .i64 0] 33 := Box.setOther (Box.setOther q2 _ (by simp; omega)) _ zi
        have g3 : Box ((w3.setCell ⟨lb + 1, 0, none⟩ (.string t2)).setCell ⟨bx + 1 + 1, 0, none⟩ (.int .i64 0)) (bx + 1 + 1) #[.int .i64 0] 33 := Box.set (Box.setOther q3 _ (by simp; omega)) 0 _
        have g4 : Box ((w3.setCell ⟨lb + 1, 0, none⟩ (.string t2)).setCell ⟨bx + 1 + 1, 0, none⟩ (.int .i64 0)) lb #[.string t1] 38 := Box.setOther (Box.setOther q4 _ zi) _ (by simp; omega)
        have g5 : Box ((w3.setCell ⟨lb + 1, 0, none⟩ (.string t2)).setCell ⟨bx + 1 + 1, 0, none⟩ (.int .i64 0)) (lb + 1) #[.string t2] 38 := Box.setOther (Box.set q5 0 _) _ (by simp; omega)
        refine ⟨k3.from _, p3, ⟨g1, g2, g3, ?_, ?_⟩, hB.trans p3⟩
        · rw [HT1.out]
          exact g4
        · rw [HT2.out]
          exact g5
      case done =>
        rintro D ys W hD rfl ⟨⟨b1, b2, b3, b4, b5⟩, hB⟩ hK
        rw [los_upto] at b4
        rw [his_upto] at b5
        have HO := zh (fun W h1 h2 => outN_ok (bs.map blo) (bs.map bhi) (by rw [← los_upto]; exact HLO.out _ (by rw [upto_length]; omega)) (by rw [← his_upto]; exact HHI.out _ (by rw [upto_length]; omega)) W h1 h2)
        rw [HZ.out] at HO
        unfold bndV at HO
        simp only at HO
        obtain ⟨s1, Es1⟩ : ∃ y, itxt ((sqs (bs.map blo) : Nat) : Int) = .string y := ⟨_, rfl⟩
        obtain ⟨s2, Es2⟩ : ∃ y, itxt ((sqs (bs.map bhi) : Nat) : Int) = .string y := ⟨_, rfl⟩
        rw [Es1, Es2] at HO
        rw [Es1] at b4
        rw [Es2] at b5
        clear Es1 Es2
        have c4 := b4.cell
        have l4 := b4.lt
        have c5 := b5.cell
        have l5 := b5.lt
        gi_wp2_with (refine ⟨trivial, ?_⟩; gi_at_call 67; refine (callsIn_wide.2 (HO.out _ (HP.out.later hB) (HE.out.later hB))).mono ?_; rintro e w1 ⟨rfl, hc1⟩; have c1 := (b1.later hc1); have c2 := (b2.later hc1); have d1 := c1.cell; have d2 := c2.cell; have f1 := c1.free; have f2 := c2.free; have l1 := c1.lt; have l2 := c2.lt)
        rw [Exit.noGoto_ret]
        have hDW : D < W.heap.size := (Array.getElem?_eq_some_iff.1 hK).1
        have hK1 := (hc1.block D hDW).trans hK
        have hK2 := (((KeepsOthers.setCell w1 ⟨bx, 0, none⟩ (.int .i64 z1)).trans (KeepsOthers.setCell _ ⟨bx, 1, none⟩ (.int .i64 z2))).trans (KeepsOthers.setCell _ ⟨bx + 1, 0, none⟩ (.int .i64 z3))).same D _ hK1 rfl
        refine ⟨by simp, .inl ⟨_, _, rfl, run_takeDeferred hK2, ?_⟩⟩
        have g1 : Box (((w1.setCell ⟨bx, 0, none⟩ (.int .i64 z1)).setCell ⟨bx, 1, none⟩ (.int .i64 z2)).setCell ⟨bx + 1, 0, none⟩ (.int .i64 z3)) bx #[.int .i64 z1, .int .i64 z2] 23 := Box.setOther ((c1.set 0 _).set 1 _) _ zi
        have g2 : Box (((w1.setCell ⟨bx, 0, none⟩ (.int .i64 z1)).setCell ⟨bx, 1, none⟩ (.int .i64 z2)).setCell ⟨bx + 1, 0, none⟩ (.int .i64 z3)) (bx + 1) #[.int .i64 z3] 33 := Box.set (Box.setOther (Box.setOther c2 _ zi) _ zi) 0 _
        have hW := (((hB.trans (hc1.mono hB.size)).setCell (p := ⟨bx, 0, none⟩) (by simp; omega) (.int .i64 z1)).setCell (p := ⟨bx, 1, none⟩) (by simp; omega) (.int .i64 z2)).setCell (p := ⟨bx + 1, 0, none⟩) (by simp; omega) (.int .i64 z3)
        have g1 := box_kept g1 (grownBy_putObj' _ D (.deferred none)) (fun r e => by cases e; exact ⟨_, hK2, rfl⟩)
        have g2 := box_kept g2 (grownBy_putObj' _ D (.deferred none)) (fun r e => by cases e; exact ⟨_, hK2, rfl⟩)
        have hW2 := hW.trans (belowK_b (w := w) (Nat.le_refl _) _ D _ (.deferred none) (by have := hB0.size; omega) hK2 rfl rfl)
        have hc1' := g1.cell
        have hc2' := g2.cell
        have hl1 := hc1' 0
        have hl2 := hc1' 1
        have hl3 := hc2' 0
        refine ⟨.tuple #[.agg #[.int .i64 z1, .int .i64 z2], .int .i64 z3], ?_, rfl, hW2⟩
        simp [results, Tryz.f25, go_sem, hl1, hl2, hl3]
      case stop =>
        rintro D c' pre W hD hpre ⟨h, -⟩ hK
        cases h
theorem Norm_len (a : Option Addr) (n cap : Nat) (k : Int) (h : n = 0 ∧ k = 2 ∨ 8 < n ∧ k = 3) (w : World) :
    Calls Tryz.prog 25 #[.slice a n cap] w (fun e w' => e = .returned (bndV ((0, 0), k)) ∧ Below w.heap.size w w') := by
  unfold bndV
  simp only
  rcases h with ⟨h, rfl⟩ | ⟨h, rfl⟩
  · subst h
    go_enter Tryz.func25, Tryz.ntmps25
    go_wp2_with fail
    go_step3
    go_wp2_with fail
    rw [Exit.noGoto_ret]
    exact bodyPost_ret (v := .tuple #[.agg #[.int .i64 0, .int .i64 0], .int .i64 2]) (by simp [results, Tryz.results25, go_sem]) rfl ⟨rfl, belA⟩
  · have q1 : ((n : Int) == 0) = false := beq_eq_false_iff_ne.2 zo
    have q2 : decide ((8 : Int) < (n : Int)) = true := by simp; omega
    go_enter Tryz.func25, Tryz.ntmps25
    go_wp2_with fail
    go_step3
    go_wp2_with fail
    rw [Exit.noGoto_ret]
    exact bodyPost_ret (v := .tuple #[.agg #[.int .i64 0, .int .i64 0], .int .i64 3]) (by simp [results, Tryz.results25, go_sem]) rfl ⟨rfl, belA⟩
theorem Norm_bad (a : Option Addr) (cap : Nat) (T : TypeId) (bs : List (Int × Int)) (h1 : 1 ≤ bs.length) (h8 : bs.length ≤ 8) (hok : okB bs = false) (w : World) (hv : Bds w T (.slice a bs.length cap) bs) :
    Calls Tryz.prog 25 #[.slice a bs.length cap] w (fun e w' => e = .returned (bndV ((0, 0), 30)) ∧ Below w.heap.size w w') := by
  have q1 : ((bs.length : Int) == 0) = false := beq_eq_false_iff_ne.2 zo
  have q2 : decide ((8 : Int) < (bs.length : Int)) = false := by simp; omega
  have HOK := zh hok
  have HL := zh h8
  have hread : ∀ k (_ : k < bs.length), ∃ b off, a = some ⟨b, off, none⟩ ∧ b < w.heap.size ∧ w.cell? ⟨b, off + k * 2, none⟩ = some (.int .i64 bs[k].1) ∧ w.cell? ⟨b, off + k * 2 + 1, none⟩ = some (.int .i64 bs[k].2) := by
    obtain ⟨a', cap', e, -, -, h⟩ := hv.read
    cases e
    exact h
  have HRD := zh hread
  clear hread hv hok h8
  unfold bndV
  simp only
  go_enter Tryz.func25, Tryz.ntmps25
  go_wp2_with fail
  go_step3
  go_wp2_with fail
  go_step3
  obtain ⟨wx, EW, hz, R, E3, E⟩ := al3 w #[.int .i64 0, .int .i64 0] 23 #[.int .i64 0] 33 #[.int .i64 0] 33
  rw [EW]
  clear EW
  obtain ⟨bx, eb⟩ : ∃ y, w.heap.size = y := ⟨_, rfl⟩
  rw [eb] at R E3 E ⊢
  go_wp2_with fail
  go_loopw [20] (fun i wr => ∃ k : Nat, i = .int .i64 k ∧ k ≤ bs.length ∧ Below w.heap.size w wr ∧ Hid (Box wr bx #[.int .i64 0, .int .i64 0] 23) ∧ Hid (Box wr (bx + 1) #[.int .i64 0] 33) ∧ Hid (Box wr (bx + 1 + 1) #[.int .i64 0] 33) ∧ Hid (∀ j (h : j < bs.length), j < k → bok bs[j].1 bs[j].2 = true))
    (fun i _ => bs.length - (intOf i).toNat)
  case atStart => exact ⟨0, rfl, Nat.zero_le _, hz, R, E3, E, zh fun j _ h => absurd h zo⟩
  case round =>
    clear R E3 E hz
    obtain ⟨k, rfl, hk, hnx, R, E3, E, HK⟩ := hrel
    have hw1 : wrap64 ((k : Int) + 1) = ((k + 1 : Nat) : Int) := by
      have := HL.out
      unfold wrap64
      omega
    by_cases hlt : k < bs.length
    · obtain ⟨b, off, rfl, hbl, hx1, hx2⟩ := HRD.out k hlt
      have hc1 := (hnx.cell (p := ⟨b, off + k * 2, none⟩) hbl).trans hx1
      have hc2 := (hnx.cell (p := ⟨b, off + k * 2 + 1, none⟩) hbl).trans hx2
      clear hx1 hx2
      have HC := zh (fun W => Check_ok bs[k].1 bs[k].2 W)
      obtain ⟨bk, EK⟩ : ∃ y, bok bs[k].1 bs[k].2 = y := ⟨_, rfl⟩
      rw [EK] at HC
      have HEK := zh EK
      have HB := zh hbl
      clear hbl EK
      generalize e1 : bs[k].1 = y1 at *
      generalize e2 : bs[k].2 = y2 at *
      have HE1 := zh e1
      have HE2 := zh e2
      clear e1 e2
      go_wp2_with fail
      refine (HC.out _).mono ?_
      rintro e w1 ⟨rfl, hc3⟩
      have HN := zh (hnx.alloc hnx.size (.cells #[.int .i64 y1, .int .i64 y2] 23))
      replace R := (zh (R.out.alloc (.cells #[.int .i64 y1, .int .i64 y2] 23))).bl hc3
      replace E3 := (zh (E3.out.alloc (.cells #[.int .i64 y1, .int .i64 y2] 23))).bl hc3
      replace E := (zh (E.out.alloc (.cells #[.int .i64 y1, .int .i64 y2] 23))).bl hc3
      replace HN := zh (Bt HN.out hc3)
      clear hc3 hnx hc1 hc2
      have cE := E.out.cell
      have fE := E.out.free
      have lE := E.out.lt
      cases bk
      · go_wp2_with fail
        have hn := HN.out
        have r1 : Box (w1.setCell ⟨bx + 1 + 1, 0, none⟩ (.int .i64 30)) bx #[.int .i64 0, .int .i64 0] 23 := Box.setOther R.out _ (by simp; omega)
        have r2 : Box (w1.setCell ⟨bx + 1 + 1, 0, none⟩ (.int .i64 30)) (bx + 1) #[.int .i64 0] 33 := Box.setOther E3.out _ zi
        have r3 : Box (w1.setCell ⟨bx + 1 + 1, 0, none⟩ (.int .i64 30)) (bx + 1 + 1) #[.int .i64 30] 33 := Box.set E.out 0 _
        have hn2 : Below w.heap.size w (w1.setCell ⟨bx + 1 + 1, 0, none⟩ (.int .i64 30)) := hn.setCell (p := ⟨bx + 1 + 1, 0, none⟩) (by simp; omega) _
        generalize w1.setCell ⟨bx + 1 + 1, 0, none⟩ (.int .i64 30) = w2 at *
        clear R E3 E cE fE lE
        have c1 := r1.cell
        have c2 := r2.cell
        have c3 := r3.cell
        have f1 := r1.free
        have f2 := r2.free
        have l1 := r1.lt
        have l2 := r2.lt
        have l3 := r3.lt
        go_region
        go_wp2_with fail
        rw [Exit.noGoto_ret]
        have g1 : Box (((w2.setCell ⟨bx, 0, none⟩ (.int .i64 0)).setCell ⟨bx, 1, none⟩ (.int .i64 0)).setCell ⟨bx + 1, 0, none⟩ (.int .i64 30)).drew bx #[.int .i64 0, .int .i64 0] 23 := Box.drew (Box.setOther ((r1.set 0 _).set 1 _) _ zi)
        have g2 : Box (((w2.setCell ⟨bx, 0, none⟩ (.int .i64 0)).setCell ⟨bx, 1, none⟩ (.int .i64 0)).setCell ⟨bx + 1, 0, none⟩ (.int .i64 30)).drew (bx + 1) #[.int .i64 30] 33 := Box.drew (Box.set (Box.setOther (Box.setOther r2 _ zi) _ zi) 0 _)
        have hW := (((hn2.setCell (p := ⟨bx, 0, none⟩) (by simp; omega) (.int .i64 0)).setCell (p := ⟨bx, 1, none⟩) (by simp; omega) (.int .i64 0)).setCell (p := ⟨bx + 1, 0, none⟩) (by simp; omega) (.int .i64 30)).drew
        generalize (((w2.setCell ⟨bx, 0, none⟩ (.int .i64 0)).setCell ⟨bx, 1, none⟩ (.int .i64 0)).setCell ⟨bx + 1, 0, none⟩ (.int .i64 30)).drew = w3 at *
        have h1 := g1.cell 0
        have h2 := g1.cell 1
        have h3 := g2.cell 0
        exact bodyPost_ret (v := .tuple #[.agg #[.int .i64 0, .int .i64 0], .int .i64 30]) (by simp [results, Tryz.results25, go_sem, h1, h2, h3]) rfl ⟨rfl, hW⟩
      · go_wp2_with fail
        go_roundw
        case rel =>
          have hn := HN.out
          rw [eb] at hn
          have r := R.out
          have e3 := E3.out
          have e4 := E.out
          rw [eb]
          refine ⟨k + 1, by rw [hw1], by omega, belA, zh boxA, zh boxA, zh (e4.set 0 _), zh fun j hj hjk => ?_⟩
          rcases Nat.lt_or_ge j k with h | h
          · exact HK.out j hj h
          · obtain rfl : j = k := by omega
            rw [HE1.out, HE2.out]
            exact HEK.out
        case measure =>
          rw [hw1]
          simp only [intOf, Int.toNat_natCast]
          omega
    · obtain rfl : k = bs.length := by omega
      have hyes : okB bs = true := by
        unfold okB
        rw [List.all_eq_true]
        intro x hx
        obtain ⟨j, hj, rfl⟩ := List.getElem_of_mem hx
        exact HK.out j hj hj
      rw [HOK.out] at hyes
      cases hyes
theorem Norm_ok (v : Value) (T : TypeId) (bs : List (Int × Int)) (w : World) (hv : Bds w T v bs) (ht : Bld.Pow w) (he : Er w) :
    Calls Tryz.prog 25 #[v] w (fun e w' => e = .returned (bndV (nrmE bs)) ∧ Below w.heap.size w w') := by
  obtain ⟨a, cap, rfl, -⟩ := hv.read
  unfold nrmE
  by_cases h0 : bs.length = 0
  · rw [if_pos h0]
    exact Norm_len a _ cap 2 (Or.inl ⟨h0, rfl⟩) w
  · rw [if_neg h0]
    by_cases h8 : 8 < bs.length
    · rw [if_pos h8]
      exact Norm_len a _ cap 3 (Or.inr ⟨h8, rfl⟩) w
    · rw [if_neg h8]
      cases hk : okB bs
      · rw [if_pos rfl]
        exact Norm_bad a cap T bs zo zo hk w hv
      · rw [if_neg zi]
        exact Norm_main a cap T bs zo zo hk w hv ht he
end Go.Proofs.power
namespace Go.Proofs.power
open Go Go.RowKit Go.SW Go.Num Go.Mem Go.Proofs Go.Proofs.band
theorem bok_nat {a b : Nat} (h : a ≤ b) (k : b ≤ 10 ^ 18) : bok (a : Int) (b : Int) = true := by
  have h18 : (10 : Nat) ^ 18 = 1000000000000000000 := by decide
  rw [h18] at k
  unfold bok
  simp only [Bool.and_eq_true, decide_eq_true_eq]
  omega
theorem eok_nat {p q : Nat} (p1 : 1 ≤ p) (p36 : p ≤ 36) (q1 : 1 ≤ q) (q12 : q ≤ 12) : eok (p : Int) (q : Int) = true := by
  unfold eok
  simp only [Bool.and_eq_true, decide_eq_true_eq]
  omega
theorem pwE_at {lo hi p q : Nat} (h1 : lo ≤ hi) (h2 : hi ≤ 10 ^ 18) (p1 : 1 ≤ p) (p36 : p ≤ 36) (q1 : 1 ≤ q) (q12 : q ≤ 12) : pwE (lo : Int) (hi : Int) (p : Int) (q : Int) = outE (endV lo p q false) (endV hi p q true) := by
  unfold pwE
  have e1 : ¬ bok (lo : Int) (hi : Int) = false := by rw [bok_nat h1 h2]; simp
  have e2 : ¬ (eok (p : Int) (q : Int) = false ∨ (lo : Int) < 0) := by rw [eok_nat p1 p36 q1 q12]; simp
  rw [if_neg e1, if_neg e2]
  rfl
theorem pwE_is {lo hi a b p q : Nat} (h : cert lo hi a b p q = true) : pwE (lo : Int) (hi : Int) (p : Int) (q : Int) = (((a : Int), (b : Int)), 0) := by
  obtain ⟨h1, h2, h3, h4, h5, h6, h7, h8, h9, h10⟩ := cert_out h
  rw [pwE_at h1 h2 h3 h4 h5 h6, h9, h10]
  unfold outE
  rw [if_neg (fun h => h rfl), if_neg (fun h => h rfl), if_pos (bok_nat h7 h8)]
theorem pwE_big {lo hi p q : Nat} (h : certB lo hi p q = true) : pwE (lo : Int) (hi : Int) (p : Int) (q : Int) = ((0, 0), 6) := by
  obtain ⟨h1, h2, h3, h4, h5, h6, h7⟩ := certB_out h
  rw [pwE_at h1 h2 h3 h4 h5 h6, h7]
  unfold outE endV
  split <;> simp
end Go.Proofs.power
namespace Go.Fra
theorem Bds.nil {w : Go.World} {T : Go.TypeId} : Bds w T (.slice none 0 0) [] := ⟨none, 0, rfl, Nat.le_refl _, by omega, fun _ h => by cases h⟩
end Go.Fra
namespace Go.Proofs.power
open Go Go.RowKit Go.SW Go.Num Go.Mem Go.Proofs Go.Fra Go.Proofs.band
def certN (bs : List (Int × Int)) (a b : Nat) : Bool :=
  decide (1 ≤ bs.length) && (decide (bs.length ≤ 8) && (okB bs && (decide (a ≤ b) && (decide (b ≤ 10 ^ 18) && (decide (a ^ 2 ≤ sqs (bs.map blo)) && (decide (sqs (bs.map blo) < (a + 1) ^ 2) && (decide (sqs (bs.map bhi) ≤ b ^ 2) && decide (b = 0 ∨ (b - 1) ^ 2 < sqs (bs.map bhi)))))))))
def certM (bs : List (Int × Int)) : Bool := decide (1 ≤ bs.length) && (decide (bs.length ≤ 8) && (okB bs && decide ((10 ^ 18 + 1) ^ 2 ≤ sqs (bs.map bhi))))
theorem nlo_eq {l : List Nat} {r : Nat} (h1 : r ^ 2 ≤ sqs l) (h2 : sqs l < (r + 1) ^ 2) : nlo l = r := iroot_eq zo h1 h2
theorem nhi_eq {l : List Nat} {r : Nat} (h1 : sqs l ≤ r ^ 2) (h2 : r = 0 ∨ (r - 1) ^ 2 < sqs l) : nhi l = r := by
  refine Nat.le_antisymm (nhi_le h1) ?_
  rcases h2 with h | h
  · omega
  · rcases Nat.lt_or_ge (nhi l) r with h3 | h3
    · have a := nhi_spec l
      have b : nhi l ^ 2 ≤ (r - 1) ^ 2 := Nat.pow_le_pow_left zo 2
      omega
    · exact h3
theorem nrmE_at {bs : List (Int × Int)} (h1 : 1 ≤ bs.length) (h2 : bs.length ≤ 8) (h3 : okB bs = true) : nrmE bs = outE (nrmV (bs.map blo) false) (nrmV (bs.map bhi) true) := by
  unfold nrmE
  rw [if_neg zo, if_neg zo, if_neg (by rw [h3]; simp)]
theorem nrmE_is {bs : List (Int × Int)} {a b : Nat} (h : certN bs a b = true) : nrmE bs = (((a : Int), (b : Int)), 0) := by
  unfold certN at h
  simp only [Bool.and_eq_true, decide_eq_true_eq] at h
  obtain ⟨h1, h2, h3, h4, h5, h6, h7, h8, h9⟩ := h
  have e1 := nlo_eq h6 h7
  have e2 := nhi_eq h8 h9
  have h10 := nlo_le_nhi (bs.map bhi)
  have g1 : nrmV (bs.map blo) false = ((a : Int), 0) := by
    have h : nlo (bs.map blo) ≤ 10 ^ 18 := by rw [e1]; exact Nat.le_trans h4 h5
    unfold nrmV
    rw [if_pos h, e1]
    rfl
  have g2 : nrmV (bs.map bhi) true = ((b : Int), 0) := by
    have h : nlo (bs.map bhi) ≤ 10 ^ 18 := Nat.le_trans h10 (by rw [e2]; exact h5)
    unfold nrmV
    rw [if_pos h, e2]
    rfl
  rw [nrmE_at h1 h2 h3, g1, g2]
  unfold outE
  rw [if_neg (fun h => h rfl), if_neg (fun h => h rfl), if_pos (bok_nat h4 h5)]
theorem nrmE_big {bs : List (Int × Int)} (h : certM bs = true) : nrmE bs = ((0, 0), 6) := by
  unfold certM at h
  simp only [Bool.and_eq_true, decide_eq_true_eq] at h
  obtain ⟨h1, h2, h3, h4⟩ := h
  have := le_nlo h4
  rw [nrmE_at h1 h2 h3]
  have e : nrmV (bs.map bhi) true = (0, 6) := by
    unfold nrmV
    rw [if_neg zo]
  rw [e]
  unfold outE nrmV
  split <;> simp
end Go.Proofs.power
namespace Go.Proofs.power
open Go Go.RowKit Go.SW Go.Num Go.Mem Go.Proofs
theorem lowest_ok (p q : Nat) (p1 : 1 ≤ p) (p36 : p ≤ 36) (q12 : q ≤ 12) (w : World) :
    Calls Tryz.prog 62 #[.agg #[.int .i64 (p : Int), .int .i64 (q : Int)]] w (fun e w' => e = .returned (.agg #[.int .i64 ((p / p.gcd q : Nat) : Int), .int .i64 ((q / p.gcd q : Nat) : Int)]) ∧ Below w.heap.size w w') := by
  go_enter Tryz.func62, Tryz.ntmps62
  go_wp2_with fail
  obtain ⟨wx, EW, hz, X, R⟩ := al2 w #[.int .i64 (p : Int), .int .i64 (q : Int)] 84 #[.int .i64 0, .int .i64 0] 84
  rw [EW]
  clear EW
  have HB := zh hz
  clear hz
  obtain ⟨bx, eb⟩ : ∃ y, w.heap.size = y := ⟨_, rfl⟩
  rw [eb] at X R ⊢
  obtain ⟨cX, lX⟩ := X.cl
  have fX := X.out.free
  go_region
  have hz1 : Below wx.heap.size wx wx.drew := belA
  obtain ⟨w1, EW⟩ : ∃ y, wx.drew = y := ⟨_, rfl⟩
  rw [EW] at hz1 ⊢
  clear EW
  replace X := X.bl hz1
  replace R := R.bl hz1
  replace HB := zh (Bt HB.out hz1)
  clear hz1 cX lX fX
  go_wp2_with fail
  go_loopw [3, 4] (fun av bv wr => ∃ x y : Nat, av = .int .i64 (x : Int) ∧ bv = .int .i64 (y : Int) ∧ 0 < x ∧ x.gcd y = p.gcd q ∧ x ≤ 36 ∧ y ≤ 36 ∧ Below w1.heap.size w1 wr) (fun _ bv _ => (intOf bv).toNat)
  case atStart => exact ⟨p, q, rfl, rfl, by omega, rfl, by omega, by omega, Below.refl _ _⟩
  case round =>
    obtain ⟨x, y, rfl, rfl, hx, hg, hx36, hy36, hb⟩ := hrel
    rcases Nat.eq_zero_or_pos y with hy | hy
    · subst hy
      rw [Nat.gcd_zero_right] at hg
      subst hg
      replace X := X.bl hb
      replace R := R.bl hb
      replace HB := zh (Bt HB.out hb)
      clear hb
      obtain ⟨cX, lX⟩ := X.cl
      have fX := X.out.free
      obtain ⟨cR, lR⟩ := R.cl
      have fR := R.out.free
      have e1 : Int.tdiv (p : Int) ((p.gcd q : Nat) : Int) = ((p / p.gcd q : Nat) : Int) := rfl
      have e2 : Int.tdiv (q : Int) ((p.gcd q : Nat) : Int) = ((q / p.gcd q : Nat) : Int) := rfl
      have g0 : decide (((p.gcd q : Nat) : Int) = 0) = false := by simp; omega
      have hp := Nat.div_le_self p (p.gcd q)
      have hq := Nat.div_le_self q (p.gcd q)
      have wr1 : wrap64 ((p : Int) / ((p.gcd q : Nat) : Int)) = ((p / p.gcd q : Nat) : Int) := by
        show wrap64 ((p / p.gcd q : Nat) : Int) = _
        generalize p / p.gcd q = y at *
        unfold wrap64
        omega
      have wr2 : wrap64 ((q : Int) / ((p.gcd q : Nat) : Int)) = ((q / p.gcd q : Nat) : Int) := by
        show wrap64 ((q / p.gcd q : Nat) : Int) = _
        generalize q / p.gcd q = y at *
        unfold wrap64
        omega
      go_wp2_with fail
      go_region
      rw [wr1, wr2]
      have hx := R.out
      have hw := HB.out
      go_wp2_with fail
      refine ret_c rfl rfl boxA Tryz.underlying84 rfl zk ?_
      exact ⟨rfl, belA⟩
    · have g : decide ((y : Int) = 0) = false := by simp; omega
      have e1 : Int.tmod (x : Int) (y : Int) = ((x % y : Nat) : Int) := rfl
      have hlt := Nat.mod_lt x hy
      go_wp2_with fail
      go_region
      have hb2 : Below wr.heap.size wr wr.drew := belA
      go_wp2_with fail
      go_roundw
      case rel => exact ⟨y, x % y, rfl, rfl, hy, by rw [Nat.gcd_comm, ← Nat.gcd_rec, Nat.gcd_comm]; exact hg, by omega, by omega, Bt hb hb2⟩
      case measure =>
        simp [intOf]
        omega
end Go.Proofs.power
namespace Go.Proofs.frac
open Go Go.RowKit Go.SW Go.Num Go.Mem Go.Proofs Go.Dec Go.Fra
theorem pow_num (p : Rat) (h : 0 ≤ p) (n : Nat) : ((p ^ n).num = ((p.num.natAbs ^ n : Nat) : Int)) ∧ (p ^ n).den = p.den ^ n := by
  have h0 : 0 ≤ p.num := by
    rw [Rat.num_nonneg]
    exact h
  refine ⟨?_, Rat.den_pow p n⟩
  rw [Rat.num_pow, Int.natCast_pow, Int.natAbs_of_nonneg h0]
theorem Pow_ok (p : Rat) (n : Nat) (hp : okq p = true) (h0 : 0 ≤ p) (n40 : n ≤ 40) (w : World) (ht : Bld.Pow w) :
    Calls Tryz.prog 35 #[(Fr.of p).v, .int .i64 (n : Int)] w (fun e w' => e = .returned (Fr.res (wr (p ^ n))) ∧ Below w.heap.size w w') := by
  obtain ⟨e1, e2⟩ := pow_num p h0 n
  have hn0 : 0 ≤ p.num := by
    rw [Rat.num_nonneg]
    exact h0
  have hq := rd_of hp
  have HC := zh (fun W => check_ok (Fr.of p) W)
  unfold chk at HC
  rw [hq] at HC
  obtain ⟨o1, o2⟩ : okn p.num.natAbs = true ∧ okn p.den = true := by simpa [okq] using hp
  have H1 := zh (fun W h => whole.Pow_ok p.num.natAbs n o1 n40 W h)
  have H2 := zh (fun W h => whole.Pow_ok p.den n o2 n40 W h)
  have HP := zh ht
  have ev : (Fr.of p).v = .agg #[itxt ((p.num.natAbs : Nat) : Int), itxt ((p.den : Nat) : Int)] := by
    rw [Int.natAbs_of_nonneg hn0]
    rfl
  have er : Fr.res (wr (p ^ n)) = if okn (p.num.natAbs ^ n) = true then if okn (p.den ^ n) = true then .tuple #[.agg #[itxt ((p.num.natAbs ^ n : Nat) : Int), itxt ((p.den ^ n : Nat) : Int)], .int .i64 0] else .tuple #[.agg #[.string ⟨#[]⟩, .string ⟨#[]⟩], .int .i64 6] else .tuple #[.agg #[.string ⟨#[]⟩, .string ⟨#[]⟩], .int .i64 6] := by
    have eo : okq (p ^ n) = (okn (p.num.natAbs ^ n) && okn (p.den ^ n)) := by
      unfold okq
      rw [e1, e2, Int.natAbs_natCast]
    by_cases k1 : okn (p.num.natAbs ^ n) = true
    · rw [if_pos k1]
      by_cases k2 : okn (p.den ^ n) = true
      · rw [if_pos k2, wr_ok (by rw [eo, k1, k2]; rfl), e1, e2]
      · rw [if_neg k2, wr_big (by rw [eo, k1]; simpa using k2)]
    · rw [if_neg k1, wr_big (by rw [eo]; simp [k1])]
  rw [ev] at HC ⊢
  rw [er]
  unfold whole.wtV at H1 H2
  simp only [Int.natAbs_natCast] at H1 H2
  clear e1 e2 hn0 hq o1 o2 ht ev er hp h0
  simp only [Option.isSome_some, if_true] at HC
  obtain ⟨oa, Ea⟩ : ∃ y, okn (p.num.natAbs ^ n) = y := ⟨_, rfl⟩
  obtain ⟨ob, Eb⟩ : ∃ y, okn (p.den ^ n) = y := ⟨_, rfl⟩
  simp only [Ea] at H1 ⊢
  simp only [Eb] at H2 ⊢
  clear Ea Eb
  generalize p.num.natAbs ^ n = an at *
  generalize p.den ^ n = bn at *
  generalize p.num.natAbs = a at *
  generalize p.den = b at *
  unfold itxt at *
  generalize (⟨(Lib.itoa (a : Int)).toArray⟩ : ByteArray) = ta at *
  generalize (⟨(Lib.itoa (b : Int)).toArray⟩ : ByteArray) = tb at *
  generalize (⟨(Lib.itoa (an : Int)).toArray⟩ : ByteArray) = tan at *
  generalize (⟨(Lib.itoa (bn : Int)).toArray⟩ : ByteArray) = tbn at *
  go_enter Tryz.func35, Tryz.ntmps35
  go_wp2_with fail
  obtain ⟨wx, EW, hz, X, R⟩ := al2 w #[.string ta, .string tb] 40 #[.string ⟨#[]⟩, .string ⟨#[]⟩] 40
  rw [EW]
  clear EW
  have HB := zh hz
  clear hz
  obtain ⟨bx, eb⟩ : ∃ y, w.heap.size = y := ⟨_, rfl⟩
  rw [eb] at X R ⊢
  refine (HC.out _).mono ?_
  rintro e w1 ⟨rfl, hb1⟩
  replace X := X.bl hb1
  replace R := R.bl hb1
  replace HB := zh (Bt HB.out hb1)
  clear hb1 HC
  obtain ⟨cX, lX⟩ := X.cl
  go_wp2_with fail
  refine (H1.out _ (HP.out.later HB.out)).mono ?_
  rintro e w2 ⟨rfl, hb2⟩
  replace X := X.bl hb2
  replace R := R.bl hb2
  replace HB := zh (Bt HB.out hb2)
  clear hb2 H1 cX lX
  obtain ⟨cX, lX⟩ := X.cl
  by_cases k1 : oa = true
  · simp only [if_pos k1]
    go_wp2_with fail
    refine (H2.out _ (HP.out.later HB.out)).mono ?_
    rintro e w3 ⟨rfl, hb3⟩
    replace R := R.bl hb3
    replace HB := zh (Bt HB.out hb3)
    clear hb3 H2 cX lX X
    have hx := R.out
    have cx := hx.cell
    have fx := hx.free
    have lx := hx.lt
    have hw := HB.out
    rw [eb] at hw
    by_cases k2 : ob = true
    · simp only [if_pos k2]
      go_wp2_with fail
      refine ret_ct rfl rfl boxA Tryz.underlying40 rfl zk ?_
      exact ⟨rfl, belA⟩
    · simp only [if_neg k2]
      go_wp2_with fail
      refine ret_ct rfl rfl boxA Tryz.underlying40 rfl zk ?_
      exact ⟨rfl, belA⟩
  · simp only [if_neg k1]
    have hx := R.out
    have cx := hx.cell
    have fx := hx.free
    have lx := hx.lt
    have hw := HB.out
    rw [eb] at hw
    go_wp2_with fail
    refine ret_ct rfl rfl boxA Tryz.underlying40 rfl zk ?_
    exact ⟨rfl, belA⟩
end Go.Proofs.frac
namespace Go.Proofs.power
open Go Go.RowKit Go.SW Go.Num Go.Mem Go.Proofs Go.Dec Go.Fra
def exQ (r : Rat) (p q : Nat) : Fr × Int :=
  if iroot (q / p.gcd q) r.num.natAbs ^ (q / p.gcd q) = r.num.natAbs ∧ iroot (q / p.gcd q) r.den ^ (q / p.gcd q) = r.den then wr (mkRat (iroot (q / p.gcd q) r.num.natAbs : Nat) (iroot (q / p.gcd q) r.den) ^ (p / p.gcd q)) else (Fr.no, 4)
def exE (x : Fr) (p q : Int) : Fr × Int := match rd x with
  | none => (Fr.no, 20)
  | some r => if eok p q = false ∨ r < 0 then (Fr.no, 2) else exQ r p.toNat q.toNat
theorem coprime_root {a b x y k : Nat} (hk : 0 < k) (h : a.Coprime b) (hx : x ^ k = a) (hy : y ^ k = b) : x.Coprime y := by
  subst hx hy
  have hd : ∀ z : Nat, z ∣ z ^ k := fun z => ⟨z ^ (k - 1), by rw [Nat.mul_comm, ← Nat.pow_succ]; congr 1; omega⟩
  exact Nat.Coprime.coprime_dvd_left (hd x) (Nat.Coprime.coprime_dvd_right (hd y) h)
theorem mk_low {x y : Nat} (hy : y ≠ 0) (h : x.Coprime y) : (mkRat (x : Int) y).num = x ∧ (mkRat (x : Int) y).den = y := by
  obtain ⟨h1, h2⟩ := mk_parts (x : Int) (d := y) zo
  have hg : x.gcd y = 1 := h
  rw [h1, h2, Int.natAbs_natCast, hg, Nat.div_one, Nat.div_one]
  refine ⟨?_, rfl⟩
  unfold Mem.sgd
  rw [if_neg zi]
theorem Exact_main (r : Rat) (p q : Nat) (hr : okq r = true) (h0 : 0 ≤ r) (p1 : 1 ≤ p) (p36 : p ≤ 36) (q1 : 1 ≤ q) (q12 : q ≤ 12) (w : World) (ht : Bld.Pow w) :
    Calls Tryz.prog 23 #[(Fr.of r).v, .int .i64 (p : Int), .int .i64 (q : Int)] w (fun e w' => e = .returned (Fr.res (exQ r p q)) ∧ Below w.heap.size w w') := by
  have hg : 0 < p.gcd q := Nat.gcd_pos_of_pos_left _ zo
  have hp' : p / p.gcd q ≤ 40 := Nat.le_trans (Nat.div_le_self _ _) zo
  have hq' : q / p.gcd q ≤ 12 := Nat.le_trans (Nat.div_le_self _ _) q12
  have hq1 : 1 ≤ q / p.gcd q := Nat.div_pos (Nat.gcd_le_right _ zo) hg
  have hn0 : 0 ≤ r.num := by
    rw [Rat.num_nonneg]
    exact h0
  obtain ⟨o1, o2⟩ : okn r.num.natAbs = true ∧ okn r.den = true := by simpa [okq] using hr
  have HS := zh (fun W => frac.Sign_ok (Fr.of r) W)
  unfold sgnF at HS
  rw [rd_of hr] at HS
  have gs : decide (cmpq r 0 < 0) = false := by
    unfold cmpq
    rw [if_neg (by grind)]
    split <;> rfl
  have HV := zh (fun W => valid_ok (p : Int) (q : Int) W)
  rw [eok_nat p1 p36 q1 q12] at HV
  have HL := zh (fun W => lowest_ok p q p1 p36 q12 W)
  have H1 := zh (fun W h => root_ok r.num.natAbs (q / p.gcd q) o1 hq1 hq' W h)
  have H2 := zh (fun W h => root_ok r.den (q / p.gcd q) o2 hq1 hq' W h)
  have HP := zh ht
  obtain ⟨z, EZ⟩ : ∃ z, exQ r p q = z := ⟨_, rfl⟩
  have HW : Hid (decide (iroot (q / p.gcd q) r.num.natAbs ^ (q / p.gcd q) = r.num.natAbs) = true → decide (iroot (q / p.gcd q) r.den ^ (q / p.gcd q) = r.den) = true → ∀ W, Bld.Pow W →
      Calls Tryz.prog 35 #[.agg #[itxt (iroot (q / p.gcd q) r.num.natAbs : Nat), itxt (iroot (q / p.gcd q) r.den : Nat)], .int .i64 ((p / p.gcd q : Nat) : Int)] W (fun e w' => e = .returned (Fr.res z) ∧ Below W.heap.size W w')) := zh fun d1 d2 W hW => by
    have d1 := of_decide_eq_true d1
    have d2 := of_decide_eq_true d2
    have hcop := coprime_root hq1 r.reduced d1 d2
    have hy : iroot (q / p.gcd q) r.den ≠ 0 := by
      intro e
      rw [e, Nat.zero_pow hq1] at d2
      exact r.den_nz d2.symm
    obtain ⟨m1, m2⟩ := mk_low hy hcop
    have hk : okq (mkRat (iroot (q / p.gcd q) r.num.natAbs : Nat) (iroot (q / p.gcd q) r.den)) = true := by
      unfold okq
      rw [m1, m2, Int.natAbs_natCast, whole.okn_le o1 (whole.iroot_self hq1), whole.okn_le o2 (whole.iroot_self hq1)]
      rfl
    have := frac.Pow_ok _ (p / p.gcd q) hk (by rw [← Rat.num_nonneg, m1]; omega) hp' W hW
    unfold Fr.of Fr.v at this
    rw [m1, m2] at this
    unfold exQ at EZ
    rw [if_pos ⟨d1, d2⟩] at EZ
    rw [EZ] at this
    exact this
  have HN : Hid (decide (iroot (q / p.gcd q) r.num.natAbs ^ (q / p.gcd q) = r.num.natAbs) = false ∨ decide (iroot (q / p.gcd q) r.den ^ (q / p.gcd q) = r.den) = false → z = (Fr.no, 4)) := zh fun h => by
    unfold exQ at EZ
    rw [if_neg] at EZ
    · exact EZ.symm
    · rintro ⟨d1, d2⟩
      rw [decide_eq_true d1, decide_eq_true d2] at h
      simp at h
  rw [EZ]
  have ev : (Fr.of r).v = .agg #[itxt ((r.num.natAbs : Nat) : Int), itxt ((r.den : Nat) : Int)] := by
    rw [Int.natAbs_of_nonneg hn0]
    rfl
  rw [ev] at HS ⊢
  clear EZ ev hn0 o1 o2 hq1 hq' hp' hg h0 hr ht
  unfold frac.pair at HS
  simp only at HS
  generalize cmpq r 0 = sg at *
  generalize decide (iroot (q / p.gcd q) r.num.natAbs ^ (q / p.gcd q) = r.num.natAbs) = d1 at *
  generalize decide (iroot (q / p.gcd q) r.den ^ (q / p.gcd q) = r.den) = d2 at *
  generalize iroot (q / p.gcd q) r.num.natAbs = ra at *
  generalize iroot (q / p.gcd q) r.den = rb at *
  generalize p / p.gcd q = p' at *
  generalize q / p.gcd q = q' at *
  generalize r.num.natAbs = a at *
  generalize r.den = b at *
  unfold itxt at *
  generalize (⟨(Lib.itoa (a : Int)).toArray⟩ : ByteArray) = ta at *
  generalize (⟨(Lib.itoa (b : Int)).toArray⟩ : ByteArray) = tb at *
  generalize (⟨(Lib.itoa (ra : Int)).toArray⟩ : ByteArray) = tra at *
  generalize (⟨(Lib.itoa (rb : Int)).toArray⟩ : ByteArray) = trb at *
  obtain ⟨⟨z1, z2⟩, z3⟩ := z
  simp only [res_mk] at HW ⊢
  go_enter Tryz.func23, Tryz.ntmps23
  go_wp2_with fail
  obtain ⟨wx, EW, hz, X, R⟩ := al2 w #[.string ta, .string tb] 40 #[.string ⟨#[]⟩, .string ⟨#[]⟩] 40
  rw [EW]
  clear EW
  have HB := zh hz
  clear hz
  obtain ⟨bx, eb⟩ : ∃ y, w.heap.size = y := ⟨_, rfl⟩
  rw [eb] at X R ⊢
  refine (HS.out _).mono ?_
  rintro e w1 ⟨rfl, hb1⟩
  replace X := X.bl hb1
  replace R := R.bl hb1
  replace HB := zh (Bt HB.out hb1)
  clear hb1 HS
  go_wp2_with fail
  obtain ⟨wy, EW, hz, Y⟩ := al1 w1 #[.int .i64 (p : Int), .int .i64 (q : Int)] 86
  rw [EW]
  clear EW
  have lr1 := R.out.lt
  replace HB := zh (Bt HB.out hz)
  replace X := X.bl hz
  replace R := R.bl hz
  clear hz
  obtain ⟨by', eb2⟩ : ∃ y, w1.heap.size = y := ⟨_, rfl⟩
  rw [eb2] at Y lr1 ⊢
  refine (HV.out _).mono ?_
  rintro e w2 ⟨rfl, hb2⟩
  replace HB := zh (Bt HB.out hb2)
  replace X := X.bl hb2
  replace R := R.bl hb2
  replace Y := Y.bl hb2
  clear hb2 HV
  obtain ⟨cY, lY⟩ := Y.cl
  go_wp2_with fail
  refine (HL.out _).mono ?_
  rintro e w3 ⟨rfl, hb3⟩
  replace HB := zh (Bt HB.out hb3)
  replace X := X.bl hb3
  replace R := R.bl hb3
  replace Y := Y.bl hb3
  clear hb3 HL cY lY
  obtain ⟨cY, lY⟩ := Y.cl
  obtain ⟨cX, lX⟩ := X.cl
  have fY := Y.out.free
  have hne : bx ≠ by' := by omega
  have hne2 : by' ≠ bx := by omega
  go_wp2_with fail
  have hB := HB.out
  rw [eb] at hB
  have hX := X.out
  have hR := R.out
  have hY := Y.out
  have hs : bx ≤ by' := by omega
  have B5 : Below bx w ((w3.setCell ⟨by', 0, none⟩ (.int .i64 (p' : Int))).setCell ⟨by', 1, none⟩ (.int .i64 (q' : Int))) := belA
  have X5 : Box ((w3.setCell ⟨by', 0, none⟩ (.int .i64 (p' : Int))).setCell ⟨by', 1, none⟩ (.int .i64 (q' : Int))) bx #[.string ta, .string tb] 40 := boxA
  have R5 : Box ((w3.setCell ⟨by', 0, none⟩ (.int .i64 (p' : Int))).setCell ⟨by', 1, none⟩ (.int .i64 (q' : Int))) (bx + 1) #[.string ⟨#[]⟩, .string ⟨#[]⟩] 40 := boxA
  have Y5 : Box ((w3.setCell ⟨by', 0, none⟩ (.int .i64 (p' : Int))).setCell ⟨by', 1, none⟩ (.int .i64 (q' : Int))) by' #[.int .i64 (p' : Int), .int .i64 (q' : Int)] 86 := (hY.set 0 _).set 1 _
  generalize (w3.setCell ⟨by', 0, none⟩ (.int .i64 (p' : Int))).setCell ⟨by', 1, none⟩ (.int .i64 (q' : Int)) = w4 at *
  clear hX hR hY hB cY lY fY X R Y HB cX lX
  rw [← eb] at B5
  have HB := zh B5
  have X := zh X5
  have R := zh R5
  have Y := zh Y5
  clear B5 X5 R5 Y5
  refine (H1.out _ (HP.out.later HB.out)).mono ?_
  rintro e w5 ⟨rfl, hb5⟩
  replace HB := zh (Bt HB.out hb5)
  replace X := X.bl hb5
  replace R := R.bl hb5
  replace Y := Y.bl hb5
  clear hb5 H1
  obtain ⟨cX, lX⟩ := X.cl
  obtain ⟨cY, lY⟩ := Y.cl
  go_wp2_with fail
  refine (H2.out _ (HP.out.later HB.out)).mono ?_
  rintro e w6 ⟨rfl, hb6⟩
  replace HB := zh (Bt HB.out hb6)
  replace R := R.bl hb6
  replace Y := Y.bl hb6
  clear hb6 H2 cX lX cY lY X
  obtain ⟨cY, lY⟩ := Y.cl
  cases d1
  · cases HN.out (Or.inl rfl)
    have hx := R.out
    have cx := hx.cell
    have fx := hx.free
    have lx := hx.lt
    have hw0 := HB.out
    have hw := HB.out
    rw [eb] at hw
    go_wp2_with fail
    refine ret_ct rfl rfl boxA Tryz.underlying40 rfl zk ?_
    exact ⟨rfl, belA⟩
  · cases d2
    · cases HN.out (Or.inr rfl)
      have hx := R.out
      have cx := hx.cell
      have fx := hx.free
      have lx := hx.lt
      have hw0 := HB.out
      have hw := HB.out
      rw [eb] at hw
      go_wp2_with fail
      refine ret_ct rfl rfl boxA Tryz.underlying40 rfl zk ?_
      exact ⟨rfl, belA⟩
    · go_wp2_with fail
      refine (HW.out (by first | trivial | rfl) (by first | trivial | rfl) _ (HP.out.later HB.out)).mono ?_
      rintro e w7 ⟨rfl, hb7⟩
      replace HB := zh (Bt HB.out hb7)
      replace R := R.bl hb7
      have hx := R.out
      have cx := hx.cell
      have fx := hx.free
      have lx := hx.lt
      have hw0 := HB.out
      have hw := HB.out
      rw [eb] at hw
      go_wp2_with fail
      refine ret_ct rfl rfl boxA Tryz.underlying40 rfl zk ?_
      exact ⟨rfl, belA⟩
theorem Exact_bad (x : Fr) (p q : Int) (sg er k : Int) (hs : sgnF x = (sg, er)) (h : er ≠ 0 ∧ k = er ∨ er = 0 ∧ k = 2 ∧ (eok p q = false ∨ sg < 0)) (w : World) (ht : Bld.Pow w) :
    Calls Tryz.prog 23 #[x.v, .int .i64 p, .int .i64 q] w (fun e w' => e = .returned (Fr.res (Fr.no, k)) ∧ Below w.heap.size w w') := by
  have HS := zh (fun W => frac.Sign_ok x W)
  rw [hs] at HS
  have HV := zh (fun W => valid_ok p q W)
  obtain ⟨ta, tb⟩ := x
  clear hs
  unfold frac.pair Fr.v at *
  simp only at *
  unfold Fr.no
  simp only [res_mk]
  go_enter Tryz.func23, Tryz.ntmps23
  go_wp2_with fail
  obtain ⟨wx, EW, hz, X, R⟩ := al2 w #[.string ta, .string tb] 40 #[.string ⟨#[]⟩, .string ⟨#[]⟩] 40
  rw [EW]
  clear EW
  have HB := zh hz
  clear hz
  obtain ⟨bx, eb⟩ : ∃ y, w.heap.size = y := ⟨_, rfl⟩
  rw [eb] at X R ⊢
  refine (HS.out _).mono ?_
  rintro e w1 ⟨rfl, hb1⟩
  replace R := R.bl hb1
  replace HB := zh (Bt HB.out hb1)
  clear hb1 HS X
  rcases h with ⟨h1, rfl⟩ | ⟨rfl, rfl, h2⟩
  · have g : (k == 0) = false := beq_eq_false_iff_ne.2 h1
    have hx := R.out
    have cx := hx.cell
    have fx := hx.free
    have lx := hx.lt
    have hw0 := HB.out
    have hw := HB.out
    rw [eb] at hw
    go_wp2_with fail
    refine ret_ct rfl rfl boxA Tryz.underlying40 rfl zk ?_
    exact ⟨rfl, belA⟩
  · go_wp2_with fail
    obtain ⟨wy, EW, hz, Y⟩ := al1 w1 #[.int .i64 p, .int .i64 q] 86
    rw [EW]
    clear EW Y
    replace HB := zh (Bt HB.out hz)
    replace R := R.bl hz
    clear hz
    refine (HV.out _).mono ?_
    rintro e w2 ⟨rfl, hb2⟩
    replace HB := zh (Bt HB.out hb2)
    replace R := R.bl hb2
    clear hb2 HV
    have hx := R.out
    have cx := hx.cell
    have fx := hx.free
    have lx := hx.lt
    have hw0 := HB.out
    have hw := HB.out
    rw [eb] at hw
    cases hv : eok p q
    · go_wp2_with fail
      refine ret_ct rfl rfl boxA Tryz.underlying40 rfl zk ?_
      exact ⟨rfl, belA⟩
    · have h3 : sg < 0 := by
        rcases h2 with h | h
        · rw [hv] at h
          cases h
        · exact h
      have g : decide (sg < 0) = true := decide_eq_true h3
      go_wp2_with fail
      refine ret_ct rfl rfl boxA Tryz.underlying40 rfl zk ?_
      exact ⟨rfl, belA⟩
theorem Exact_ok (x : Fr) (p q : Int) (w : World) (ht : Bld.Pow w) :
    Calls Tryz.prog 23 #[x.v, .int .i64 p, .int .i64 q] w (fun e w' => e = .returned (Fr.res (exE x p q)) ∧ Below w.heap.size w w') := by
  unfold exE
  cases hx : rd x with
  | none => exact Exact_bad x p q 0 20 20 (by unfold sgnF; rw [hx]) (Or.inl ⟨by decide, rfl⟩) w ht
  | some r =>
    obtain ⟨rfl, hr⟩ := of_rd hx
    simp only
    by_cases hb : eok p q = false ∨ r < 0
    · rw [if_pos hb]
      refine Exact_bad _ p q (cmpq r 0) 0 2 (by unfold sgnF; rw [hx]) (Or.inr ⟨rfl, rfl, ?_⟩) w ht
      rcases hb with h | h
      · exact Or.inl h
      · refine Or.inr ?_
        unfold cmpq
        rw [if_pos h]
        decide
    · rw [if_neg hb]
      have h1 : eok p q = true := by
        rcases Bool.eq_false_or_eq_true (eok p q) with h | h
        · exact h
        · exact absurd (Or.inl h) hb
      have h2 : 0 ≤ r := by
        have : ¬ r < 0 := fun h => hb (Or.inr h)
        grind
      obtain ⟨hp1, hp36, hq1, hq12⟩ : 1 ≤ p ∧ p ≤ 36 ∧ 1 ≤ q ∧ q ≤ 12 := by simpa [eok] using h1
      have := Exact_main r p.toNat q.toNat hr h2 zo zo zo zo w ht
      rw [Int.toNat_of_nonneg (show 0 ≤ p by omega), Int.toNat_of_nonneg (show 0 ≤ q by omega)] at this
      exact this
end Go.Proofs.power
