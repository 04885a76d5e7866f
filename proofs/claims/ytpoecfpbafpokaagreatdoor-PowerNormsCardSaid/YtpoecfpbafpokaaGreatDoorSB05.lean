/- Lemmas for the proof. No condition. -/
import Derived.Test.YtpoecfpbafpokaaGreatDoorSB01
import Derived.Test.YtpoecfpbafpokaaGreatDoorSB02
import Derived.Test.YtpoecfpbafpokaaGreatDoorSB04
import Derived.Test.YtpoecfpbafpokaaGreatDoorProg
import Derived.Test.YtpoecfpbafpokaaGreatDoorRows
import Derived.Laws.EntriesVeiled
import Derived.Lib.ParseIntBTie
import Derived.ProofKit
import Derived.LaidMore
import Derived.OpenShut
import Derived.Stop.Joined
import Derived.Stop.LaidErr
import Derived.Lib.LaidTab
import Derived.ChangeSame
import Derived.Laws.IdiomArrays
import Derived.KernelRfl
import Derived.Deep.QuietTactic
import Derived.BigQuiet
import Derived.WalkSmall
set_option linter.unusedVariables false
set_option linter.unusedSimpArgs false
set_option maxRecDepth 100000
set_option maxHeartbeats 16000000
namespace Go.Proofs.whole
open Go Go.RowKit Go.SW Go.Num Go.Mem Go.Proofs
theorem Mag.inj {w : World} {v : Value} {m n : Nat} (h : Mag w v m) (k : Mag w v n) : m = n := by
  obtain ⟨p, c, rfl, -, -, h1⟩ := Dgs.read h.dgs
  obtain ⟨p', c', e, -, -, h2⟩ := Dgs.read k.dgs
  simp only [Value.slice.injEq] at e
  obtain ⟨rfl, hl, rfl⟩ := e
  have : digs 1000000000 m = digs 1000000000 n := by
    refine List.ext_getElem hl fun i hi hi2 => ?_
    obtain ⟨b, o, e, -, hc⟩ := h1 i hi
    obtain ⟨b', o', e', -, hc'⟩ := h2 i hi2
    rw [e] at e'
    simp only [Option.some.injEq, Addr.mk.injEq, and_true] at e'
    obtain ⟨rfl, rfl⟩ := e'
    rw [hc] at hc'
    simp only [Option.some.injEq, Value.int.injEq, true_and] at hc'
    rw [List.getD_eq_getElem?_getD, List.getD_eq_getElem?_getD, List.getElem?_eq_getElem hi, List.getElem?_eq_getElem hi2] at hc'
    simpa using Int.ofNat_inj.mp hc'
  rw [← val_digs (B := 1000000000) zo m, this, val_digs zo]
open Classical in
noncomputable def magOf (w : World) (v : Value) : Nat := if h : ∃ n, Mag w v n then h.choose else 0
theorem magOf_eq {w : World} {v : Value} {n : Nat} (h : Mag w v n) : magOf w v = n := by
  unfold magOf
  rw [dif_pos ⟨n, h⟩]
  exact Mag.inj (Exists.choose_spec (⟨n, h⟩ : ∃ n, Mag w v n)) h
theorem gcd_ok (x y : Value) (a b : Nat) (w : World) (hx : Mag w x a) (hy : Mag w y b) (ha : sz 1000000000 a ≤ 549755813888) (hb : sz 1000000000 b ≤ 549755813888) :
    Calls Tryz.prog 202 #[x, y] w (fun e w' => ∃ v, e = .returned v ∧ Below w.heap.size w w' ∧ Mag w' v (Nat.gcd a b)) := by
  generalize hG : Nat.gcd a b = G
  have HG := zh hG
  have HX := zh hx
  have HY := zh hy
  clear hx hy hG
  go_enter Tryz.func202, Tryz.ntmps202
  go_wp2_with fail
  go_loopw [0, 1] (fun vx vy wr => ∃ a b : Nat, Hid (Mag wr vx a) ∧ Hid (Mag wr vy b) ∧ Hid (Nat.gcd a b = G) ∧ Hid (sz 1000000000 a ≤ 549755813888) ∧ Hid (sz 1000000000 b ≤ 549755813888) ∧ Below w.heap.size w wr) (fun _ vy wr => magOf wr vy)
  case atStart => exact ⟨a, b, HX, HY, HG, zh ha, zh hb, Below.refl _ _⟩
  case round =>
    obtain ⟨a, b, HX, HY, HG, HA, HB, hbr⟩ := hrel
    obtain ⟨p, c, rfl, hc1, hc2, hread⟩ := Dgs.read HX.out.dgs
    obtain ⟨p', c', rfl, hc1', hc2', hread'⟩ := Dgs.read HY.out.dgs
    clear hread hread'
    have HLA := zh (show ((digs 1000000000 a).length : Int) ≤ 2 → a ≤ 18446744073709551615 from fun h => by
      have h1 := lt_pow_sz (B := 1000000000) zo a
      have h2 : (1000000000 : Nat) ^ sz 1000000000 a ≤ 1000000000 ^ 2 := Nat.pow_le_pow_right zo (by unfold sz; omega)
      omega)
    have HLB := zh (show ((digs 1000000000 b).length : Int) ≤ 2 → b ≤ 18446744073709551615 from fun h => by
      have h1 := lt_pow_sz (B := 1000000000) zo b
      have h2 : (1000000000 : Nat) ^ sz 1000000000 b ≤ 1000000000 ^ 2 := Nat.pow_le_pow_right zo (by unfold sz; omega)
      omega)
    rcases Nat.eq_zero_or_pos b with h0 | h0
    · subst h0
      rw [Nat.gcd_zero_right] at HG
      go_wp2_with (go_at_call 141; refine (zero_ok _ 0 _ HY.out).mono ?_; rintro e w1 ⟨rfl, rfl⟩)
      go_ret
      exact ⟨_, rfl, hbr, by rw [← HG.out]; exact HX.out⟩
    · have hb0 : decide (b = 0) = false := by simp; omega
      go_wp2_with (go_at_call 141; refine (zero_ok _ b _ HY.out).mono ?_; rintro e w1 ⟨rfl, rfl⟩; rw [hb0])
      · refine (small_ok _ a _ HX.out (HLA.out (by assumption))).mono ?_
        rintro e w' ⟨rfl, rfl⟩
        go_wp2_with fail
        refine (small_ok _ b _ HY.out (HLB.out (by assumption))).mono ?_
        rintro e w' ⟨rfl, rfl⟩
        have hla := HLA.out (by assumption)
        have hlb := HLB.out (by assumption)
        go_wp2_with fail
        go_loopw [5, 6] (fun v5 v6 wi => ∃ c d : Nat, v5 = .int .u64 (c : Int) ∧ v6 = .int .u64 (d : Int) ∧ c ≤ 18446744073709551615 ∧ d ≤ 18446744073709551615 ∧ Hid (Nat.gcd c d = G) ∧ Below w.heap.size w wi) (fun _ v6 _ => (intOf v6).toNat)
        case atStart => exact ⟨a, b, rfl, rfl, hla, hlb, HG, hbr⟩
        case round =>
          obtain ⟨c, d, rfl, rfl, hc, hd, HG2, hbi⟩ := hrel
          rcases Nat.eq_zero_or_pos d with h1 | h1
          · subst h1
            rw [Nat.gcd_zero_right] at HG2
            go_wp2_with fail
            refine (fromSmall_ok c _ hc).mono ?_
            rintro e w3 ⟨v3, rfl, hb3, hv3⟩
            have HV3 := zh hv3
            clear hv3
            go_wp2_with fail
            go_ret
            exact ⟨_, rfl, Bt hbi hb3, by rw [← HG2.out]; exact HV3.out⟩
          · have hcd : ((c % d : Nat) : Int) = (c : Int) % (d : Int) := Int.natCast_emod _ _
            have hlt : c % d < d := Nat.mod_lt _ h1
            go_wp2_with fail
            go_quiet (fail)
            go_wp2_with fail
            refine ⟨⟨d, c % d, rfl, by rw [hcd], hd, by omega, zh ?_, below_drewN hbi _⟩, ?_⟩
            · rw [← HG2.out, Nat.gcd_comm d, ← Nat.gcd_rec, Nat.gcd_comm]
            · rw [← hcd]
              simp only [intOf]
              omega
      all_goals
        refine (divide_ok _ _ a b _ HX.out HY.out h0 HA.out).mono ?_
        rintro e w2 ⟨vq, vr, rfl, hb2, hq, hr⟩
        have HR := zh hr
        clear hq hr
        go_wp2_with fail
        refine ⟨⟨b, a % b, zh (HY.out.later hb2), HR, zh ?_, HB, zh (Nat.le_trans (sz_mono zo (Nat.mod_le _ _)) HA.out), Bt hbr hb2⟩, ?_⟩
        · rw [← HG.out, Nat.gcd_comm b, ← Nat.gcd_rec, Nat.gcd_comm]
        · rw [magOf_eq HR.out, magOf_eq HY.out]
          exact Nat.mod_lt _ h0
end Go.Proofs.whole
namespace Go.Proofs.whole
open Go Go.RowKit Go.SW Go.Num Go.Mem Go.Proofs Go.Dec
theorem signed_ok (m : Value) (n : Nat) (b : Bool) (w : World) (h : Mag w m n) :
    Calls Tryz.prog 128 #[m, .bool b] w (fun e w' => ∃ v, e = .returned v ∧ Below w.heap.size w w' ∧ IntV w' v (sgd n b)) := by
  obtain ⟨paH, lH, caH, rfl⟩ := h.slice; have H := zh h; clear h
  cases b
  all_goals
    go_enter Tryz.func128, Tryz.ntmps128
    go_wp2_with (go_at_call 141; refine (zero_ok _ n _ magA).mono ?_; rintro e w1 ⟨rfl, rfl⟩)
    refine ret_c rfl rfl boxA Tryz.underlying167 rfl zk ?_
    refine ⟨_, rfl, belA, IntV.mk magA (sgd_natAbs n _).symm ?_⟩
    rw [← sgd_neg]
    rfl
theorem opposite_ok (v : Value) (z : Int) (w : World) (h : IntV w v z) :
    Calls Tryz.prog 201 #[v] w (fun e w' => ∃ v, e = .returned v ∧ Below w.heap.size w w' ∧ IntV w' v (-z)) := by
  obtain ⟨paH, lH, caH, rfl, H⟩ := h; replace H := zh H
  go_enter Tryz.func201, Tryz.ntmps201
  go_wp2_with (go_at_call 128; refine (signed_ok _ _ _ _ magA).mono ?_; rintro e w1 ⟨v, rfl, hb1, hv⟩; obtain ⟨paH1, lH1, caH1, rfl, H1⟩ := hv; replace H1 := zh H1; have BR := Box.later (Box.at1 _ _ _ _) hb1; have cBR := BR.cell; have fBR := BR.free)
  refine ret_c rfl rfl boxA Tryz.underlying167 rfl zk ?_
  exact ⟨_, rfl, belA, (IntV.of_neg magA).cast (sgd_opp z)⟩
theorem sum_same (pa pb : Option Addr) (l m ca cb : Nat) (z y : Int) (b : Bool) (w : World) (h : Mag w (.slice pa l ca) z.natAbs) (h2 : Mag w (.slice pb m cb) y.natAbs) (hz : decide (z < 0) = b) (hy : decide (y < 0) = b) (kz : sz 1000000000 z.natAbs ≤ 549755813888) (ky : sz 1000000000 y.natAbs ≤ 549755813888) :
    Calls Tryz.prog 177 #[.agg #[.slice pa l ca, .bool b], .agg #[.slice pb m cb, .bool b]] w (fun e w' => ∃ v, e = .returned v ∧ Below w.heap.size w w' ∧ IntV w' v (z + y)) := by
  have H := zh h
  have H2 := zh h2
  have KZ := zh kz
  have KY := zh ky
  have HE := zh (sgd_add hz hy)
  clear h h2 kz ky hz hy
  cases b
  all_goals
    go_enter Tryz.func177, Tryz.ntmps177
    go_wp2_with fail
    refine wp_region_walk [(.pure, 0), (.read, 1), (.pure, 2), (.read, 3), (.pure, 5), (.read, 6), (.ext, 4), (.ext, 7), (.fin, 8)] zk zk zR zP ?_
    repeat (first | (refine walk_pure0 rfl rfl fun J h => ?_; go_simp; refine h _ ?_; clear h J) | (refine walk_load rfl rfl rfl rfl fun J h => ?_; go_simp; refine h _ ?_; clear h J; try go_simp))
    refine walk_ext rfl rfl (fun w1 hb1 J hJ => ?_); go_simp
    have BR := Box.later (Box.drew (Box.at2 _ _ _ _ _)) hb1; have cBR := BR.cell; have fBR := BR.free
    refine (plus_ok _ _ z.natAbs y.natAbs _ magA magA (Nat.le_trans KZ.out zo) (Nat.le_trans KY.out zo)).mono ?_
    rintro e v1 ⟨v, rfl, hc1, hv⟩
    obtain ⟨paHS, lHS, caHS, rfl⟩ := hv.slice; have HS := zh hv; clear hv
    replace BR := Box.later (BR) hc1; replace cBR := BR.cell; replace fBR := BR.free
    refine hJ _ _ hc1 ?_
    clear hJ J
    refine walk_ext rfl rfl (fun w2 hb2 J hJ => ?_); go_simp
    replace BR := Box.later (BR) hb2; replace cBR := BR.cell; replace fBR := BR.free
    refine (signed_ok _ (z.natAbs + y.natAbs) _ _ magA).mono ?_
    rintro e v2 ⟨v, rfl, hc2, hv⟩
    obtain ⟨paHT, lHT, caHT, rfl, HT⟩ := hv; replace HT := zh HT
    replace BR := Box.later (BR) hc2; replace cBR := BR.cell; replace fBR := BR.free
    refine hJ _ _ hc2 ?_
    clear hJ J
    refine walk_fin [_] rfl (fun w5 hb5 => ?_)
    replace BR := Box.later (BR) hb5; replace cBR := BR.cell; replace fBR := BR.free
    go_wp2_with fail
    refine ret_c rfl rfl boxA Tryz.underlying167 rfl zk ?_
    exact ⟨_, rfl, belA, (IntV.of_neg magA).cast HE.out⟩
theorem sum_diff (pa pb : Option Addr) (l m ca cb : Nat) (z y : Int) (b : Bool) (w : World) (h : Mag w (.slice pa l ca) z.natAbs) (h2 : Mag w (.slice pb m cb) y.natAbs) (hz : decide (z < 0) = b) (hy : decide (y < 0) = !b) (kz : sz 1000000000 z.natAbs ≤ 549755813888) (ky : sz 1000000000 y.natAbs ≤ 549755813888) :
    Calls Tryz.prog 177 #[.agg #[.slice pa l ca, .bool b], .agg #[.slice pb m cb, .bool !b]] w (fun e w' => ∃ v, e = .returned v ∧ Below w.heap.size w w' ∧ IntV w' v (z + y)) := by
  have H := zh h
  have H2 := zh h2
  have KZ := zh kz
  have KY := zh ky
  rcases Nat.lt_or_ge z.natAbs y.natAbs with hlt | hge
  · have HE : Hid (sgd (y.natAbs - z.natAbs) (!b) = z + y) := by
      have := sgd_sub (z := y) (y := z) (b := !b) hy (by rw [hz, Bool.not_not])
      rw [if_pos zo] at this
      exact this.trans (Int.add_comm _ _)
    have HC := zh (sgn_lt hlt)
    have HL := zh hlt
    clear h h2 kz ky hz hy hlt
    cases b
    all_goals
      go_enter Tryz.func177, Tryz.ntmps177
      go_wp2_with fail
      refine ((compare_ok _ _ z.natAbs y.natAbs _ magA magA).mono (by rw [HC.out]; exact fun _ _ h => h)).mono ?_
      rintro e v1 ⟨rfl, hc1⟩
      have BR := Box.later (Box.at2 _ _ _ _ _) hc1; have cBR := BR.cell; have fBR := BR.free
      have B1 := Box.later (Box.alloc (Box.at1 _ _ _ _) _) hc1; have cB1 := B1.cell; have fB1 := B1.free
      have B0 := Box.later (Box.alloc (Box.alloc (Box.new _ _ _) _) _) hc1; have cB0 := B0.cell; have fB0 := B0.free
      go_wp2_with fail
      refine wp_region_walk [(.pure, 0), (.read, 1), (.pure, 2), (.read, 3), (.pure, 5), (.read, 6), (.ext, 4), (.ext, 7), (.fin, 8)] zk zk zR zP ?_
      repeat (first | (refine walk_pure0 rfl rfl fun J h => ?_; go_simp; refine h _ ?_; clear h J) | (refine walk_load rfl rfl rfl rfl fun J h => ?_; go_simp; refine h _ ?_; clear h J; try go_simp))
      refine walk_ext rfl rfl (fun w2 hb2 J hJ => ?_); go_simp
      replace BR := Box.later (Box.drew BR) hb2; replace cBR := BR.cell; replace fBR := BR.free
      refine (minus_ok _ _ y.natAbs z.natAbs _ magA magA (Nat.le_trans KY.out zo) (Nat.le_of_lt HL.out)).mono ?_
      rintro e v2 ⟨v, rfl, hc2, hv⟩
      obtain ⟨paHD, lHD, caHD, rfl⟩ := hv.slice; have HD := zh hv; clear hv
      replace BR := Box.later (BR) hc2; replace cBR := BR.cell; replace fBR := BR.free
      refine hJ _ _ hc2 ?_
      clear hJ J
      refine walk_ext rfl rfl (fun w3 hb3 J hJ => ?_); go_simp
      replace BR := Box.later (BR) hb3; replace cBR := BR.cell; replace fBR := BR.free
      refine (signed_ok _ (y.natAbs - z.natAbs) _ _ magA).mono ?_
      rintro e v3 ⟨v, rfl, hc3, hv⟩
      obtain ⟨paHT, lHT, caHT, rfl, HT⟩ := hv; replace HT := zh HT
      replace BR := Box.later (BR) hc3; replace cBR := BR.cell; replace fBR := BR.free
      refine hJ _ _ hc3 ?_
      clear hJ J
      refine walk_fin [_] rfl (fun w5 hb5 => ?_)
      replace BR := Box.later (BR) hb5; replace cBR := BR.cell; replace fBR := BR.free
      go_wp2_with fail
      refine ret_c rfl rfl boxA Tryz.underlying167 rfl zk ?_
      exact ⟨_, rfl, belA, (IntV.of_neg magA).cast HE.out⟩
  · have HE : Hid (sgd (z.natAbs - y.natAbs) b = z + y) := by
      have := sgd_sub (z := z) (y := y) (b := b) hz hy
      rw [if_pos zo] at this
      exact this
    have hs : sgn z.natAbs y.natAbs = 0 ∨ sgn z.natAbs y.natAbs = 1 := by
      rcases Nat.lt_or_ge y.natAbs z.natAbs with h2 | h2
      · exact .inr (sgn_gt h2)
      · have : z.natAbs = y.natAbs := by omega
        rw [this]; exact .inl (sgn_eq _)
    have HL := zh hge
    clear h h2 kz ky hz hy hge
    rcases hs with hs | hs <;> cases b
    all_goals
      have HC := zh hs
      clear hs
      go_enter Tryz.func177, Tryz.ntmps177
      go_wp2_with fail
      refine ((compare_ok _ _ z.natAbs y.natAbs _ magA magA).mono (by rw [HC.out]; exact fun _ _ h => h)).mono ?_
      rintro e v1 ⟨rfl, hc1⟩
      have BR := Box.later (Box.at2 _ _ _ _ _) hc1; have cBR := BR.cell; have fBR := BR.free
      have B1 := Box.later (Box.alloc (Box.at1 _ _ _ _) _) hc1; have cB1 := B1.cell; have fB1 := B1.free
      have B0 := Box.later (Box.alloc (Box.alloc (Box.new _ _ _) _) _) hc1; have cB0 := B0.cell; have fB0 := B0.free
      go_wp2_with fail
      refine wp_region_walk [(.pure, 0), (.read, 1), (.pure, 2), (.read, 3), (.pure, 5), (.read, 6), (.ext, 4), (.ext, 7), (.fin, 8)] zk zk zR zP ?_
      repeat (first | (refine walk_pure0 rfl rfl fun J h => ?_; go_simp; refine h _ ?_; clear h J) | (refine walk_load rfl rfl rfl rfl fun J h => ?_; go_simp; refine h _ ?_; clear h J; try go_simp))
      refine walk_ext rfl rfl (fun w2 hb2 J hJ => ?_); go_simp
      replace BR := Box.later (Box.drew BR) hb2; replace cBR := BR.cell; replace fBR := BR.free
      refine (minus_ok _ _ z.natAbs y.natAbs _ magA magA (Nat.le_trans KZ.out zo) HL.out).mono ?_
      rintro e v2 ⟨v, rfl, hc2, hv⟩
      obtain ⟨paHD, lHD, caHD, rfl⟩ := hv.slice; have HD := zh hv; clear hv
      replace BR := Box.later (BR) hc2; replace cBR := BR.cell; replace fBR := BR.free
      refine hJ _ _ hc2 ?_
      clear hJ J
      refine walk_ext rfl rfl (fun w3 hb3 J hJ => ?_); go_simp
      replace BR := Box.later (BR) hb3; replace cBR := BR.cell; replace fBR := BR.free
      refine (signed_ok _ (z.natAbs - y.natAbs) _ _ magA).mono ?_
      rintro e v3 ⟨v, rfl, hc3, hv⟩
      obtain ⟨paHT, lHT, caHT, rfl, HT⟩ := hv; replace HT := zh HT
      replace BR := Box.later (BR) hc3; replace cBR := BR.cell; replace fBR := BR.free
      refine hJ _ _ hc3 ?_
      clear hJ J
      refine walk_fin [_] rfl (fun w5 hb5 => ?_)
      replace BR := Box.later (BR) hb5; replace cBR := BR.cell; replace fBR := BR.free
      go_wp2_with fail
      refine ret_c rfl rfl boxA Tryz.underlying167 rfl zk ?_
      exact ⟨_, rfl, belA, (IntV.of_neg magA).cast HE.out⟩
theorem sum_ok (v u : Value) (z y : Int) (w : World) (h : IntV w v z) (h2 : IntV w u y) (kz : sz 1000000000 z.natAbs ≤ 549755813888) (ky : sz 1000000000 y.natAbs ≤ 549755813888) :
    Calls Tryz.prog 177 #[v, u] w (fun e w' => ∃ v, e = .returned v ∧ Below w.heap.size w w' ∧ IntV w' v (z + y)) := by
  obtain ⟨pa, l, ca, rfl, hm⟩ := h
  obtain ⟨pb, m, cb, rfl, hm2⟩ := h2
  by_cases hb : decide (z < 0) = decide (y < 0)
  · rw [hb]
    exact sum_same pa pb l m ca cb z y (decide (y < 0)) w hm hm2 hb rfl kz ky
  · have hb2 : decide (y < 0) = !decide (z < 0) := by
      cases h1 : decide (z < 0) <;> cases h2 : decide (y < 0) <;> simp_all
    rw [hb2]
    exact sum_diff pa pb l m ca cb z y (decide (z < 0)) w hm hm2 rfl hb2 kz ky
end Go.Proofs.whole
namespace Go.Proofs.whole
open Go Go.RowKit Go.SW Go.Num Go.Mem Go.Proofs
theorem power_ok (x : Value) (a k : Nat) (w : World) (hx : Mag w x a) (hk : k ≤ 9223372036854775807) (hb : ∀ i, i ≤ k → sz 1000000000 (a ^ i) ≤ 1099511627776) (ha : sz 1000000000 a ≤ 1099511627776) :
    Calls Tryz.prog 129 #[x, .int .i64 (k : Int)] w (fun e w' => ∃ v, e = .returned v ∧ Below w.heap.size w w' ∧ Mag w' v (a ^ k)) := by
  have hmf : ∀ (fn : Fn) (first cap : Array Value) (w : World), (Instr.makeFunc fn first cap).run Tryz.prog w = .ok (.func fn first cap) w := fun _ _ _ _ => rfl
  obtain ⟨pa, l, ca, rfl⟩ := hx.slice
  have HX := zh hx
  have HBD := zh hb
  have HA := zh ha
  clear hx hb ha
  go_enter Tryz.func129, Tryz.ntmps129
  go_wp2_with fail
  have hb1 : Below w.heap.size w (w.alloc (.cells #[.int .u32 1] 24)) := belA
  have h1 : Hid (Mag (w.alloc (.cells #[.int .u32 1] 24)) (.slice (some ⟨w.heap.size, 0, none⟩) 1 1) 1) := zh (by have := Mag.lit (w := w) (d := 1) zo zo; simpa using this)
  obtain ⟨w1, EW⟩ : ∃ y, w.alloc (.cells #[.int .u32 1] 24) = y := ⟨_, rfl⟩
  rw [EW] at hb1 h1 ⊢
  have HB1 := zh hb1
  clear EW hb1
  go_loopw [5, 11] (fun pv iv wr => ∃ i : Nat, iv = .int .i64 (i : Int) ∧ i ≤ k ∧ Hid (Mag wr pv (a ^ i)) ∧ Below w1.heap.size w1 wr) (fun _ iv _ => k - (intOf iv).toNat)
  case atStart => exact ⟨0, rfl, by omega, zh (by rw [Nat.pow_zero]; exact h1.out), Below.refl _ _⟩
  case round =>
    obtain ⟨i, rfl, hi, HP, hb⟩ := hrel
    obtain ⟨pp, lp, cp, rfl⟩ := HP.out.slice
    rcases Nat.lt_or_ge i k with hlt | hge
    · have HT := zh (times_ok _ _ a (a ^ i) wr (HX.out.later (Bt HB1.out hb)) HP.out HA.out (HBD.out i hi))
      go_wp2_with fail
      refine HT.out.mono ?_
      rintro e w2 ⟨v, rfl, hb2, hv⟩
      obtain ⟨pq, lq, cq, rfl⟩ := hv.slice
      have HP2 : Hid (Mag w2 (.slice pq lq cq) (a ^ (i + 1))) := zh (by rw [Nat.pow_succ, Nat.mul_comm]; exact hv)
      have hz := Bt hb hb2
      clear hv hb2 HT HP
      go_wp2_with fail
      go_roundw
      case rel => exact ⟨i + 1, by go_num, by omega, HP2, hz⟩
      case measure => exact zM
    · obtain rfl : i = k := by omega
      go_wp2_with fail
      go_ret
      exact ⟨_, rfl, Bt HB1.out hb, HP.out⟩
theorem ten_list (k d : Nat) : (List.replicate (k + 1) 0).set k d = List.replicate k 0 ++ [d] := by
  rw [List.replicate_succ']
  rw [List.set_append_right _ _ zi]
  simp
theorem ten_mag {w : World} {v : Value} {k d : Nat} (h : Dgs w v ((List.replicate (k + 1) 0).set k d)) (h0 : 0 < d) (h1 : d < 1000000000) : Mag w v (1000000000 ^ k * d) := by
  rw [ten_list] at h
  have := Mag.of_dgs h (fun x hx => by
    rcases List.mem_append.1 hx with hx | hx
    · rw [List.eq_of_mem_replicate hx]; omega
    · simp at hx; omega) (fun j hj => by
    have e : j = k := by simpa using hj.symm
    subst e
    rw [List.getD_eq_getElem?_getD, List.getElem?_append_right zi]
    simp
    omega)
  rwa [val_snoc, val_zeros, List.length_replicate, Nat.zero_add] at this
theorem tenfold_ok (n : Nat) (hn : n ≤ 100000) (w : World) :
    Calls Tryz.prog 192 #[.int .i64 (n : Int)] w (fun e w' => ∃ v, e = .returned v ∧ Below w.heap.size w w' ∧ Mag w' v (10 ^ n)) := by
  obtain ⟨i0, hi, hz0, hz1, hz2⟩ := info_parts infoU
  have W0 : ∀ z : Int, 0 ≤ z ∧ z ≤ 1000000000 → IntKind.i64.wrap z = z := fun z h => by unfold IntKind.wrap; simp [IntKind.bits, IntKind.signed]; omega
  obtain ⟨k, hk⟩ : ∃ k, n / 9 = k := ⟨_, rfl⟩
  obtain ⟨r, hr⟩ : ∃ r, n % 9 = r := ⟨_, rfl⟩
  have e10 : 10 ^ n = 1000000000 ^ k * 10 ^ r := by
    rw [show (1000000000 : Nat) = 10 ^ 9 by decide, ← Nat.pow_mul, ← Nat.pow_add]
    congr 1
    omega
  rw [e10]
  have t1 : (n : Int).tdiv 9 = (k : Int) := by rw [Int.tdiv_eq_ediv_of_nonneg zo]; omega
  have t2 : (n : Int).tmod 9 = (r : Int) := by rw [Int.tmod_eq_emod_of_nonneg zo]; omega
  have u1 := W0 (k : Int) zo
  have u2 := W0 ((k : Int) + 1) zo
  have u3 := W0 (r : Int) zo
  have hr8 : r ≤ 8 := by omega
  have hk9 : k ≤ 100000 := by omega
  have HT : Hid (∀ i, i ≤ r → 0 < 10 ^ i ∧ 10 ^ i ≤ 100000000) := zh fun i hi => ⟨Nat.pow_pos zo, Nat.le_trans (Nat.pow_le_pow_right zo (show i ≤ 8 by omega)) zd⟩
  clear e10 hk hr W0
  go_enter Tryz.func192, Tryz.ntmps192
  go_wp2_with (at_make; refine wpList_make_full _ rfl _ _ 165 rfl w.heap.size 24 i0 (.int .u32 0) 1 Tryz.underlying165 hi hz0 hz1 _ _ _ _ (k + 1) rfl rfl zo zo (by rw [hz2]; omega) (by unfold maxLen; omega) (Nat.le_refl _) ?_)
  intro w0 hown0 hgrow0
  rw [made_u32] at hown0
  have hb0 : Below w.heap.size w w0 := (Below.refl _ _).grown hgrow0 (Nat.le_refl _) (fun k h => by cases h)
  have HO := zh hown0
  have HB := zh hb0
  clear hown0 hgrow0 hb0
  go_wp2_with fail
  go_loopw [4, 11] (fun tv iv wr => ∃ i : Nat, iv = .int .i64 (i : Int) ∧ i ≤ r ∧ tv = .int .u32 ((10 ^ i : Nat) : Int) ∧ wr = w0) (fun _ iv _ => r - (intOf iv).toNat)
  case atStart => exact ⟨0, rfl, by omega, rfl, rfl⟩
  case round =>
    obtain ⟨i, rfl, hi, rfl, rfl⟩ := hrel
    obtain ⟨h1, h2⟩ := HT.out i hi
    rcases Nat.lt_or_ge i r with hlt | hge
    · have h3 := (HT.out (i + 1) zo).2
      obtain ⟨b, hB⟩ : ∃ b, Hid (10 ^ (i + 1) = b) := ⟨_, zh rfl⟩
      rw [hB.out] at h3
      have e : ((10 ^ i : Nat) : Int) * 10 = (b : Int) := by rw [← hB.out, Nat.pow_succ]; omega
      have he : IntKind.u32.wrap (((10 ^ i : Nat) : Int) * 10) = (b : Int) := by rw [e]; unfold IntKind.wrap; simp [IntKind.bits, IntKind.signed]; omega
      clear e h3 h1 h2
      generalize 10 ^ i = a at *
      go_wp2_with fail
      go_roundw
      case rel => exact ⟨i + 1, by go_num, by omega, by rw [hB.out], trivial⟩
      case measure => exact zM
    · obtain rfl : i = r := by omega
      obtain ⟨d, hD⟩ : ∃ d, Hid (10 ^ i = d) := ⟨_, zh rfl⟩
      rw [hD.out] at h1 h2 ⊢
      have q1 : wr.cell? ⟨w.heap.size, k, none⟩ = some (.int .u32 0) := by rw [HO.out.cellAt k zo, u32s_get zi]; simp
      have q2 : wr.frozen? ⟨w.heap.size, k, none⟩ = false := HO.out.frozenAt k
      have HS : Hid (Mag (wr.setCell ⟨w.heap.size, k, none⟩ (.int .u32 (d : Int))) (.slice (some ⟨w.heap.size, 0, none⟩) (k + 1) (k + 1)) (1000000000 ^ k * d)) := zh (by
        have h3 := (HO.out.stored k (.int .u32 (d : Int))).1
        rw [u32s_set] at h3
        exact ten_mag (Dgs.of_owns h3) h1 zo)
      have hb : Below w.heap.size w (wr.setCell ⟨w.heap.size, k, none⟩ (.int .u32 (d : Int))) := HB.out.setCell (Nat.le_refl _) _
      go_wp2_with fail
      go_ret
      exact ⟨_, rfl, hb, by rw [hD.out]; exact HS.out⟩
end Go.Proofs.whole
namespace Go.Proofs.whole
open Go Go.RowKit Go.SW Go.Num Go.Mem Go.Proofs Go.Dec
theorem sz_pow {y s : Nat} (hy : sz 1000000000 y ≤ s) : ∀ i, sz 1000000000 (y ^ i) ≤ s * i + 1
  | 0 => sz_le_of_lt zo _ _ (by rw [Nat.mul_zero, Nat.pow_zero]; decide)
  | i + 1 => by
    rw [Nat.pow_succ]
    have h := sz_mul (B := 1000000000) zo (y ^ i) y
    have := sz_pow hy i
    rw [Nat.mul_succ]
    omega
theorem sz_ten {l : Nat} : sz 1000000000 (10 ^ l) ≤ l + 1 := by
  refine sz_le_of_lt zo _ _ ?_
  have h1 : 10 ^ l ≤ 1000000000 ^ l := Nat.pow_le_pow_left zo l
  have h2 : 1000000000 ^ l < 1000000000 ^ (l + 1) := Nat.pow_lt_pow_right zo zo
  omega
theorem root_ok (x : Value) (a k : Nat) (w : World) (hx : Mag w x a) (hk : 1 ≤ k) (k12 : k ≤ 12) (hl : (Lib.decDigits a).length ≤ 10000) (ha : sz 1000000000 a ≤ 10000) (ht : Bld.Pow w) :
    Calls Tryz.prog 150 #[x, .int .i64 (k : Int)] w (fun e w' => ∃ v, e = .returned v ∧ Below w.heap.size w w' ∧ Mag w' v (iroot k a)) := by
  obtain ⟨pa, la, ca, rfl⟩ := hx.slice
  rcases Nat.eq_zero_or_pos a with rfl | ha0
  · have hr : iroot k 0 = 0 := Nat.le_antisymm (iroot_le hk (by rw [Nat.zero_add, Nat.one_pow]; omega)) (Nat.zero_le _)
    rw [hr]
    have HX := zh hx
    clear hx hl ha ht hr
    go_enter Tryz.func150, Tryz.ntmps150
    go_wp2_with fail
    refine (zero_ok _ 0 _ HX.out).mono ?_
    rintro e w1 ⟨rfl, rfl⟩
    go_wp2_with fail
    go_ret
    exact ⟨_, rfl, Below.refl _ _, Mag.zero _⟩
  · have W0 : ∀ z : Int, 0 ≤ z ∧ z ≤ 1000000000 → IntKind.i64.wrap z = z := fun z h => by unfold IntKind.wrap; simp [IntKind.bits, IntKind.signed]; omega
    have d0 : decide (a = 0) = false := by simp; omega
    have hs := newt_start (k := k) (m := a) hk (dec_len_lt a)
    obtain ⟨l, El⟩ : ∃ l, Hid ((Lib.decDigits a).length = l) := ⟨_, zh rfl⟩
    have HLEN := zh (fun W (hW : Below w.heap.size w W) => length_ok _ a W (hx.later hW) (Nat.le_trans ha zo) (ht.later hW))
    rw [El.out] at hs hl HLEN
    obtain ⟨j, Ej⟩ : ∃ j, l / k = j := ⟨_, rfl⟩
    have hjl : j ≤ l := by rw [← Ej]; exact Nat.div_le_self _ _
    have t1 : (l : Int).tdiv (k : Int) = (j : Int) := by rw [Int.tdiv_eq_ediv_of_nonneg zo, ← Ej]; rfl
    rw [Ej] at hs
    have kz : ¬ k = 0 := by omega
    have kz2 : (k : Int) ≠ 0 := by omega
    have kz3 : ((k : Int) == 0) = false := by simp; omega
    have u1 := W0 (j : Int) zo
    have u2 := W0 ((j : Int) + 1) zo
    obtain ⟨m, hm⟩ : ∃ m, Hid (k = m + 1) := ⟨k - 1, zh zo⟩
    have e1 : (k : Int) - 1 = (m : Int) := by have := hm.out; omega
    have hm12 : m ≤ 11 := by have := hm.out; omega
    have u3 := W0 (m : Int) zo
    have u4 : IntKind.u64.wrap (m : Int) = (m : Int) := by unfold IntKind.wrap; simp [IntKind.bits, IntKind.signed]; omega
    have u5 : IntKind.u32.wrap (k : Int) = (k : Int) := by unfold IntKind.wrap; simp [IntKind.bits, IntKind.signed]; omega
    have HTEN := zh (fun W => tenfold_ok (j + 1) zo W)
    have HX := zh hx
    have HA := zh ha
    have HS := zh hs
    have HA0 := zh ha0
    have HRP : Hid (1 ≤ iroot k a) := zh (le_iroot hk (by rw [Nat.one_pow]; exact ha0))
    clear hx ha hs ht W0 Ej
    go_enter Tryz.func150, Tryz.ntmps150
    go_wp2_with fail
    refine (zero_ok _ a _ HX.out).mono ?_
    rintro e w1 ⟨rfl, rfl⟩
    rw [d0]
    go_wp2_with fail
    refine (HLEN.out _ (Below.refl _ _)).mono ?_
    rintro e w2 ⟨rfl, hb2⟩
    go_wp2_with fail
    refine (HTEN.out _).mono ?_
    rintro e w3 ⟨v, rfl, hb3, hv⟩
    obtain ⟨pv, lv, cv, rfl⟩ := hv.slice
    have HV := zh hv
    have HB := zh (Bt hb2 hb3)
    clear hv hb2 hb3
    go_wp2_with fail
    go_loopw [5] (fun xv wr => ∃ y : Nat, Hid (Mag wr xv y) ∧ Hid (iroot k a ≤ y ∧ y ≤ 10 ^ (j + 1)) ∧ Below w.heap.size w wr) (fun xv wr => magOf wr xv)
    case atStart => exact ⟨_, HV, zh ⟨HS.out, Nat.le_refl _⟩, HB.out⟩
    case round =>
      obtain ⟨y, HY, HR, hb⟩ := hrel
      obtain ⟨py, ly, cy, rfl⟩ := HY.out.slice
      have hy0 : 0 < y := by have := HR.out.1; have := HRP.out; omega
      have hys : sz 1000000000 y ≤ 10002 := Nat.le_trans (sz_mono zo HR.out.2) (Nat.le_trans sz_ten zo)
      have HPW := zh (power_ok _ y m wr HY.out zo (fun i hi => Nat.le_trans (sz_pow hys i) (by have := Nat.mul_le_mul_left 10002 (show i ≤ 12 by omega); omega)) (Nat.le_trans hys zo))
      have HYS := zh hys
      have HY0 := zh hy0
      have HBr := zh hb
      clear hb hys hy0
      go_wp2_with fail
      refine HPW.out.mono ?_
      rintro e w4 ⟨v4, rfl, hb4, hv4⟩
      obtain ⟨p4, l4, c4, rfl⟩ := hv4.slice
      have HV4 := zh hv4
      have HB4 := zh hb4
      clear hv4 hb4 HPW
      have HD := zh (divide_ok _ _ a (y ^ m) _ (HX.out.later (Bt HBr.out HB4.out)) HV4.out (Nat.pow_pos HY0.out) (Nat.le_trans HA.out zo))
      go_wp2_with fail
      refine HD.out.mono ?_
      rintro e w5 ⟨v5, v6, rfl, hb5, hv5, -⟩
      obtain ⟨p5, l5, c5, rfl⟩ := hv5.slice
      have HV5 := zh hv5
      have HB5 := zh (Bt HB4.out hb5)
      clear hv5 hb5 HD HV4 HB4
      go_wp2_with fail
      refine (fromSmall_ok m _ zo).mono ?_
      rintro e w6 ⟨v7, rfl, hb6, hv6⟩
      obtain ⟨p6, l6, c6, rfl⟩ := hv6.slice
      have sm : sz 1000000000 m ≤ 2 := sz_le_of_lt zo 2 _ zo
      have HM := zh (times_ok _ _ y m _ (HY.out.later (Bt HB5.out hb6)) hv6 (Nat.le_trans HYS.out zo) (Nat.le_trans sm zo))
      have HV5' := zh (HV5.out.later hb6)
      have HB6 := zh (Bt HB5.out hb6)
      clear hv6 hb6 HV5 HB5
      go_wp2_with fail
      refine HM.out.mono ?_
      rintro e w7 ⟨v8, rfl, hb7, hv7⟩
      obtain ⟨p7, l7, c7, rfl⟩ := hv7.slice
      have s7 : sz 1000000000 (y * m) ≤ 10100 := by
        have h1 := sz_mul (B := 1000000000) zo y m
        have h2 := HYS.out
        omega
      have s5 : sz 1000000000 (a / y ^ m) ≤ 10000 := Nat.le_trans (sz_mono zo (Nat.div_le_self _ _)) HA.out
      have HP := zh (plus_ok _ _ (y * m) (a / y ^ m) _ hv7 (HV5'.out.later hb7) (Nat.le_trans s7 zo) (Nat.le_trans s5 zo))
      have HSUM : Hid (sz 1000000000 (y * m + a / y ^ m) ≤ 1099511627776) := zh (by
        have := sz_add (B := 1000000000) zo (y * m) (a / y ^ m)
        omega)
      have HB7 := zh (Bt HB6.out hb7)
      clear hv7 hb7 HM HV5' HB6 s7 s5
      go_wp2_with fail
      refine HP.out.mono ?_
      rintro e w8 ⟨v9, rfl, hb8, hv8⟩
      obtain ⟨p8, l8, c8, rfl⟩ := hv8.slice
      have HSH := zh (short_ok _ _ k _ hv8 HSUM.out zo zo)
      have HB8 := zh (Bt HB7.out hb8)
      clear hv8 hb8 HP HSUM HB7
      have en : (y * m + a / y ^ m) / k = newt k a y := by unfold newt; rw [show k - 1 = m by have := hm.out; omega]
      rw [en] at HSH
      obtain ⟨z, Ez⟩ : ∃ z, Hid (newt k a y = z) := ⟨_, zh rfl⟩
      rw [Ez.out] at HSH
      clear en
      go_wp2_with fail
      refine HSH.out.mono ?_
      rintro e w9 ⟨v10, rfl, hb9, hv9⟩
      obtain ⟨p9, l9, c9, rfl⟩ := hv9.slice
      have HV9 := zh hv9
      have HB9 := zh (Bt HB8.out hb9)
      have HCM := zh (compare_ok _ _ z y _ hv9 (HY.out.later (Bt HB8.out hb9)))
      clear hv9 hb9 HSH HB8
      go_wp2_with fail
      refine HCM.out.mono ?_
      rintro e w10 ⟨rfl, hb10⟩
      have HB10 := zh (Bt HB9.out hb10)
      have HV10 := zh (HV9.out.later hb10)
      have HYZ := zh (HY.out.later HB10.out)
      clear HCM HB9 HV9 hb10
      rcases Nat.lt_or_ge z y with hlt | hge
      · rw [sgn_lt hlt]
        have hz := Bt HBr.out HB10.out
        go_wp2_with fail
        go_roundw
        case rel => exact ⟨z, HV10, zh ⟨by rw [← Ez.out]; exact newt_ge hk HY0.out, by have := HR.out.2; omega⟩, hz⟩
        case measure => rw [magOf_eq HV10.out, magOf_eq HY.out]; exact hlt
      · have g : decide ((0 : Int) ≤ sgn z y) = true := by
          rcases Nat.eq_or_lt_of_le hge with h | h
          · rw [h, sgn_eq]; rfl
          · rw [sgn_gt h]; rfl
        have hw := Bt HBr.out HB10.out
        have HE : Hid (y = iroot k a) := zh (newt_end hk HY0.out HR.out.1 (by rw [Ez.out]; exact hge))
        go_wp2_with fail
        go_ret
        exact ⟨_, rfl, hw, by rw [← HE.out]; exact HYZ.out⟩
end Go.Proofs.whole
namespace Go.Proofs.whole
open Go Go.RowKit Go.SW Go.Num Go.Mem Go.Proofs Go.Dec Go.Fra
def wtV (z : Int) : Value := if okn z.natAbs = true then .tuple #[itxt z, .int .i64 0] else .tuple #[.string ⟨#[]⟩, .int .i64 6]
theorem write_ok (v : Value) (z : Int) (w : World) (h : IntV w v z) (kz : sz 1000000000 z.natAbs ≤ 1099511627776) (ht : Bld.Pow w) :
    Calls Tryz.prog 127 #[v] w (fun e w' => e = .returned (wtV z) ∧ Below w.heap.size w w') := by
  obtain ⟨pa, l, ca, rfl, hm⟩ := h
  have hlen : ((1 + (Lib.decDigits z.natAbs).length : Nat) : Int) ≤ 9223372036854775807 := by
    have h1 := dec_len_val (dig_digs (B := 1000000000) zo z.natAbs)
    rw [val_digs zo] at h1
    unfold sz at kz
    omega
  have hlen2 : ¬ 9223372036854775807 < 1 + (Lib.decDigits z.natAbs).length := by omega
  have HLE := zh (fun W (hW : Below w.heap.size w W) => length_ok _ z.natAbs W (hm.later hW) kz (ht.later hW))
  have HDI := zh (fun W (hW : Below w.heap.size w W) => digits_ok _ z.natAbs W (hm.later hW) kz (ht.later hW))
  unfold wtV
  clear hm kz ht hlen
  rcases Nat.lt_or_ge 600 (Lib.decDigits z.natAbs).length with hb | hb
  · rw [if_neg (by rw [okn_no hb]; decide)]
    have g : decide ((600 : Int) < ((Lib.decDigits z.natAbs).length : Int)) = true := by simp; omega
    clear hb hlen2
    generalize (Lib.decDigits z.natAbs).length = n at *
    generalize decide (z < 0) = b at *
    go_enter Tryz.func127, Tryz.ntmps127
    go_wp2_with fail
    refine (HLE.out _ belA).mono ?_
    rintro e w1 ⟨rfl, hb1⟩
    have hw := Bt (show Below w.heap.size w (w.alloc (.cells #[.slice pa l ca, .bool b] 167)) from belA) hb1
    go_wp2_with fail
    go_ret2
    exact ⟨rfl, hw⟩
  · rw [if_pos (okn_len.2 hb)]
    have g : decide ((600 : Int) < ((Lib.decDigits z.natAbs).length : Int)) = false := by simp; omega
    by_cases hz : z < 0
    · have e : itxt z = .string ⟨(45 :: Lib.decDigits z.natAbs).toArray⟩ := by unfold itxt Lib.itoa; rw [if_pos hz]
      rw [e, decide_eq_true hz]
      clear e hz hb
      go_enter Tryz.func127, Tryz.ntmps127
      go_wp2_with fail
      refine (HLE.out _ belA).mono ?_
      rintro e w1 ⟨rfl, hb1⟩
      have hx := Box.later (Box.new w #[.slice pa l ca, .bool true] 167) hb1
      have cx := hx.cell
      have lx := hx.lt
      have HW := zh (Bt (show Below w.heap.size w (w.alloc (.cells #[.slice pa l ca, .bool true] 167)) from belA) hb1)
      go_wp2_with fail
      refine (HDI.out _ HW.out).mono ?_
      rintro e w2 ⟨rfl, hb2⟩
      have hw := Bt HW.out hb2
      go_wp2_with fail
      go_ret2
      exact ⟨rfl, hw⟩
    · have e : itxt z = .string ⟨(Lib.decDigits z.natAbs).toArray⟩ := by unfold itxt Lib.itoa; rw [if_neg hz, show z.toNat = z.natAbs by omega]
      rw [e, decide_eq_false hz]
      clear e hz hb
      go_enter Tryz.func127, Tryz.ntmps127
      go_wp2_with fail
      refine (HLE.out _ belA).mono ?_
      rintro e w1 ⟨rfl, hb1⟩
      have hx := Box.later (Box.new w #[.slice pa l ca, .bool false] 167) hb1
      have cx := hx.cell
      have lx := hx.lt
      have HW := zh (Bt (show Below w.heap.size w (w.alloc (.cells #[.slice pa l ca, .bool false] 167)) from belA) hb1)
      go_wp2_with fail
      refine (HDI.out _ HW.out).mono ?_
      rintro e w2 ⟨rfl, hb2⟩
      have hw := Bt HW.out hb2
      go_wp2_with fail
      go_ret2
      exact ⟨rfl, hw⟩
theorem okn_le {a b : Nat} (h : okn b = true) (hab : a ≤ b) : okn a = true := by
  unfold okn at *
  have := of_decide_eq_true h
  exact decide_eq_true zo
theorem iroot_self {k a : Nat} (hk : 1 ≤ k) : iroot k a ≤ a := by
  have h := (iroot_spec hk a).1
  rcases Nat.eq_zero_or_pos (iroot k a) with h0 | h0
  · omega
  · have := Nat.le_self_pow (by omega : k ≠ 0) (iroot k a)
    omega
theorem wtV_ok {a : Nat} (h : okn a = true) : wtV (a : Int) = .tuple #[itxt (a : Int), .int .i64 0] := by
  unfold wtV
  rw [Int.natAbs_natCast, if_pos h]
theorem Root_ok (a k : Nat) (ha : okn a = true) (hk : 1 ≤ k) (k12 : k ≤ 12) (w : World) (ht : Bld.Pow w) :
    Calls Tryz.prog 110 #[itxt (a : Int), .int .i64 (k : Int)] w (fun e w' => e = .returned (.tuple #[itxt (iroot k a : Nat), .int .i64 0]) ∧ Below w.heap.size w w') := by
  have hd : (Lib.decDigits a).length ≤ 600 := okn_len.1 ha
  have hs := okn_sz ha
  have hro : okn (iroot k a) = true := okn_le ha (iroot_self hk)
  have HR := zh (fun W => readV_ok (a : Int) (by rw [Int.natAbs_natCast]; exact hd) W)
  have HRT := zh (fun x W hx hp => root_ok x a k W hx hk k12 zo zo hp)
  have HWR := zh (fun v W h hp => write_ok v (iroot k a : Nat) W h (by rw [Int.natAbs_natCast]; exact Nat.le_trans (okn_sz hro) zo) hp)
  rw [wtV_ok hro] at HWR
  have HP := zh ht
  have g0 : decide ((a : Int) < 0) = false := by simp
  have g1 : decide ((k : Int) < 1) = false := by simp; omega
  have g2 : decide ((12 : Int) < (k : Int)) = false := by simp; omega
  clear hd hs hro ha ht
  obtain ⟨r, Er⟩ : ∃ r, iroot k a = r := ⟨_, rfl⟩
  rw [Er] at HRT HWR ⊢
  clear Er
  unfold itxt at HR HWR ⊢
  generalize (⟨(Lib.itoa (a : Int)).toArray⟩ : ByteArray) = ta at *
  generalize (⟨(Lib.itoa (r : Int)).toArray⟩ : ByteArray) = tr at *
  go_enter Tryz.func110, Tryz.ntmps110
  go_wp2_with fail
  refine (HR.out _).mono ?_
  rintro e w1 ⟨v, rfl, hb1, hv⟩
  obtain ⟨pa, l, ca, rfl, hm⟩ := hv
  rw [Int.natAbs_natCast] at hm
  rw [g0]
  have HM := zh hm
  have HB1 := zh hb1
  clear hm hb1
  go_wp2_with fail
  have hb2 : Below w1.heap.size w1 (w1.alloc (.cells #[.slice pa l ca, .bool false] 167)) := belA
  refine (HRT.out _ _ (HM.out.later hb2) (HP.out.later (Bt HB1.out hb2))).mono ?_
  rintro e w2 ⟨v, rfl, hb3, hv⟩
  obtain ⟨p2, l2, c2, rfl⟩ := hv.slice
  have HM2 := zh hv
  have HB2 := zh (Bt HB1.out (Bt hb2 hb3))
  clear hv hb2 hb3
  go_wp2_with fail
  refine (signed_ok _ r false _ HM2.out).mono ?_
  rintro e w3 ⟨v, rfl, hb4, hv⟩
  obtain ⟨p3, l3, c3, rfl, hm3⟩ := id hv
  have HI := zh (hv.cast (show sgd r false = (r : Int) from rfl))
  have HB3 := zh (Bt HB2.out hb4)
  have g3 : decide (sgd r false < 0) = false := by unfold sgd; simp
  rw [g3] at HI ⊢
  clear hv hm3 hb4
  go_wp2_with fail
  refine (HWR.out _ _ HI.out (HP.out.later HB3.out)).mono ?_
  rintro e w4 ⟨rfl, hb5⟩
  have hw := Bt HB3.out hb5
  go_wp2_with fail
  go_ret2
  exact ⟨rfl, hw⟩
theorem Pow_ok (a n : Nat) (ha : okn a = true) (n40 : n ≤ 40) (w : World) (ht : Bld.Pow w) :
    Calls Tryz.prog 80 #[itxt (a : Int), .int .i64 (n : Int)] w (fun e w' => e = .returned (wtV (a ^ n : Nat)) ∧ Below w.heap.size w w') := by
  have hd : (Lib.decDigits a).length ≤ 600 := okn_len.1 ha
  have hs := okn_sz ha
  have hp : ∀ i, i ≤ n → sz 1000000000 (a ^ i) ≤ 10000 := fun i hi => Nat.le_trans (sz_pow hs i) (by have := Nat.mul_le_mul_left 67 (show i ≤ 40 by omega); omega)
  have HR := zh (fun W => readV_ok (a : Int) (by rw [Int.natAbs_natCast]; exact hd) W)
  have HRT := zh (fun x W hx => power_ok x a n W hx zo (fun i hi => Nat.le_trans (hp i hi) zo) zo)
  have HWR := zh (fun v W h hq => write_ok v (a ^ n : Nat) W h (by rw [Int.natAbs_natCast]; exact Nat.le_trans (hp n (Nat.le_refl _)) zo) hq)
  have HP := zh ht
  have g0 : decide ((a : Int) < 0) = false := by simp
  have g1 : decide ((n : Int) < 0) = false := by simp
  have g2 : decide ((40 : Int) < (n : Int)) = false := by simp; omega
  clear hd hs hp ha ht
  obtain ⟨r, Er⟩ : ∃ r, a ^ n = r := ⟨_, rfl⟩
  rw [Er] at HRT HWR ⊢
  clear Er
  obtain ⟨tr, kr, Ew⟩ : ∃ tr kr, wtV (r : Int) = .tuple #[.string tr, .int .i64 kr] := by
    unfold wtV itxt
    split
    · exact ⟨_, _, rfl⟩
    · exact ⟨_, _, rfl⟩
  rw [Ew] at HWR ⊢
  clear Ew
  unfold itxt at HR ⊢
  generalize (⟨(Lib.itoa (a : Int)).toArray⟩ : ByteArray) = ta at *
  go_enter Tryz.func80, Tryz.ntmps80
  go_wp2_with fail
  refine (HR.out _).mono ?_
  rintro e w1 ⟨v, rfl, hb1, hv⟩
  obtain ⟨pa, l, ca, rfl, hm⟩ := hv
  rw [Int.natAbs_natCast] at hm
  rw [g0]
  have HM := zh hm
  have HB1 := zh hb1
  clear hm hb1
  go_wp2_with fail
  obtain ⟨wx, EW, hz, X⟩ := al1 w1 #[.slice pa l ca, .bool false] 167
  rw [EW]
  clear EW
  replace HM := zh (HM.out.later hz)
  have HB2 := zh (Bt HB1.out hz)
  clear hz HB1
  obtain ⟨bx, eb⟩ : ∃ y, w1.heap.size = y := ⟨_, rfl⟩
  rw [eb] at X ⊢
  have cX := X.out.cell
  have lX := X.out.lt
  refine wp_region_walk [(.pure, 0), (.read, 1), (.pure, 2), (.pure, 4), (.read, 5), (.ext, 3), (.pure, 6), (.pure, 7), (.pure, 8), (.pure, 9), (.pure, 10), (.ext, 11), (.ext, 12), (.pure, 13), (.pure, 14), (.fin, 15), (.fin, 16)] zk zk zR zP ?_
  repeat (first | (refine walk_pure0 rfl rfl fun J h => ?_; go_simp; refine h _ ?_; clear h J) | (refine walk_load rfl rfl rfl rfl fun J h => ?_; go_simp; refine h _ ?_; clear h J; try go_simp) | (refine walk_pureG rfl rfl fun J h => ?_; go_simp; refine h _ ?_; clear h J) | (refine walk_loadG rfl rfl rfl rfl fun J h => ?_; go_simp; refine h _ ?_; clear h J; try go_simp))
  refine walk_ext rfl rfl (fun we hbe J hJ => ?_); go_simp
  have h1 : Below wx.heap.size wx we := belA
  refine (HRT.out _ _ (HM.out.later h1)).mono ?_
  rintro e w2 ⟨v, rfl, hb2, hv⟩
  obtain ⟨p2, l2, c2, rfl⟩ := hv.slice
  refine hJ _ _ hb2 ?_
  clear hJ J
  have HM2 := zh hv
  have h2 := Bt h1 hb2
  clear hv h1 hbe hb2
  repeat (first | (refine walk_pure0 rfl rfl (fun J hJ => ?_); go_simp; refine hJ _ ?_; clear hJ J) | (refine walk_skip rfl rfl rfl (fun J hJ => ?_); go_simp; refine hJ _ ?_; clear hJ J))
  refine walk_ext rfl rfl (fun we hbe J hJ => ?_); go_simp
  have h3 : Below w2.heap.size w2 we := belA
  refine (signed_ok _ r false _ (HM2.out.later h3)).mono ?_
  rintro e w3 ⟨v, rfl, hb3, hv⟩
  obtain ⟨p3, l3, c3, rfl, hm3⟩ := id hv
  have HI := zh (hv.cast (show sgd r false = (r : Int) from rfl))
  have g3 : decide (sgd r false < 0) = false := by unfold sgd; simp
  rw [g3] at HI ⊢
  refine hJ _ _ hb3 ?_
  clear hJ J
  have h4 := Bt h2 (Bt h3 hb3)
  clear hv hm3 hb3 h3 h2 hbe
  repeat (first | (refine walk_pure0 rfl rfl (fun J hJ => ?_); go_simp; refine hJ _ ?_; clear hJ J) | (refine walk_skip rfl rfl rfl (fun J hJ => ?_); go_simp; refine hJ _ ?_; clear hJ J))
  refine walk_ext rfl rfl (fun we hbe J hJ => ?_); go_simp
  have h5 : Below w3.heap.size w3 we := belA
  refine (HWR.out _ _ (HI.out.later h5) (HP.out.later (Bt HB2.out (Bt h4 h5)))).mono ?_
  rintro e w4 ⟨rfl, hb4⟩
  refine hJ _ _ hb4 ?_
  clear hJ J
  have h6 := Bt h4 (Bt h5 hb4)
  clear hb4 h5 h4 hbe
  repeat (first | (refine walk_pure0 rfl rfl (fun J hJ => ?_); go_simp; refine hJ _ ?_; clear hJ J) | (refine walk_skip rfl rfl rfl (fun J hJ => ?_); go_simp; refine hJ _ ?_; clear hJ J))
  refine walk_fin [_, _] rfl (fun wf hbf => ?_)
  have hw : Below w.heap.size w wf := Bt HB2.out (Bt h6 belA)
  go_wp2_with fail
  go_ret2
  exact ⟨rfl, hw⟩
end Go.Proofs.whole
namespace Go.Mem
open Go Go.RowKit
section
variable {P : Program} {fn : Func} {R : Ending → World → Prop} {w : World} {tmps : Array Value}
theorem results_cct {p q u : Tmp} {ty ty2 : TypeId} (h : fn.results = #[.cell p ty, .cell q ty2, .tmp u]) :
    (results fn tmps).run P w = ((asAddr (tmps.getD p undef)).run P w).andThen fun a w₁ => ((loadVar ty a).run P w₁).andThen fun v w₂ => ((asAddr (tmps.getD q undef)).run P w₂).andThen fun a' w₃ => ((loadVar ty2 a').run P w₃).andThen fun v' w₄ => .ok (.tuple #[v, v', tmps.getD u undef]) w₄ := by
  simp only [results, h]
  simp [Sem.run_bind, Result.andThen]
theorem ret_cct {p q u : Tmp} {ty ty2 t t2 : TypeId} {g g2 : Nat} {cs cs2 : Array Value} {d d2 : TypeDesc} (h : fn.results = #[.cell p ty, .cell q ty2, .tmp u])
    (hp : tmps.getD p undef = .pointer (some ⟨g, 0, none⟩)) (hg : Box w g cs t) (hu : P.underlying ty = some d) (hd : (match d with | .struct _ | .array _ _ => true | _ => false) = true) (hi : (P.info? ty).map (·.size) = some cs.size)
    (hp2 : tmps.getD q undef = .pointer (some ⟨g2, 0, none⟩)) (hg2 : Box w g2 cs2 t2) (hu2 : P.underlying ty2 = some d2) (hd2 : (match d2 with | .struct _ | .array _ _ => true | _ => false) = true) (hi2 : (P.info? ty2).map (·.size) = some cs2.size)
    (k : R (.returned (.tuple #[.agg cs, .agg cs2, tmps.getD u undef])) w) : bodyPost P fn R .ret { tmps := tmps, defers := [] } w := by
  have e : (results fn tmps).run P w = .ok (.tuple #[.agg cs, .agg cs2, tmps.getD u undef]) w := by
    rw [results_cct h, hp]
    simp only [asAddr, Sem.run_pure, Result.andThen_ok]
    rw [run_loadVar_row w g t ty cs (0, 0) d hg hu hd hi]
    simp only [Result.andThen_ok]
    rw [hp2]
    simp only [asAddr, Sem.run_pure, Result.andThen_ok]
    rw [run_loadVar_row w g2 t2 ty2 cs2 (0, 0) d2 hg2 hu2 hd2 hi2]
    rfl
  refine bodyPost_ret e rfl k
end
end Go.Mem
namespace Go.Proofs.whole
open Go Go.RowKit Go.SW Go.Num Go.Mem Go.Proofs Go.Dec Go.Fra
theorem pair_ok (a b : Nat) (ha : (Lib.decDigits a).length ≤ 600) (hb : (Lib.decDigits b).length ≤ 600) (w : World) :
    Calls Tryz.prog 140 #[itxt (a : Int), itxt (b : Int)] w (fun e w' => ∃ p1 l1 c1 p2 l2 c2, e = .returned (.tuple #[.agg #[.slice p1 l1 c1, .bool false], .agg #[.slice p2 l2 c2, .bool false], .int .i64 0]) ∧ Below w.heap.size w w' ∧ Mag w' (.slice p1 l1 c1) a ∧ Mag w' (.slice p2 l2 c2) b) := by
  have RA : Hid (∀ W, Calls Tryz.prog 126 #[itxt (a : Int)] W (fun e w' => ∃ p l c, e = .returned (.tuple #[.agg #[.slice p l c, .bool false], .bool true]) ∧ Below W.heap.size W w' ∧ Mag w' (.slice p l c) a)) := zh fun W => (readV_ok (a : Int) (by rw [Int.natAbs_natCast]; exact ha) W).mono fun e w' ⟨v, h1, h2, p, l, c, h3, h4⟩ => by
    rw [Int.natAbs_natCast] at h4
    have g0 : decide ((a : Int) < 0) = false := by simp
    rw [g0] at h3
    exact ⟨p, l, c, by rw [h1, h3], h2, h4⟩
  have RB : Hid (∀ W, Calls Tryz.prog 126 #[itxt (b : Int)] W (fun e w' => ∃ p l c, e = .returned (.tuple #[.agg #[.slice p l c, .bool false], .bool true]) ∧ Below W.heap.size W w' ∧ Mag w' (.slice p l c) b)) := zh fun W => (readV_ok (b : Int) (by rw [Int.natAbs_natCast]; exact hb) W).mono fun e w' ⟨v, h1, h2, p, l, c, h3, h4⟩ => by
    rw [Int.natAbs_natCast] at h4
    have g0 : decide ((b : Int) < 0) = false := by simp
    rw [g0] at h3
    exact ⟨p, l, c, by rw [h1, h3], h2, h4⟩
  clear ha hb
  unfold itxt at *
  generalize (⟨(Lib.itoa (a : Int)).toArray⟩ : ByteArray) = ta at *
  generalize (⟨(Lib.itoa (b : Int)).toArray⟩ : ByteArray) = tb at *
  go_enter Tryz.func140, Tryz.ntmps140
  go_wp2_with fail
  obtain ⟨wq1, EW, hz, X1, X2⟩ := al2 w #[.slice none 0 0, .bool false] 167 #[.slice none 0 0, .bool false] 167
  rw [EW]
  have hk2 := Bt (Below.refl _ _) hz
  clear EW hz
  refine (RA.out _).mono ?_
  rintro e wc3 ⟨p1, l1, c1, rfl, hb3, hm⟩
  replace X1 := X1.bl hb3
  replace X2 := X2.bl hb3
  have hk5 := Bt hk2 hb3
  clear hk2
  have NX := zh hm
  clear hb3 hm
  obtain ⟨cX1, lX1, fX1⟩ := X1.clf
  go_wp2_with fail
  clear cX1 lX1 fX1
  have hz : Below w.heap.size w ((wc3.setCell ⟨w.heap.size, 0, none⟩ (.slice p1 l1 c1)).setCell ⟨w.heap.size, 1, none⟩ (.bool false)) := belA
  obtain ⟨wq6, EW⟩ : ∃ y, ((wc3.setCell ⟨w.heap.size, 0, none⟩ (.slice p1 l1 c1)).setCell ⟨w.heap.size, 1, none⟩ (.bool false)) = y := ⟨_, rfl⟩
  have tX1 := ((X1.out.set 0 (.slice p1 l1 c1)).set 1 (.bool false))
  have tX2 := ((X2.out.setOther (a := ⟨w.heap.size, 0, none⟩) (.slice p1 l1 c1) (by first | assumption | (simp; done) | (simp; omega))).setOther (a := ⟨w.heap.size, 1, none⟩) (.bool false) (by first | assumption | (simp; done) | (simp; omega)))
  have tNX := ((NX.out.setOther X1.out zd 0 (.slice p1 l1 c1)).setOther (X1.out.set 0 (.slice p1 l1 c1)) zd 1 (.bool false))
  rw [EW] at tX1
  replace X1 : Hid (Box wq6 (w.heap.size) #[.slice p1 l1 c1, .bool false] 167) := zh tX1
  clear tX1
  rw [EW] at tX2
  replace X2 : Hid (Box wq6 (w.heap.size + 1) #[.slice none 0 0, .bool false] 167) := zh tX2
  clear tX2
  rw [EW] at tNX
  replace NX := zh tNX
  clear tNX
  rw [EW] at hz ⊢
  clear EW
  clear hk5
  have hk6 := hz
  clear hz
  refine (RB.out _).mono ?_
  rintro e wc7 ⟨p2, l2, c2, rfl, hb7, hm⟩
  replace X1 := X1.bl hb7
  replace X2 := X2.bl hb7
  replace NX := zh (NX.out.later hb7)
  have hk9 := Bt hk6 hb7
  clear hk6
  have NY := zh hm
  clear hb7 hm
  obtain ⟨cX2, lX2, fX2⟩ := X2.clf
  have HK := zh hk9
  obtain ⟨wl, Ewl⟩ : ∃ y, y = wc7 := ⟨_, rfl⟩
  subst Ewl
  have c1' := X1.out.cell
  have l1' := X1.out.lt
  have f1' := X1.out.free
  have c2' := X2.out.cell
  have l2' := X2.out.lt
  have f2' := X2.out.free
  go_wp2_with fail
  go_region
  go_wp2_with fail
  have hw := HK.out
  have hx1 := X1.out
  have hx2 := X2.out
  refine ret_cct rfl rfl boxA Tryz.underlying167 rfl zk rfl boxA Tryz.underlying167 rfl zk ?_
  exact ⟨_, _, _, _, _, _, rfl, belA, magA, magA⟩
end Go.Proofs.whole
namespace Go.Proofs.whole
open Go Go.RowKit Go.SW Go.Num Go.Mem Go.Proofs Go.Dec
theorem product_ok (v u : Value) (z y : Int) (w : World) (h : IntV w v z) (h2 : IntV w u y) (kz : sz 1000000000 z.natAbs ≤ 549755813888) (ky : sz 1000000000 y.natAbs ≤ 549755813888) :
    Calls Tryz.prog 179 #[v, u] w (fun e w' => ∃ v, e = .returned v ∧ Below w.heap.size w w' ∧ IntV w' v (z * y)) := by
  obtain ⟨paH, lH, caH, rfl, H⟩ := h; replace H := zh H
  obtain ⟨paH2, lH2, caH2, rfl, H2⟩ := h2; replace H2 := zh H2
  have KZ := zh kz
  have KY := zh ky
  clear kz ky
  go_enter Tryz.func179, Tryz.ntmps179
  go_wp2_with fail
  refine wp_region_walk [(.pure, 0), (.read, 1), (.pure, 2), (.read, 3), (.pure, 5), (.read, 6), (.pure, 7), (.read, 8), (.pure, 9), (.ext, 4), (.ext, 10), (.fin, 11)] zk zk zR zP ?_
  repeat (first | (refine walk_pure0 rfl rfl fun J h => ?_; go_simp; refine h _ ?_; clear h J) | (refine walk_load rfl rfl rfl rfl fun J h => ?_; go_simp; refine h _ ?_; clear h J; try go_simp))
  refine walk_ext rfl rfl (fun w1 hb1 J hJ => ?_); go_simp
  have BR := Box.later (Box.drew (Box.at2 _ _ _ _ _)) hb1; have cBR := BR.cell; have fBR := BR.free
  refine (times_ok _ _ z.natAbs y.natAbs _ magA magA (Nat.le_trans KZ.out zo) (Nat.le_trans KY.out zo)).mono ?_
  rintro e v1 ⟨v, rfl, hc1, hv⟩
  obtain ⟨paHS, lHS, caHS, rfl⟩ := hv.slice; have HS := zh hv; clear hv
  replace BR := Box.later (BR) hc1; replace cBR := BR.cell; replace fBR := BR.free
  refine hJ _ _ hc1 ?_
  clear hJ J
  refine walk_ext rfl rfl (fun w2 hb2 J hJ => ?_); go_simp
  replace BR := Box.later (BR) hb2; replace cBR := BR.cell; replace fBR := BR.free
  refine (signed_ok _ (z.natAbs * y.natAbs) _ _ magA).mono ?_
  rintro e v2 ⟨v, rfl, hc2, hv⟩
  obtain ⟨paHT, lHT, caHT, rfl, HT⟩ := hv; replace HT := zh HT
  replace BR := Box.later (BR) hc2; replace cBR := BR.cell; replace fBR := BR.free
  refine hJ _ _ hc2 ?_
  clear hJ J
  refine walk_fin [_] rfl (fun w5 hb5 => ?_)
  replace BR := Box.later (BR) hb5; replace cBR := BR.cell; replace fBR := BR.free
  go_wp2_with fail
  refine ret_c rfl rfl boxA Tryz.underlying167 rfl zk ?_
  exact ⟨_, rfl, belA, (IntV.of_neg magA).cast (sgd_prod z y)⟩
end Go.Proofs.whole
namespace Go.Proofs.whole
open Go Go.RowKit Go.SW Go.Num Go.Mem Go.Proofs Go.Dec Go.Fra
theorem operateMul_ok (a b : Nat) (ha : okn a = true) (hb : okn b = true) (w : World) (ht : Bld.Pow w) :
    Calls Tryz.prog 138 #[.int .i64 2, itxt (a : Int), itxt (b : Int)] w (fun e w' => e = .returned (wtV (a * b : Nat)) ∧ Below w.heap.size w w') := by
  have sa := okn_sz ha
  have sb := okn_sz hb
  have sr : sz 1000000000 (a * b) ≤ 1000 := by
    have h1 := sz_mul (B := 1000000000) zo a b
    have h2 := sz_add (B := 1000000000) zo a b
    omega
  have HPR := zh (fun W => pair_ok a b (okn_len.1 ha) (okn_len.1 hb) W)
  have HOP := zh (fun v u W hv hu => product_ok v u (a : Int) (b : Int) W hv hu (by rw [Int.natAbs_natCast]; omega) (by rw [Int.natAbs_natCast]; omega))
  have HWR := zh (fun v W h hq => write_ok v (a * b : Nat) W h (by rw [Int.natAbs_natCast]; omega) hq)
  have HP := zh ht
  clear sa sb sr ha hb ht
  have e : (a : Int) * (b : Int) = ((a * b : Nat) : Int) := by simp
  rw [e] at HOP
  have g0 : decide ((a : Int) < 0) = false := by simp
  have g1 : decide ((b : Int) < 0) = false := by simp
  have IA : Hid (∀ W p l c, Mag W (.slice p l c) a → IntV W (.agg #[.slice p l c, .bool false]) (a : Int)) := zh fun W p l c h => ⟨p, l, c, by rw [g0], by rw [Int.natAbs_natCast]; exact h⟩
  have IB : Hid (∀ W p l c, Mag W (.slice p l c) b → IntV W (.agg #[.slice p l c, .bool false]) (b : Int)) := zh fun W p l c h => ⟨p, l, c, by rw [g1], by rw [Int.natAbs_natCast]; exact h⟩
  clear e g0 g1
  obtain ⟨r, Er⟩ : ∃ r, a * b = r := ⟨_, rfl⟩
  rw [Er] at HOP HWR ⊢
  clear Er
  obtain ⟨tr, kr, Ew⟩ : ∃ tr kr, wtV (r : Int) = .tuple #[.string tr, .int .i64 kr] := by
    unfold wtV itxt
    split
    · exact ⟨_, _, rfl⟩
    · exact ⟨_, _, rfl⟩
  rw [Ew] at HWR ⊢
  clear Ew
  unfold itxt at HPR ⊢
  generalize (⟨(Lib.itoa (a : Int)).toArray⟩ : ByteArray) = ta at *
  generalize (⟨(Lib.itoa (b : Int)).toArray⟩ : ByteArray) = tb at *
  go_enter Tryz.func138, Tryz.ntmps138
  go_wp2_with fail
  refine (HPR.out _).mono ?_
  rintro e w1 ⟨p1, l1, c1, p2, l2, c2, rfl, hb1, hx, hy⟩
  have HX := zh hx
  have HY := zh hy
  have HB1 := zh hb1
  clear hx hy hb1
  go_wp2_with fail
  obtain ⟨wx, EW, hz, X1, X2, X3⟩ := al3 w1 #[.slice p1 l1 c1, .bool false] 167 #[.slice p2 l2 c2, .bool false] 167 #[.func (.func 177) #[] #[], .func (.func 178) #[] #[], .func (.func 179) #[] #[], .func (.func 180) #[] #[]] 224
  rw [EW]
  clear EW
  replace HX := zh (HX.out.later hz)
  replace HY := zh (HY.out.later hz)
  have HB2 := zh (Bt HB1.out hz)
  clear hz HB1
  obtain ⟨bx, eb⟩ : ∃ y, w1.heap.size = y := ⟨_, rfl⟩
  rw [eb] at X1 X2 X3 ⊢
  have cX1 := X1.out.cell
  have lX1 := X1.out.lt
  have cX2 := X2.out.cell
  have lX2 := X2.out.lt
  have cX3 := X3.out.cell
  have lX3 := X3.out.lt
  refine wp_region_walk [(.pure, 0), (.pure, 1), (.pure, 2), (.read, 3), (.read, 4), (.read, 5), (.ext, 6), (.ext, 7), (.pure, 8), (.pure, 9), (.fin, 10), (.fin, 11)] zk zk zR zP ?_
  repeat (first | (refine walk_pure0 rfl rfl fun J h => ?_; go_simp; refine h _ ?_; clear h J) | (refine walk_load rfl rfl rfl rfl fun J h => ?_; go_simp; refine h _ ?_; clear h J; try go_simp))
  refine walk_ext rfl rfl (fun we hbe J hJ => ?_); go_simp
  have h1 : Below wx.heap.size wx we := belA
  refine (HOP.out _ _ _ (IA.out _ _ _ _ (HX.out.later h1)) (IB.out _ _ _ _ (HY.out.later h1))).mono ?_
  rintro e w2 ⟨v, rfl, hb2, hv⟩
  obtain ⟨p3, l3, c3, rfl, hm3⟩ := id hv
  have HI := zh hv
  generalize decide ((r : Int) < 0) = br at *
  refine hJ _ _ hb2 ?_
  clear hJ J
  have h2 := Bt h1 hb2
  clear hv h1 hbe hb2 hm3
  repeat (first | (refine walk_pure0 rfl rfl fun J h => ?_; go_simp; refine h _ ?_; clear h J) | (refine walk_load rfl rfl rfl rfl fun J h => ?_; go_simp; refine h _ ?_; clear h J; try go_simp))
  refine walk_ext rfl rfl (fun we hbe J hJ => ?_); go_simp
  have h5 : Below w2.heap.size w2 we := belA
  refine (HWR.out _ _ (HI.out.later h5) (HP.out.later (Bt HB2.out (Bt h2 h5)))).mono ?_
  rintro e w4 ⟨rfl, hb4⟩
  refine hJ _ _ hb4 ?_
  clear hJ J
  have h6 := Bt h2 (Bt h5 hb4)
  clear hb4 h5 h2 hbe
  repeat (first | (refine walk_pure0 rfl rfl fun J h => ?_; go_simp; refine h _ ?_; clear h J) | (refine walk_load rfl rfl rfl rfl fun J h => ?_; go_simp; refine h _ ?_; clear h J; try go_simp))
  refine walk_fin [_, _] rfl (fun wf hbf => ?_)
  have hw : Below w.heap.size w wf := Bt HB2.out (Bt h6 belA)
  go_wp2_with fail
  go_ret2
  exact ⟨rfl, hw⟩
theorem Mul_ok (a b : Nat) (ha : okn a = true) (hb : okn b = true) (w : World) (ht : Bld.Pow w) :
    Calls Tryz.prog 97 #[itxt (a : Int), itxt (b : Int)] w (fun e w' => e = .returned (wtV (a * b : Nat)) ∧ Below w.heap.size w w') := by
  have H := zh (operateMul_ok a b ha hb w ht)
  obtain ⟨tr, kr, Ew⟩ : ∃ tr kr, wtV (a * b : Nat) = .tuple #[.string tr, .int .i64 kr] := by
    unfold wtV itxt
    split
    · exact ⟨_, _, rfl⟩
    · exact ⟨_, _, rfl⟩
  rw [Ew] at H ⊢
  clear Ew ha hb ht
  unfold itxt at *
  generalize (⟨(Lib.itoa (a : Int)).toArray⟩ : ByteArray) = ta at *
  generalize (⟨(Lib.itoa (b : Int)).toArray⟩ : ByteArray) = tb at *
  go_enter Tryz.func97, Tryz.ntmps97
  go_wp2_with fail
  refine H.out.mono ?_
  rintro e w1 ⟨rfl, hb1⟩
  go_wp2_with fail
  go_ret2
  exact ⟨rfl, hb1⟩
theorem operateAdd_ok (a b : Nat) (ha : okn a = true) (hb : okn b = true) (w : World) (ht : Bld.Pow w) :
    Calls Tryz.prog 138 #[.int .i64 0, itxt (a : Int), itxt (b : Int)] w (fun e w' => e = .returned (wtV (a + b : Nat)) ∧ Below w.heap.size w w') := by
  have sa := okn_sz ha
  have sb := okn_sz hb
  have sr : sz 1000000000 (a + b) ≤ 1000 := by
    have h1 := sz_mul (B := 1000000000) zo a b
    have h2 := sz_add (B := 1000000000) zo a b
    omega
  have HPR := zh (fun W => pair_ok a b (okn_len.1 ha) (okn_len.1 hb) W)
  have HOP := zh (fun v u W hv hu => sum_ok v u (a : Int) (b : Int) W hv hu (by rw [Int.natAbs_natCast]; omega) (by rw [Int.natAbs_natCast]; omega))
  have HWR := zh (fun v W h hq => write_ok v (a + b : Nat) W h (by rw [Int.natAbs_natCast]; omega) hq)
  have HP := zh ht
  clear sa sb sr ha hb ht
  have e : (a : Int) + (b : Int) = ((a + b : Nat) : Int) := by simp
  rw [e] at HOP
  have g0 : decide ((a : Int) < 0) = false := by simp
  have g1 : decide ((b : Int) < 0) = false := by simp
  have IA : Hid (∀ W p l c, Mag W (.slice p l c) a → IntV W (.agg #[.slice p l c, .bool false]) (a : Int)) := zh fun W p l c h => ⟨p, l, c, by rw [g0], by rw [Int.natAbs_natCast]; exact h⟩
  have IB : Hid (∀ W p l c, Mag W (.slice p l c) b → IntV W (.agg #[.slice p l c, .bool false]) (b : Int)) := zh fun W p l c h => ⟨p, l, c, by rw [g1], by rw [Int.natAbs_natCast]; exact h⟩
  clear e g0 g1
  obtain ⟨r, Er⟩ : ∃ r, a + b = r := ⟨_, rfl⟩
  rw [Er] at HOP HWR ⊢
  clear Er
  obtain ⟨tr, kr, Ew⟩ : ∃ tr kr, wtV (r : Int) = .tuple #[.string tr, .int .i64 kr] := by
    unfold wtV itxt
    split
    · exact ⟨_, _, rfl⟩
    · exact ⟨_, _, rfl⟩
  rw [Ew] at HWR ⊢
  clear Ew
  unfold itxt at HPR ⊢
  generalize (⟨(Lib.itoa (a : Int)).toArray⟩ : ByteArray) = ta at *
  generalize (⟨(Lib.itoa (b : Int)).toArray⟩ : ByteArray) = tb at *
  go_enter Tryz.func138, Tryz.ntmps138
  go_wp2_with fail
  refine (HPR.out _).mono ?_
  rintro e w1 ⟨p1, l1, c1, p2, l2, c2, rfl, hb1, hx, hy⟩
  have HX := zh hx
  have HY := zh hy
  have HB1 := zh hb1
  clear hx hy hb1
  go_wp2_with fail
  obtain ⟨wx, EW, hz, X1, X2, X3⟩ := al3 w1 #[.slice p1 l1 c1, .bool false] 167 #[.slice p2 l2 c2, .bool false] 167 #[.func (.func 177) #[] #[], .func (.func 178) #[] #[], .func (.func 179) #[] #[], .func (.func 180) #[] #[]] 224
  rw [EW]
  clear EW
  replace HX := zh (HX.out.later hz)
  replace HY := zh (HY.out.later hz)
  have HB2 := zh (Bt HB1.out hz)
  clear hz HB1
  obtain ⟨bx, eb⟩ : ∃ y, w1.heap.size = y := ⟨_, rfl⟩
  rw [eb] at X1 X2 X3 ⊢
  have cX1 := X1.out.cell
  have lX1 := X1.out.lt
  have cX2 := X2.out.cell
  have lX2 := X2.out.lt
  have cX3 := X3.out.cell
  have lX3 := X3.out.lt
  refine wp_region_walk [(.pure, 0), (.pure, 1), (.pure, 2), (.read, 3), (.read, 4), (.read, 5), (.ext, 6), (.ext, 7), (.pure, 8), (.pure, 9), (.fin, 10), (.fin, 11)] zk zk zR zP ?_
  repeat (first | (refine walk_pure0 rfl rfl fun J h => ?_; go_simp; refine h _ ?_; clear h J) | (refine walk_load rfl rfl rfl rfl fun J h => ?_; go_simp; refine h _ ?_; clear h J; try go_simp))
  refine walk_ext rfl rfl (fun we hbe J hJ => ?_); go_simp
  have h1 : Below wx.heap.size wx we := belA
  refine (HOP.out _ _ _ (IA.out _ _ _ _ (HX.out.later h1)) (IB.out _ _ _ _ (HY.out.later h1))).mono ?_
  rintro e w2 ⟨v, rfl, hb2, hv⟩
  obtain ⟨p3, l3, c3, rfl, hm3⟩ := id hv
  have HI := zh hv
  generalize decide ((r : Int) < 0) = br at *
  refine hJ _ _ hb2 ?_
  clear hJ J
  have h2 := Bt h1 hb2
  clear hv h1 hbe hb2 hm3
  repeat (first | (refine walk_pure0 rfl rfl fun J h => ?_; go_simp; refine h _ ?_; clear h J) | (refine walk_load rfl rfl rfl rfl fun J h => ?_; go_simp; refine h _ ?_; clear h J; try go_simp))
  refine walk_ext rfl rfl (fun we hbe J hJ => ?_); go_simp
  have h5 : Below w2.heap.size w2 we := belA
  refine (HWR.out _ _ (HI.out.later h5) (HP.out.later (Bt HB2.out (Bt h2 h5)))).mono ?_
  rintro e w4 ⟨rfl, hb4⟩
  refine hJ _ _ hb4 ?_
  clear hJ J
  have h6 := Bt h2 (Bt h5 hb4)
  clear hb4 h5 h2 hbe
  repeat (first | (refine walk_pure0 rfl rfl fun J h => ?_; go_simp; refine h _ ?_; clear h J) | (refine walk_load rfl rfl rfl rfl fun J h => ?_; go_simp; refine h _ ?_; clear h J; try go_simp))
  refine walk_fin [_, _] rfl (fun wf hbf => ?_)
  have hw : Below w.heap.size w wf := Bt HB2.out (Bt h6 belA)
  go_wp2_with fail
  go_ret2
  exact ⟨rfl, hw⟩
theorem Add_ok (a b : Nat) (ha : okn a = true) (hb : okn b = true) (w : World) (ht : Bld.Pow w) :
    Calls Tryz.prog 114 #[itxt (a : Int), itxt (b : Int)] w (fun e w' => e = .returned (wtV (a + b : Nat)) ∧ Below w.heap.size w w') := by
  have H := zh (operateAdd_ok a b ha hb w ht)
  obtain ⟨tr, kr, Ew⟩ : ∃ tr kr, wtV (a + b : Nat) = .tuple #[.string tr, .int .i64 kr] := by
    unfold wtV itxt
    split
    · exact ⟨_, _, rfl⟩
    · exact ⟨_, _, rfl⟩
  rw [Ew] at H ⊢
  clear Ew ha hb ht
  unfold itxt at *
  generalize (⟨(Lib.itoa (a : Int)).toArray⟩ : ByteArray) = ta at *
  generalize (⟨(Lib.itoa (b : Int)).toArray⟩ : ByteArray) = tb at *
  go_enter Tryz.func114, Tryz.ntmps114
  go_wp2_with fail
  refine H.out.mono ?_
  rintro e w1 ⟨rfl, hb1⟩
  go_wp2_with fail
  go_ret2
  exact ⟨rfl, hb1⟩
theorem Div_ok (a b : Nat) (ha : okn a = true) (hb : okn b = true) (b0 : 0 < b) (w : World) (ht : Bld.Pow w) :
    Calls Tryz.prog 99 #[itxt (a : Int), itxt (b : Int)] w (fun e w' => e = .returned (.tuple #[itxt (a / b : Nat), itxt (a % b : Nat), .int .i64 0]) ∧ Below w.heap.size w w') := by
  have sa := okn_sz ha
  have q1 : okn (a / b) = true := okn_le ha (Nat.div_le_self _ _)
  have q2 : okn (a % b) = true := okn_le ha (Nat.mod_le _ _)
  have HPR := zh (fun W => pair_ok a b (okn_len.1 ha) (okn_len.1 hb) W)
  have HDV := zh (fun x y W hx hy => divide_ok x y a b W hx hy b0 zo)
  have HW1 := zh (fun v W h hq => write_ok v (a / b : Nat) W h (by rw [Int.natAbs_natCast]; exact Nat.le_trans (okn_sz q1) zo) hq)
  have HW2 := zh (fun v W h hq => write_ok v (a % b : Nat) W h (by rw [Int.natAbs_natCast]; exact Nat.le_trans (okn_sz q2) zo) hq)
  rw [wtV_ok q1] at HW1
  rw [wtV_ok q2] at HW2
  have HP := zh ht
  have d0 : decide (b = 0) = false := by simp; omega
  clear sa q1 q2 ha hb ht
  obtain ⟨q, Eq⟩ : ∃ q, a / b = q := ⟨_, rfl⟩
  obtain ⟨r, Er⟩ : ∃ r, a % b = r := ⟨_, rfl⟩
  rw [Eq] at HW1
  rw [Er] at HW2
  have HDV' : Hid (∀ x y W, Mag W x a → Mag W y b → Calls Tryz.prog 142 #[x, y] W (DivPost W q r)) := zh (by rw [← Eq, ← Er]; exact HDV.out)
  rw [Eq, Er]
  clear HDV Eq Er b0
  unfold itxt at *
  generalize (⟨(Lib.itoa (a : Int)).toArray⟩ : ByteArray) = ta at *
  generalize (⟨(Lib.itoa (b : Int)).toArray⟩ : ByteArray) = tb at *
  generalize (⟨(Lib.itoa (q : Int)).toArray⟩ : ByteArray) = tq at *
  generalize (⟨(Lib.itoa (r : Int)).toArray⟩ : ByteArray) = tr at *
  go_enter Tryz.func99, Tryz.ntmps99
  go_wp2_with fail
  refine (HPR.out _).mono ?_
  rintro e w1 ⟨p1, l1, c1, p2, l2, c2, rfl, hb1, hx, hy⟩
  have HX := zh hx
  have HY := zh hy
  have HB1 := zh hb1
  clear hx hy hb1
  go_upto_region 2 with fail
  obtain ⟨wx, EW, hz, X1, X2⟩ := al2 w1 #[.slice p1 l1 c1, .bool false] 167 #[.slice p2 l2 c2, .bool false] 167
  rw [EW]
  clear EW
  replace HX := zh (HX.out.later hz)
  replace HY := zh (HY.out.later hz)
  have HB2 := zh (Bt HB1.out hz)
  clear hz HB1
  obtain ⟨bx, eb⟩ : ∃ y, w1.heap.size = y := ⟨_, rfl⟩
  rw [eb] at X1 X2 ⊢
  obtain ⟨cX1, lX1⟩ := X1.cl
  obtain ⟨cX2, lX2⟩ := X2.cl
  go_wp2_with fail
  refine (zero_ok _ b _ HY.out).mono ?_
  rintro e w2 ⟨rfl, rfl⟩
  rw [d0]
  go_wp2_with fail
  refine (HDV'.out _ _ _ HX.out HY.out).mono ?_
  rintro e w3 ⟨v3, v4, rfl, hb3, hv3, hv4⟩
  obtain ⟨p3, l3, c3, rfl⟩ := hv3.slice
  obtain ⟨p4, l4, c4, rfl⟩ := hv4.slice
  have HQ := zh hv3
  have HR := zh hv4
  have HB3 := zh (Bt HB2.out hb3)
  replace X1 := X1.bl hb3
  replace X2 := X2.bl hb3
  clear hv3 hv4 hb3 HX HY HB2 cX1 lX1 cX2 lX2
  obtain ⟨cX1, lX1⟩ := X1.cl
  obtain ⟨cX2, lX2⟩ := X2.cl
  go_wp2_with fail
  refine (signed_ok _ q false _ HQ.out).mono ?_
  rintro e w4 ⟨v, rfl, hb4, hv⟩
  obtain ⟨p5, l5, c5, rfl, hm5⟩ := id hv
  have HI := zh (hv.cast (show sgd q false = (q : Int) from rfl))
  have g3 : decide (sgd q false < 0) = false := by unfold sgd; simp
  rw [g3] at HI ⊢
  have HB4 := zh (Bt HB3.out hb4)
  replace HR := zh (HR.out.later hb4)
  clear hv hm5 hb4 HB3 g3 cX1 lX1 cX2 lX2
  go_wp2_with fail
  refine (HW1.out _ _ HI.out (HP.out.later HB4.out)).mono ?_
  rintro e w5 ⟨rfl, hb5⟩
  have HB5 := zh (Bt HB4.out hb5)
  replace HR := zh (HR.out.later hb5)
  clear hb5 HB4 HI
  go_wp2_with fail
  refine (signed_ok _ r false _ HR.out).mono ?_
  rintro e w6 ⟨v, rfl, hb6, hv⟩
  obtain ⟨p6, l6, c6, rfl, hm6⟩ := id hv
  have HI := zh (hv.cast (show sgd r false = (r : Int) from rfl))
  have g3 : decide (sgd r false < 0) = false := by unfold sgd; simp
  rw [g3] at HI ⊢
  have HB6 := zh (Bt HB5.out hb6)
  clear hv hm6 hb6 HB5 g3
  go_wp2_with fail
  refine (HW2.out _ _ HI.out (HP.out.later HB6.out)).mono ?_
  rintro e w7 ⟨rfl, hb7⟩
  have hw := Bt HB6.out hb7
  go_wp2_with fail
  go_ret3
  exact ⟨rfl, hw⟩
end Go.Proofs.whole
namespace Go.Dec
open Go Go.Lib
theorem parse_digits : ∀ (l : List UInt8) (acc : Nat), DigS l → acc ≤ 18446744073709551615 → parseUintM 18446744073709551615 acc l = if acc * 10 ^ l.length + num l ≤ 18446744073709551615 then .ok (acc * 10 ^ l.length + num l) else .range
  | [], acc, _, ha => by
    simp only [parseUintM, List.length_nil, Nat.pow_zero, Nat.mul_one, num_nil, Nat.add_zero]
    rw [if_pos ha]
  | b :: l, acc, hd, ha => by
    have hb := hd b zi
    have hl : DigS l := fun x hx => hd x (by simp [hx])
    have hn : num (b :: l) = (b.toNat - 48) * 10 ^ l.length + num l := by
      have := num_append [b] l
      simp only [List.singleton_append] at this
      rw [this]
      simp [num]
    have hp : 0 < 10 ^ l.length := Nat.pow_pos zo
    have e : acc * 10 ^ (b :: l).length + num (b :: l) = (acc * 10 + (b.toNat - 48)) * 10 ^ l.length + num l := by
      rw [hn, List.length_cons, Nat.pow_succ, Nat.add_mul, Nat.add_assoc]
      congr 1
      rw [Nat.mul_assoc, Nat.mul_comm 10]
    rw [e]
    have hge : ∀ x, x ≤ x * 10 ^ l.length + num l := fun x => Nat.le_trans (Nat.le_mul_of_pos_right x hp) (Nat.le_add_right _ _)
    unfold parseUintM
    rw [if_pos hb]
    by_cases h1 : 1844674407370955162 ≤ acc
    · rw [if_pos h1, if_neg]
      have := hge (acc * 10 + (b.toNat - 48))
      omega
    · rw [if_neg h1]
      by_cases h2 : 18446744073709551615 < acc * 10 + (b.toNat - 48)
      · rw [if_pos h2, if_neg]
        have := hge (acc * 10 + (b.toNat - 48))
        omega
      · rw [if_neg h2]
        exact parse_digits l _ hl zo
theorem parse_itoa (n : Nat) : parseIntB 64 (itoa (n : Int)) = if n < 9223372036854775808 then .ok (n : Int) else .range := by
  have hi : itoa (n : Int) = decDigits n := rfl
  rw [hi]
  obtain ⟨c, r, hc⟩ : ∃ c r, decDigits n = c :: r := by
    cases h : decDigits n with
    | nil => exact absurd h (dec_ne n)
    | cons c r => exact ⟨c, r, rfl⟩
  have hd := digS_dec n
  have hn := num_dec n
  rw [hc] at hd hn ⊢
  have hcd := hd c zi
  rw [parseIntB_plain 64 c r zo zo]
  have hu : parseUintB 64 (c :: r) = parseUintM 18446744073709551615 0 (c :: r) := by
    unfold parseUintB
    rw [if_neg zi]
  rw [hu, parse_digits _ _ hd zo, hn, Nat.zero_mul, Nat.zero_add]
  have e : (2 : Nat) ^ (64 - 1) = 9223372036854775808 := by decide
  rw [e]
  by_cases h : n ≤ 18446744073709551615
  · rw [if_pos h]
    unfold signlessC
    by_cases h2 : n < 9223372036854775808
    · simp only
      rw [if_neg zo, if_pos h2]
    · simp only
      rw [if_pos zo, if_neg h2]
  · rw [if_neg h, if_neg zo]
    rfl
end Go.Dec
namespace Go.Proofs.whole
open Go Go.RowKit Go.SW Go.Num Go.Mem Go.Proofs Go.Dec Go.Fra
def Er (w : World) : Prop := ∃ tp p, w.var? Tryz.prog "strconv.ErrRange" = some #[.iface tp p] ∧ (Tryz.prog.globalNamed "strconv.ErrRange").getD 0 < w.heap.size
theorem Er.later {w w' : World} (h : Er w) (hb : Below w.heap.size w w') : Er w' := by
  obtain ⟨tp, p, h1, h2⟩ := h
  refine ⟨tp, p, var?_below hb (g := (Tryz.prog.globalNamed "strconv.ErrRange").getD 0) ?_ h2 h1, Nat.lt_of_lt_of_le h2 hb.size⟩
  exact Tryz.laysC174.m16
def intE (n : Nat) : Value := if n < 9223372036854775808 then .tuple #[.int .i64 (n : Int), .int .i64 0] else .tuple #[.int .i64 0, .int .i64 6]
theorem parse_ok (n : Nat) (hs : (Lib.itoa (n : Int)).length ≤ 601) (w : World) (he : Er w) :
    Calls Tryz.prog 152 #[itxt (n : Int), .int .i64 10, .int .i64 64] w (fun e w' => (if n < 9223372036854775808 then e = .returned (.tuple #[.int .i64 (n : Int), .nilIface]) else ∃ T p, e = .returned (.tuple #[.int .i64 (Lib.intSat 64 (Lib.itoa (n : Int))), .iface T (.pointer (some p))])) ∧ Below w.heap.size w w') := by
  have hz : (⟨(Lib.itoa (n : Int)).toArray⟩ : ByteArray).size ≤ 601 := hs
  have hp := parse_itoa n
  by_cases h : n < 9223372036854775808
  · rw [if_pos h] at hp
    refine (Tryz.strconv_ParseInt_10_at64_ok ⟨(Lib.itoa (n : Int)).toArray⟩ zo (n : Int) hp w).mono ?_
    rintro e w1 ⟨rfl, hw⟩
    refine ⟨by rw [if_pos h], ?_⟩
    rcases hw with rfl | ⟨t, rfl⟩
    · exact Below.refl _ _
    · exact Lib.bytesWorld_below _ _ _
  · rw [if_neg h] at hp
    obtain ⟨tp, p, h1, h2⟩ := he
    have hc := World.var?_cell (P := Tryz.prog) (w := w) Tryz.laysC174.m16 h1 0
    refine (Tryz.strconv_ParseInt_10_at64_range ⟨(Lib.itoa (n : Int)).toArray⟩ zo hp (.iface tp p) w hc (Or.inr ⟨tp, p, rfl⟩)).mono ?_
    rintro e w1 ⟨N, rfl, -, -, hb⟩
    refine ⟨?_, hb⟩
    rw [if_neg h]
    exact ⟨_, _, rfl⟩
theorem Int_ok (n : Nat) (hn : okn n = true) (w : World) (he : Er w) :
    Calls Tryz.prog 115 #[itxt (n : Int)] w (fun e w' => e = .returned (intE n) ∧ Below w.heap.size w w') := by
  have hd : (Lib.decDigits n).length ≤ 600 := okn_len.1 hn
  have hi : (Lib.itoa (n : Int)).length ≤ 601 := by
    have : Lib.itoa (n : Int) = Lib.decDigits n := rfl
    rw [this]
    omega
  have hw : (whole (Lib.itoa (n : Int))).isSome = true := by rw [whole_of_itoa (by rw [Int.natAbs_natCast]; exact hd)]; rfl
  have HC := zh (fun W => check_ok ⟨(Lib.itoa (n : Int)).toArray⟩ W)
  have HC : Hid (∀ W : World, Calls Tryz.prog 118 #[itxt (n : Int)] W (fun e w' => e = .returned (.int .i64 0) ∧ Below W.heap.size W w')) := zh (by
    intro W
    have := HC.out W
    rw [show (⟨(Lib.itoa (n : Int)).toArray⟩ : ByteArray).data.toList = Lib.itoa (n : Int) from rfl, hw] at this
    exact this)
  have HP := zh (fun W h => parse_ok n hi W h)
  have HE := zh he
  unfold intE
  clear hd hi hw he hn
  unfold itxt at *
  generalize Lib.itoa (n : Int) = t at *
  by_cases h : n < 9223372036854775808
  · simp only [if_pos h] at HP ⊢
    go_enter Tryz.func115, Tryz.ntmps115
    go_wp2_with fail
    refine (HC.out _).mono ?_
    rintro e w1 ⟨rfl, hb1⟩
    have HB1 := zh hb1
    clear hb1
    go_wp2_with fail
    refine (HP.out _ (HE.out.later HB1.out)).mono ?_
    rintro e w2 ⟨rfl, hb2⟩
    have hw := Bt HB1.out hb2
    clear hb2 HB1
    go_wp2_with fail
    go_ret2
    exact ⟨rfl, hw⟩
  · simp only [if_neg h] at HP ⊢
    go_enter Tryz.func115, Tryz.ntmps115
    go_wp2_with fail
    refine (HC.out _).mono ?_
    rintro e w1 ⟨rfl, hb1⟩
    have HB1 := zh hb1
    clear hb1
    go_wp2_with fail
    refine (HP.out _ (HE.out.later HB1.out)).mono ?_
    rintro e w2 ⟨⟨T, p, rfl⟩, hb2⟩
    have hw := Bt HB1.out hb2
    clear hb2 HB1
    go_wp2_with fail
    go_ret2
    exact ⟨rfl, hw⟩
end Go.Proofs.whole
namespace Go.Proofs.YtpoecfpbafpokaaGreatDoor
open Go Go.ChangeShapes Go.WideShapes Go.RowKit Go.Proofs
theorem gPow : Tryz.prog.globalNamed "internal/strconv.uint64pow10" = some 2 := by kernel_rfl
theorem tPow : (Tryz.prog.globals[2]?).map (·.type) = some 270 := by kernel_rfl
theorem uPow : Tryz.prog.underlying 270 = some (.array 20 203) := by kernel_rfl
theorem gErr : Tryz.prog.globalNamed "strconv.ErrRange" = some 1 := by kernel_rfl
theorem tErr : (Tryz.prog.globals[1]?).map (·.type) = some 195 := by kernel_rfl
theorem sErr : "*" ++ "errors.errorString" = "*errors.errorString" := by decide
theorem rErr (u : TypeId) (h : Tryz.prog.typeName? 3 u = some "*errors.errorString") : u = 273 :=
  typeName_ptr_named (nm := "errors.errorString") (by rw [sErr]; kernel_rfl) zk zd u (by rw [sErr]; exact h)
theorem of_laid {W : World} (h : laidMetH Tryz.prog Rows.powerKnownRow.laid W) : Bld.Pow W ∧ whole.Er W := by
  have h' : laidMetH Tryz.prog [("math/bits.deBruijn32tab", Rows.laid_math_bits_deBruijn32tab), ("math/bits.deBruijn64tab", Rows.laid_math_bits_deBruijn64tab), ("internal/strconv.uint64pow10", Rows.laid_internal_strconv_uint64pow10), ("strconv.ErrRange", Rows.laid_strconv_ErrRange), ("strconv.ErrSyntax", Rows.laid_strconv_ErrSyntax)] W := h
  clear h
  rw [MakeChecks.laidMetH_plain _ _ _ zk] at h'
  have h2 := laidMet.tail (laidMet.tail h')
  refine ⟨Lib.tabIs_of_head gPow tPow uPow zk zk zk h2, ?_⟩
  obtain ⟨a, s, hv, -⟩ := laid_sentinel (laidMet.tail h2) gErr tErr Tryz.underlying195 rErr Tryz.underlying273 Tryz.underlying275 rfl rfl Tryz.underlying9 zk zk
  refine ⟨_, _, hv, ?_⟩
  have hc := World.var?_cell gErr hv 0
  have e : (Tryz.prog.globalNamed "strconv.ErrRange").getD 0 = 1 := by rw [gErr]; rfl
  rw [e]
  rcases Nat.lt_or_ge 1 W.heap.size with h | h
  · exact h
  · unfold World.cell? at hc
    rw [Array.getElem?_eq_none h] at hc
    simp at hc
theorem u8_wf {n : Int} (h : (Lit.int .u8 n).wf = true) : 0 ≤ n ∧ n ≤ 255 := by
  simp [Lit.wf, IntKind.min, IntKind.max, IntKind.signed, IntKind.bits] at h
  omega
theorem u32_wf {n : Int} (h : (Lit.int .u32 n).wf = true) : 0 ≤ n ∧ n ≤ 4294967295 := by
  simp [Lit.wf, IntKind.min, IntKind.max, IntKind.signed, IntKind.bits] at h
  omega
def DrV (v : Value) (a b : Int) : Prop := v = .agg #[.int .i64 a, .int .u32 b] ∧ (0 ≤ b ∧ b ≤ 4294967295)
theorem open_draft {H : Type} {enc : TypeId × Value → H} {W : World} {b0 base : Nat} {sp : Nat → Bool} {held : Bool} {v : Value} {d : DataW H} {p : List MemPlace}
    (hval : Value.okWide Tryz.prog W .any b0 26 v) (h : DataW.Trod enc Tryz.prog W base sp held 26 v d p) :
    ∃ a b, DrV v a b ∧ p = [] ∧ ∀ (W' : World) (base' : Nat) (sp' : Nat → Bool) (held' : Bool), DataW.Trod enc Tryz.prog W' base' sp' held' 26 v d [] := by
  have u0 : Tryz.prog.underlying 2 = some (.int .i64) := Tryz.underlying2
  have u1 : Tryz.prog.underlying 24 = some (.int .u32) := Tryz.underlying24
  have ut := Tryz.underlying26
  have c0 : Tryz.prog.cellsOf 2 = 1 := by kernel_rfl
  have c1 : Tryz.prog.cellsOf 24 = 1 := by kernel_rfl
  have ct : Tryz.prog.cellsOf 26 = 2 := by kernel_rfl
  obtain ⟨cs, rfl, hsz, -⟩ : ∃ cs, v = .agg cs ∧ cs.size = Tryz.prog.cellsOf 26 ∧ Row.okWide Tryz.prog W .any b0 26 cs := by
    simpa [Value.okWide, ut] using hval
  rw [ct] at hsz
  obtain ⟨l⟩ := cs
  obtain ⟨x0, x1, rfl⟩ : ∃ x0 x1, l = [x0, x1] := by
    match l, hsz with
    | [x0, x1], _ => exact ⟨x0, x1, rfl⟩
  obtain ⟨fuel, hf⟩ := h
  obtain ⟨y0, y1, m, hx, hl, hy0, hy1⟩ := trod_struct2 ut hf
  simp only [c0, c1] at hy0 hy1
  obtain ⟨z0, e0, rfl, w0⟩ := DataW.trod_int u0 hy0
  obtain ⟨z1, e1, rfl, w1⟩ := DataW.trod_int u1 hy1
  replace e0 : [x0] = [Value.int .i64 z0] := e0
  replace e1 : [x1] = [Value.int .u32 z1] := e1
  simp only [List.cons.injEq, and_true] at e0 e1
  subst e0 e1
  simp only [Prod.mk.injEq] at hx
  obtain ⟨rfl, rfl⟩ := hx
  refine ⟨z0, z1, ⟨rfl, u32_wf w1⟩, by simp, fun W' base' sp' held' => ⟨2, ?_⟩⟩
  have := trod_struct2_mk (enc := enc) (w := W') (base := base') (spare := sp') (held := held') (n := 1) (cs := [.int .i64 z0, .int .u32 z1]) (y0 := (.lit (.int .i64 z0), [])) (y1 := (.lit (.int .u32 z1), [])) ut (by simp [ct])
    (by simpa [c0] using trod_int_mk (enc := enc) (w := W') (base := base') (spare := sp') (held := held') 0 u0 w0) (by simpa [c1] using trod_int_mk (enc := enc) (w := W') (base := base') (spare := sp') (held := held') 0 u1 w1)
  simp at this
  exact this
end Go.Proofs.YtpoecfpbafpokaaGreatDoor
namespace Go.Proofs.frac
open Go Go.RowKit Go.SW Go.Num Go.Mem Go.Proofs
theorem trim_walk (b off c : Nat) (l : List Nat) (w : World) (hl : l.length ≤ c) (hm : c ≤ 9223372036854775807)
   (hc : ∀ k, k < l.length → w.cell? ⟨b, off + k, none⟩ = some (.int .u32 (l.getD k 0 : Nat))) :
    Calls Tryz.prog 173 #[.slice (some ⟨b, off, none⟩) l.length c] w fun e w' => e = .returned (.slice (some ⟨b, off, none⟩) (trimLen l l.length) c) ∧ w = w' := by
  go_enter Tryz.func173, Tryz.ntmps173
  go_wp2
  go_loop [0] (fun v => ∃ k : Nat, k ≤ l.length ∧ trimLen l k = trimLen l l.length ∧ v = .slice (some ⟨b, off, none⟩) k c) (fun v => match v with | .slice _ k _ => k | _ => 0)
  case atStart => exact ⟨l.length, Nat.le_refl _, rfl, rfl⟩
  case round =>
    obtain ⟨k, hk, ht, rfl⟩ := hrel
    have HT := zh ht
    clear ht
    rcases Nat.eq_zero_or_pos k with h0 | h0
    · subst h0
      go_wp2
      go_ret
      exact ⟨by rw [← HT.out]; rfl, rfl⟩
    · obtain ⟨j, rfl⟩ : ∃ j, k = j + 1 := ⟨k - 1, by omega⟩
      have hcj := hc j zo
      have HS : Hid (trimLen l (j + 1) = if l.getD j 0 = 0 then trimLen l j else j + 1) := rfl
      generalize l.getD j 0 = d at hcj HS
      clear hc
      rcases Nat.eq_zero_or_pos d with hd | hd
      · subst hd
        go_wp2
        go_round
        case rel => exact ⟨j, by omega, by rw [← HT.out, HS.out]; rfl, rfl⟩
        case measure => exact Nat.lt_succ_self _
      · have hz : ((d : Int) == 0) = false := by simp; omega
        go_wp2
        go_ret
        exact ⟨by rw [← HT.out, HS.out, if_neg zo]; rfl, rfl⟩
theorem trim_nil (w : World) : Calls Tryz.prog 173 #[.slice none 0 0] w fun e w' => e = .returned (.slice none 0 0) ∧ w = w' := by
  go_enter Tryz.func173, Tryz.ntmps173
  go_wp2
  refine wp_loop_rounds 1 ?_
  rw [rounds_succ]
  go_wp2
  go_ret
  exact ⟨rfl, rfl⟩
theorem trim_ok (v : Value) (l : List Nat) (w : World) (h : Dgs w v l) (hd : Dig 1000000000 l) :
    Calls Tryz.prog 173 #[v] w fun e w' => ∃ v', e = .returned v' ∧ w = w' ∧ Mag w v' (val 1000000000 l) := by
  rcases Dgs.cases h with ⟨rfl, rfl⟩ | ⟨b, off, cap, rfl, h1, h2, h3, ⟨arr, h4⟩, h5⟩
  · refine (trim_nil w).mono ?_
    rintro e w' ⟨rfl, rfl⟩
    exact ⟨_, rfl, rfl, by rw [show val 1000000000 ([] : List Nat) = 0 from rfl]; unfold Mag; rw [digs_zero]; exact Row.nil _ _⟩
  · refine (trim_walk b off cap l w h1 h2 h5).mono ?_
    rintro e w' ⟨rfl, rfl⟩
    refine ⟨_, rfl, rfl, ?_⟩
    have ht := trimLen_le l l.length
    have e : val 1000000000 l = val 1000000000 (l.take (trimLen l l.length)) := by rw [val_trim _ _ _ (Nat.le_refl _)]; simp
    rw [e]
    refine Mag.of_dgs ?_ (hd.take _) (top_trim l _ (Nat.le_refl _))
    refine Row.mk (arr := arr) (by rw [u32s_length]; simp; omega) (by rw [u32s_length]; simp; omega) h2 h4 fun i hi => ?_
    rw [u32s_length] at hi
    have hi2 : i < l.length := by simp at hi; omega
    have := h5 i hi2
    rw [h4.cell] at this
    rw [this]
    simp [u32s, hi2]
theorem zero_ok (v : Value) (n : Nat) (w : World) (h : Mag w v n) :
    Calls Tryz.prog 122 #[v] w fun e w' => e = .returned (.bool (decide (n = 0))) ∧ w = w' := by
  obtain ⟨a, cap, rfl, -⟩ := h
  have e : decide (n = 0) = ((((digs 1000000000 n).length : Nat) : Int) == 0) := by
    rw [Bool.eq_iff_iff]
    simp [digs_eq_nil]
  rw [e, u32s_length]
  clear e
  generalize (digs 1000000000 n).length = k
  go_enter Tryz.func122, Tryz.ntmps122
  go_wp2
  go_ret
  exact ⟨rfl, rfl⟩
def sgn (a b : Nat) : Int := if a < b then -1 else if b < a then 1 else 0
theorem sgn_lt {a b : Nat} (h : a < b) : sgn a b = -1 := if_pos h
theorem sgn_gt {a b : Nat} (h : b < a) : sgn a b = 1 := by unfold sgn; rw [if_neg zo, if_pos h]
theorem sgn_eq (a : Nat) : sgn a a = 0 := by unfold sgn; simp
theorem cmp_int (a b : Nat) (w : World) : Calls Tryz.prog 161 #[.int .i64 a, .int .i64 b] w fun e w' => e = .returned (.int .i64 (sgn a b)) ∧ w = w' := by
  rcases Nat.lt_trichotomy a b with h | h | h
  · rw [sgn_lt h]
    go_enter Tryz.func161, Tryz.ntmps161
    go_wp2
    go_ret
    exact ⟨rfl, rfl⟩
  · subst h
    rw [sgn_eq]
    go_enter Tryz.func161, Tryz.ntmps161
    go_wp2
    go_ret
    exact ⟨rfl, rfl⟩
  · rw [sgn_gt h]
    go_enter Tryz.func161, Tryz.ntmps161
    go_wp2
    go_ret
    exact ⟨rfl, rfl⟩
theorem cmp_u32 (a b : Nat) (w : World) : Calls Tryz.prog 162 #[.int .u32 a, .int .u32 b] w fun e w' => e = .returned (.int .i64 (sgn a b)) ∧ w = w' := by
  rcases Nat.lt_trichotomy a b with h | h | h
  · rw [sgn_lt h]
    go_enter Tryz.func162, Tryz.ntmps162
    go_wp2
    go_ret
    exact ⟨rfl, rfl⟩
  · subst h
    rw [sgn_eq]
    go_enter Tryz.func162, Tryz.ntmps162
    go_wp2
    go_ret
    exact ⟨rfl, rfl⟩
  · rw [sgn_gt h]
    go_enter Tryz.func162, Tryz.ntmps162
    go_wp2
    go_ret
    exact ⟨rfl, rfl⟩
theorem compare_len (a b : Option Addr) (m n c d : Nat) (w : World) (h : m ≠ n) :
    Calls Tryz.prog 121 #[.slice a m c, .slice b n d] w fun e w' => e = .returned (.int .i64 (sgn m n)) ∧ w = w' := by
  have h1 : ((m : Int) == (n : Int)) = false := by simp; omega
  have h2 : ((m : Int) != (n : Int)) = true := by simp; omega
  go_enter Tryz.func121, Tryz.ntmps121
  go_wp2_with (go_at_call 161; refine (cmp_int _ _ _).mono ?_; rintro e w' ⟨rfl, rfl⟩)
  go_ret
  exact ⟨rfl, rfl⟩
theorem compare_walk (pa pb : Option Addr) (ca cb : Nat) (l m : List Nat) (w : World) (hlen : l.length = m.length) (hm : l.length ≤ 9223372036854775807) (hl : Dig 1000000000 l) (hmd : Dig 1000000000 m)
   (hc : ∀ k, k < l.length → ∃ b off, pa = some ⟨b, off, none⟩ ∧ b < w.heap.size ∧ w.cell? ⟨b, off + k, none⟩ = some (.int .u32 (l.getD k 0 : Nat)))
   (hd : ∀ k, k < m.length → ∃ b off, pb = some ⟨b, off, none⟩ ∧ b < w.heap.size ∧ w.cell? ⟨b, off + k, none⟩ = some (.int .u32 (m.getD k 0 : Nat))) :
    Calls Tryz.prog 121 #[.slice pa l.length ca, .slice pb m.length cb] w fun e w' => e = .returned (.int .i64 (sgn (val 1000000000 l) (val 1000000000 m))) ∧ Below w.heap.size w w' := by
  have HL := zh hlen
  clear hlen
  rw [← HL.out]
  have h1 : ((l.length : Int) == (l.length : Int)) = true := by simp
  have h2 : ((l.length : Int) != (l.length : Int)) = false := by simp
  go_enter Tryz.func121, Tryz.ntmps121
  go_wp2
  clear h1 h2
  go_loopw [5] (fun i wr => ∃ q : Int, -1 ≤ q ∧ q < l.length ∧ i = .int .i64 q ∧ l.drop (q + 1).toNat = m.drop (q + 1).toNat ∧ Below w.heap.size w wr) (fun i _ => (intOf i + 1).toNat)
  case atStart => exact ⟨(l.length : Int) - 1, by omega, by omega, rfl, by rw [show ((l.length : Int) - 1 + 1).toNat = l.length by omega, List.drop_length]; rw [HL.out, List.drop_length], Below.refl _ _⟩
  case round =>
    obtain ⟨q, hq1, hq2, rfl, hdr, hb⟩ := hrel
    have HD := zh hdr
    clear hdr
    by_cases hq : q < 0
    · have hq0 : q = -1 := by omega
      subst hq0
      go_wp2
      go_ret
      have e : l = m := by have := HD.out; simpa using this
      rw [e, sgn_eq]
      exact ⟨rfl, hb⟩
    · obtain ⟨j, rfl⟩ := Int.eq_ofNat_of_zero_le (by omega : 0 ≤ q)
      have hjl : j < l.length := by omega
      have hjm : j < m.length := by rw [← HL.out]; exact hjl
      obtain ⟨ba, oa, rfl, hba, hx0⟩ := hc j hjl
      obtain ⟨bb, ob, rfl, hbb, hy0⟩ := hd j hjm
      have hx : wr.cell? ⟨ba, oa + j, none⟩ = some (.int .u32 (l.getD j 0 : Nat)) := (hb.cell (by exact hba)).trans hx0
      have hy : wr.cell? ⟨bb, ob + j, none⟩ = some (.int .u32 (m.getD j 0 : Nat)) := (hb.cell (by exact hbb)).trans hy0
      clear hx0 hy0
      have HD2 : Hid (l.drop (j + 1) = m.drop (j + 1)) := by have := HD.out; rwa [show ((j : Int) + 1).toNat = j + 1 by omega] at this
      have hlt : Hid (l.getD j 0 < m.getD j 0 → val 1000000000 l < val 1000000000 m) := val_lt_of zo hl hjl hjm HD2.out
      have hgt : Hid (m.getD j 0 < l.getD j 0 → val 1000000000 m < val 1000000000 l) := val_lt_of zo hmd hjm hjl HD2.out.symm
      have heq : Hid (l.getD j 0 = m.getD j 0 → l.drop j = m.drop j) := fun e => by rw [drop_getD hjl, drop_getD hjm, HD2.out, e]
      generalize l.getD j 0 = x at *
      generalize m.getD j 0 = y at *
      clear HD HD2 hc hd
      by_cases hxy : x = y
      · subst hxy
        have h1 : ((x : Int) == (x : Int)) = true := by simp
        have h2 : ((x : Int) != (x : Int)) = false := by simp
        go_wp2
        go_quiet (fail)
        go_wp2
        go_roundw
        case rel => exact ⟨(j : Int) - 1, by omega, by omega, rfl, by rw [show ((j : Int) - 1 + 1).toNat = j by omega]; exact heq.out trivial, below_drewN hb _⟩
        case measure => simp [intOf]
      · have h1 : ((x : Int) == (y : Int)) = false := by simp; omega
        have h2 : ((x : Int) != (y : Int)) = true := by simp; omega
        go_wp2
        go_quiet (fail)
        go_wp2
        refine wp_region_walk [(.pure, 0), (.pure, 1), (.pure, 2), (.read, 3), (.pure, 4), (.pure, 5), (.pure, 6), (.read, 7), (.ext, 8), (.fin, 9)] zk zk zR zP ?_
        repeat (first | (refine walk_pure0 rfl rfl fun J h => ?_; go_simp; refine h _ ?_; clear h J) | (refine walk_load rfl rfl rfl rfl fun J h => ?_; go_simp; refine h _ ?_; clear h J; try go_simp))
        refine walk_ext rfl rfl (fun w1 hb1 J hJ => ?_); go_simp
        refine (cmp_u32 _ _ _).mono ?_
        rintro e w' ⟨rfl, rfl⟩
        refine hJ _ _ (Below.refl _ _) ?_
        clear hJ J
        refine walk_fin [_] rfl (fun w2 hb2 => ?_)
        go_wp2
        go_ret
        refine ⟨?_, Bt (Bt hb (of_drewN hb1)) hb2⟩
        rcases Nat.lt_or_gt_of_ne hxy with h | h
        · rw [sgn_lt h, sgn_lt (hlt.out h)]; rfl
        · rw [sgn_gt h, sgn_gt (hgt.out h)]; rfl
theorem compare_ok (x y : Value) (a b : Nat) (w : World) (hx : Mag w x a) (hy : Mag w y b) :
    Calls Tryz.prog 121 #[x, y] w fun e w' => e = .returned (.int .i64 (sgn a b)) ∧ Below w.heap.size w w' := by
  by_cases hs : sz 1000000000 a = sz 1000000000 b
  · obtain ⟨pa, ca, rfl, h1, h2, h3⟩ := Dgs.read hx.dgs
    obtain ⟨pb, cb, rfl, k1, k2, k3⟩ := Dgs.read hy.dgs
    refine (compare_walk pa pb ca cb _ _ w hs zo (dig_digs zo a) (dig_digs zo b) h3 k3).mono ?_
    rintro e w' ⟨rfl, hb⟩
    rw [val_digs zo, val_digs zo]
    exact ⟨rfl, hb⟩
  · obtain ⟨a', ca, rfl, -⟩ := hx
    obtain ⟨b', cb, rfl, -⟩ := hy
    rw [u32s_length, u32s_length]
    refine (compare_len a' b' _ _ ca cb w hs).mono ?_
    rintro e w' ⟨rfl, rfl⟩
    refine ⟨?_, Below.refl _ _⟩
    rcases Nat.lt_or_gt_of_ne hs with h | h
    · rw [sgn_lt (lt_of_sz zo h)]; exact congrArg _ (congrArg _ (sgn_lt h))
    · rw [sgn_gt (lt_of_sz zo h)]; exact congrArg _ (congrArg _ (sgn_gt h))
theorem infoU : (Tryz.prog.info? 24).map (fun i => (i.zero, i.size, i.bytes)) = some (some (.int .u32 0), 1, 4) := by kernel_rfl
theorem plus_step {B : Nat} {l m s : List Nat} {k c d c' : Nat} (hk : k < l.length) (hs : s.length = k) (he : val B s + c * B ^ k = val B (l.take k) + val B (m.take k)) (h : d + c' * B = l.getD k 0 + c + m.getD k 0) :
    val B (s ++ [d]) + c' * B ^ (k + 1) = val B (l.take (k + 1)) + val B (m.take (k + 1)) := by
  have hm : val B (m.take (k + 1)) = val B (m.take k) + B ^ k * m.getD k 0 := by
    by_cases hkm : k < m.length
    · exact val_take_succ B hkm
    · rw [List.take_of_length_le zo, List.take_of_length_le zo]
      simp [Nat.le_of_not_lt hkm]
  rw [val_snoc, val_take_succ B hk, hm, hs, Nat.pow_succ]
  have h2 := congrArg (B ^ k * ·) h
  simp only [Nat.mul_add] at h2
  rw [show c' * (B ^ k * B) = B ^ k * (c' * B) by rw [Nat.mul_left_comm]]
  rw [Nat.mul_comm c (B ^ k)] at he
  omega
theorem plus_walk (pl ps : Option Addr) (cl cs : Nat) (l m : List Nat) (v0 v1 : Value) (w : World) (hl : Dig 1000000000 l) (hmd : Dig 1000000000 m) (hb1 : l.length ≤ 1099511627776) (hml : m.length ≤ l.length)
   (hv : (v0 = .slice pl l.length cl ∧ v1 = .slice ps m.length cs) ∨ (v1 = .slice pl l.length cl ∧ v0 = .slice ps m.length cs ∧ m.length < l.length))
   (hc : ∀ k, k < l.length → ∃ b off, pl = some ⟨b, off, none⟩ ∧ b < w.heap.size ∧ w.cell? ⟨b, off + k, none⟩ = some (.int .u32 (l.getD k 0 : Nat)))
   (hd : ∀ k, k < m.length → ∃ b off, ps = some ⟨b, off, none⟩ ∧ b < w.heap.size ∧ w.cell? ⟨b, off + k, none⟩ = some (.int .u32 (m.getD k 0 : Nat))) :
    Calls Tryz.prog 175 #[v0, v1] w fun e w' => ∃ s v, e = .returned v ∧ Below w.heap.size w w' ∧ Dgs w' v s ∧ Dig 1000000000 s ∧ val 1000000000 s = val 1000000000 l + val 1000000000 m ∧ l.length ≤ s.length ∧ (l.length < s.length → Top s) := by
  obtain ⟨i0, hi, hz0, hz1, hz2⟩ := info_parts infoU
  rcases hv with ⟨rfl, rfl⟩ | ⟨rfl, rfl, hlt⟩
  all_goals
    go_enter Tryz.func175, Tryz.ntmps175
    go_wp2_with (at_make; refine wpList_make_own _ rfl _ _ 120 rfl w.heap.size 24 i0 (.int .u32 0) 1 Tryz.underlying120 hi hz0 hz1 _ _ _ (l.length + 1) rfl rfl zo (by rw [hz2]; omega) (by unfold maxLen; omega) (Nat.le_refl _) ?_)
    intro w0 hown0 hgrow0
    go_wp2
    go_loopw [5, 6, 7, 8, 22] (fun out cv _ _ kv wr => ∃ (k c : Nat) (s : List Nat), k ≤ l.length ∧ c ≤ 1 ∧ s.length = k ∧ kv = .int .i64 k ∧ cv = .int .u32 c ∧ out = .slice (some ⟨w.heap.size, 0, none⟩) k (l.length + 1) ∧
        wr.ownsRow w.heap.size 24 1 (.slice (some ⟨w.heap.size, 0, none⟩) k (l.length + 1)) k (u32s s) ∧ Dig 1000000000 s ∧ Hid (val 1000000000 s + c * 1000000000 ^ k = val 1000000000 (l.take k) + val 1000000000 (m.take k)) ∧ Below w.heap.size w wr)
      (fun _ _ _ _ kv _ => l.length - (intOf kv).toNat)
    case atStart => exact ⟨0, 0, [], Nat.zero_le _, by omega, rfl, rfl, rfl, rfl, hown0, Dig.nil, (by simp [val] : val _ _ + 0 * _ = _), (Below.refl _ _).grown hgrow0 (Nat.le_refl _) (fun k h => by cases h)⟩
    case round =>
      obtain ⟨k, c, s, hk, hc1, hs, rfl, rfl, rfl, hown, hds, HV, hb⟩ := hrel
      have HS := zh hs
      clear hs
      by_cases hkl : k < l.length
      · obtain ⟨b, off, rfl, hbb, hx0⟩ := hc k hkl
        have hx : wr.cell? ⟨b, off + k, none⟩ = some (.int .u32 (l.getD k 0 : Nat)) := (hb.cell (by exact hbb)).trans hx0
        have hdl : l.getD k 0 < 1000000000 := hl.getD zo k
        have HP : ∀ d c', d + c' * 1000000000 = l.getD k 0 + c + m.getD k 0 → val 1000000000 (s ++ [d]) + c' * 1000000000 ^ (k + 1) = val 1000000000 (l.take (k + 1)) + val 1000000000 (m.take (k + 1)) :=
          fun d c' h => plus_step hkl HS.out HV.out h
        have HP2 := zh HP
        clear HP hx0 hc
        by_cases hkm : k < m.length
        · obtain ⟨b2, off2, rfl, hbb2, hy0⟩ := hd k hkm
          have hy : wr.cell? ⟨b2, off2 + k, none⟩ = some (.int .u32 (m.getD k 0 : Nat)) := (hb.cell (by exact hbb2)).trans hy0
          have hdm : m.getD k 0 < 1000000000 := hmd.getD zo k
          clear hy0 hd
          generalize l.getD k 0 = x at *
          generalize m.getD k 0 = y at *
          by_cases hge : x + c + y < 1000000000
          · have hge' : decide ((1000000000 : Int) ≤ (x : Int) + (c : Int) + (y : Int)) = false := by rw [decide_eq_false_iff_not]; omega
            have HG := zh hge
            clear hge
            go_wp2_with (at_builtin; refine wpList_append_fits _ rfl (.tmp 44) (.tmp 46) 120 rfl w.heap.size 24 i0 1 Tryz.underlying120 hi hz1 w.heap.size k (l.length + 1) _ rfl (hown.alloc _) ⟨wr.heap.size, 0, none⟩ 1 1 [.int .u32 ((x : Int) + (c : Int) + (y : Int))] rfl rfl (by intro t u ht; match t, ht with | 0, ht => simp at ht; subst ht; simp [Addr.add]) (by intro u hu; simp at hu; subst hu; rfl) zo ?_)
            intro w1 hown1 hgrow1
            have hown2 : w1.ownsRow w.heap.size 24 1 (.slice (some ⟨w.heap.size, 0, none⟩) (k + 1) (l.length + 1)) (k + 1) (u32s (s ++ [x + c + y])) := by
              have e : u32s (s ++ [x + c + y]) = u32s s ++ [.int .u32 ((x : Int) + (c : Int) + (y : Int))] := by have := HG.out; unfold u32s; simp only [List.map_append, List.map_cons, List.map_nil]; rw [show ((x + c + y : Nat) : Int) = (x : Int) + (c : Int) + (y : Int) by omega]
              rw [e]; exact hown1
            have hb2 : Below w.heap.size w w1 := (hb.alloc hb.size _).grown hgrow1 (by simp; have := hb.size; omega) (fun k hk => by cases hk; exact Nat.le_refl _)
            clear hown hown1 hgrow1
            go_wp2
            go_roundw
            case rel => exact ⟨k + 1, 0, s ++ [x + c + y], by omega, by omega, by rw [List.length_append, HS.out]; rfl, by go_num, rfl, rfl, hown2, hds.snoc (by have := HG.out; omega), HP2.out _ _ (by have := HG.out; omega), hb2⟩
            case measure => exact zM
          · have hge' : decide ((1000000000 : Int) ≤ (x : Int) + (c : Int) + (y : Int)) = true := by rw [decide_eq_true_iff]; omega
            have hge3 : (0 : Int) ≤ (x : Int) + (c : Int) + (y : Int) - 1000000000 := by omega
            have HG := zh hge
            clear hge
            go_wp2_with (at_builtin; refine wpList_append_fits _ rfl (.tmp 44) (.tmp 46) 120 rfl w.heap.size 24 i0 1 Tryz.underlying120 hi hz1 w.heap.size k (l.length + 1) _ rfl (hown.alloc _) ⟨wr.heap.size, 0, none⟩ 1 1 [.int .u32 ((x : Int) + (c : Int) + (y : Int) - 1000000000)] rfl rfl (by intro t u ht; match t, ht with | 0, ht => simp at ht; subst ht; simp [Addr.add]) (by intro u hu; simp at hu; subst hu; rfl) zo ?_)
            intro w1 hown1 hgrow1
            have hown2 : w1.ownsRow w.heap.size 24 1 (.slice (some ⟨w.heap.size, 0, none⟩) (k + 1) (l.length + 1)) (k + 1) (u32s (s ++ [x + c + y - 1000000000])) := by
              have e : u32s (s ++ [x + c + y - 1000000000]) = u32s s ++ [.int .u32 ((x : Int) + (c : Int) + (y : Int) - 1000000000)] := by have := HG.out; unfold u32s; simp only [List.map_append, List.map_cons, List.map_nil]; rw [show ((x + c + y - 1000000000 : Nat) : Int) = (x : Int) + (c : Int) + (y : Int) - 1000000000 by omega]
              rw [e]; exact hown1
            have hb2 : Below w.heap.size w w1 := (hb.alloc hb.size _).grown hgrow1 (by simp; have := hb.size; omega) (fun k hk => by cases hk; exact Nat.le_refl _)
            clear hown hown1 hgrow1
            go_wp2
            go_roundw
            case rel => exact ⟨k + 1, 1, s ++ [x + c + y - 1000000000], by omega, by omega, by rw [List.length_append, HS.out]; rfl, by go_num, rfl, rfl, hown2, hds.snoc (by have := HG.out; omega), HP2.out _ _ (by have := HG.out; omega), hb2⟩
            case measure => exact zM
        · have hm0 : m.getD k 0 = 0 := by simp [Nat.le_of_not_lt hkm]
          rw [hm0] at HP2
          clear hm0 hd
          generalize l.getD k 0 = x at *
          by_cases hge : x + c < 1000000000
          · have hge' : decide ((1000000000 : Int) ≤ (x : Int) + (c : Int)) = false := by rw [decide_eq_false_iff_not]; omega
            have HG := zh hge
            clear hge
            go_wp2_with (at_builtin; refine wpList_append_fits _ rfl (.tmp 44) (.tmp 46) 120 rfl w.heap.size 24 i0 1 Tryz.underlying120 hi hz1 w.heap.size k (l.length + 1) _ rfl (hown.alloc _) ⟨wr.heap.size, 0, none⟩ 1 1 [.int .u32 ((x : Int) + (c : Int))] rfl rfl (by intro t u ht; match t, ht with | 0, ht => simp at ht; subst ht; simp [Addr.add]) (by intro u hu; simp at hu; subst hu; rfl) zo ?_)
            intro w1 hown1 hgrow1
            have hown2 : w1.ownsRow w.heap.size 24 1 (.slice (some ⟨w.heap.size, 0, none⟩) (k + 1) (l.length + 1)) (k + 1) (u32s (s ++ [x + c])) := by
              have e : u32s (s ++ [x + c]) = u32s s ++ [.int .u32 ((x : Int) + (c : Int))] := by have := HG.out; unfold u32s; simp only [List.map_append, List.map_cons, List.map_nil]; rw [show ((x + c : Nat) : Int) = (x : Int) + (c : Int) by omega]
              rw [e]; exact hown1
            have hb2 : Below w.heap.size w w1 := (hb.alloc hb.size _).grown hgrow1 (by simp; have := hb.size; omega) (fun k hk => by cases hk; exact Nat.le_refl _)
            clear hown hown1 hgrow1
            go_wp2
            go_roundw
            case rel => exact ⟨k + 1, 0, s ++ [x + c], by omega, by omega, by rw [List.length_append, HS.out]; rfl, by go_num, rfl, rfl, hown2, hds.snoc (by have := HG.out; omega), HP2.out _ _ (by have := HG.out; omega), hb2⟩
            case measure => exact zM
          · have hge' : decide ((1000000000 : Int) ≤ (x : Int) + (c : Int)) = true := by rw [decide_eq_true_iff]; omega
            have hge3 : (0 : Int) ≤ (x : Int) + (c : Int) - 1000000000 := by omega
            have HG := zh hge
            clear hge
            go_wp2_with (at_builtin; refine wpList_append_fits _ rfl (.tmp 44) (.tmp 46) 120 rfl w.heap.size 24 i0 1 Tryz.underlying120 hi hz1 w.heap.size k (l.length + 1) _ rfl (hown.alloc _) ⟨wr.heap.size, 0, none⟩ 1 1 [.int .u32 ((x : Int) + (c : Int) - 1000000000)] rfl rfl (by intro t u ht; match t, ht with | 0, ht => simp at ht; subst ht; simp [Addr.add]) (by intro u hu; simp at hu; subst hu; rfl) zo ?_)
            intro w1 hown1 hgrow1
            have hown2 : w1.ownsRow w.heap.size 24 1 (.slice (some ⟨w.heap.size, 0, none⟩) (k + 1) (l.length + 1)) (k + 1) (u32s (s ++ [x + c - 1000000000])) := by
              have e : u32s (s ++ [x + c - 1000000000]) = u32s s ++ [.int .u32 ((x : Int) + (c : Int) - 1000000000)] := by have := HG.out; unfold u32s; simp only [List.map_append, List.map_cons, List.map_nil]; rw [show ((x + c - 1000000000 : Nat) : Int) = (x : Int) + (c : Int) - 1000000000 by omega]
              rw [e]; exact hown1
            have hb2 : Below w.heap.size w w1 := (hb.alloc hb.size _).grown hgrow1 (by simp; have := hb.size; omega) (fun k hk => by cases hk; exact Nat.le_refl _)
            clear hown hown1 hgrow1
            go_wp2
            go_roundw
            case rel => exact ⟨k + 1, 1, s ++ [x + c - 1000000000], by omega, by omega, by rw [List.length_append, HS.out]; rfl, by go_num, rfl, rfl, hown2, hds.snoc (by have := HG.out; omega), HP2.out _ _ (by have := HG.out; omega), hb2⟩
            case measure => exact zM
      · have hkk : k = l.length := by omega
        subst hkk
        clear hc hd
        have HV2 : Hid (val 1000000000 s + c * 1000000000 ^ l.length = val 1000000000 l + val 1000000000 m) := by
          have := HV.out; rwa [List.take_length, List.take_of_length_le hml] at this
        clear HV
        rcases Nat.eq_zero_or_pos c with h0 | h0
        · subst h0
          go_wp2
          go_ret
          refine ⟨s, _, rfl, hb, Dgs.of_owns hown, hds, by have := HV2.out; simpa using this, Nat.le_of_eq HS.out.symm, fun h => absurd h (by rw [HS.out]; exact Nat.lt_irrefl _)⟩
        · have hc1' : c = 1 := by omega
          subst hc1'
          go_wp2_with (at_builtin; refine wpList_append_fits _ rfl (.tmp 51) (.tmp 53) 120 rfl w.heap.size 24 i0 1 Tryz.underlying120 hi hz1 w.heap.size l.length (l.length + 1) _ rfl (hown.alloc _) ⟨wr.heap.size, 0, none⟩ 1 1 [.int .u32 1] rfl rfl (by intro t u ht; match t, ht with | 0, ht => simp at ht; subst ht; simp [Addr.add]) (by intro u hu; simp at hu; subst hu; rfl) zo ?_)
          intro w1 hown1 hgrow1
          have hown2 : w1.ownsRow w.heap.size 24 1 (.slice (some ⟨w.heap.size, 0, none⟩) (l.length + 1) (l.length + 1)) (l.length + 1) (u32s (s ++ [1])) := by
            have e : u32s (s ++ [1]) = u32s s ++ [.int .u32 1] := by simp [u32s]
            rw [e]; exact hown1
          have hb2 : Below w.heap.size w w1 := (hb.alloc hb.size _).grown hgrow1 (by simp; have := hb.size; omega) (fun k hk => by cases hk; exact Nat.le_refl _)
          clear hown hown1 hgrow1
          go_wp2
          go_ret
          refine ⟨s ++ [1], _, rfl, hb2, Dgs.of_owns hown2, hds.snoc zo, ?_, by rw [List.length_append, HS.out]; exact Nat.le_add_right _ _, fun _ => Top.snoc zo⟩
          have := HV2.out
          rw [val_snoc, HS.out, Nat.mul_one]
          rwa [Nat.one_mul] at this
theorem plus_ok (x y : Value) (a b : Nat) (w : World) (hx : Mag w x a) (hy : Mag w y b) (ha : sz 1000000000 a ≤ 1099511627776) (hb : sz 1000000000 b ≤ 1099511627776) :
    Calls Tryz.prog 175 #[x, y] w fun e w' => ∃ v, e = .returned v ∧ Below w.heap.size w w' ∧ Mag w' v (a + b) := by
  have fin : ∀ (l m s : List Nat) (w' : World) (v : Value), Top l → Dgs w' v s → Dig 1000000000 s → val 1000000000 s = val 1000000000 l + val 1000000000 m → l.length ≤ s.length → (l.length < s.length → Top s) → Mag w' v (val 1000000000 l + val 1000000000 m) := fun l m s w' v ht h1 h2 h3 h4 h5 => by
    rw [← h3]
    refine Mag.of_dgs h1 h2 ?_
    by_cases h : l.length < s.length
    · exact h5 h
    · exact top_of_val zo ht h2 zo zo
  obtain ⟨pa, ca, rfl, h1, h2, h3⟩ := Dgs.read hx.dgs
  obtain ⟨pb, cb, rfl, k1, k2, k3⟩ := Dgs.read hy.dgs
  by_cases hlt : (digs 1000000000 a).length < (digs 1000000000 b).length
  · refine (plus_walk pb pa cb ca _ _ _ _ w (dig_digs zo b) (dig_digs zo a) hb zo (.inr ⟨rfl, rfl, hlt⟩) k3 h3).mono ?_
    rintro e w' ⟨s, v, rfl, hbl, q1, q2, q3, q4, q5⟩
    refine ⟨v, rfl, hbl, ?_⟩
    have := fin _ _ s w' v (top_digs zo b) q1 q2 q3 q4 q5
    rwa [val_digs zo, val_digs zo, Nat.add_comm] at this
  · refine (plus_walk pa pb ca cb _ _ _ _ w (dig_digs zo a) (dig_digs zo b) ha zo (.inl ⟨rfl, rfl⟩) h3 k3).mono ?_
    rintro e w' ⟨s, v, rfl, hbl, q1, q2, q3, q4, q5⟩
    refine ⟨v, rfl, hbl, ?_⟩
    have := fin _ _ s w' v (top_digs zo a) q1 q2 q3 q4 q5
    rwa [val_digs zo, val_digs zo] at this
theorem minus_walk (pl ps : Option Addr) (cl cs : Nat) (l m : List Nat) (w : World) (hl : Dig 1000000000 l) (hmd : Dig 1000000000 m) (hb1 : l.length ≤ 1099511627776) (hml : m.length ≤ l.length) (hle : val 1000000000 m ≤ val 1000000000 l)
   (hc : ∀ k, k < l.length → ∃ b off, pl = some ⟨b, off, none⟩ ∧ b < w.heap.size ∧ w.cell? ⟨b, off + k, none⟩ = some (.int .u32 (l.getD k 0 : Nat)))
   (hd : ∀ k, k < m.length → ∃ b off, ps = some ⟨b, off, none⟩ ∧ b < w.heap.size ∧ w.cell? ⟨b, off + k, none⟩ = some (.int .u32 (m.getD k 0 : Nat))) :
    Calls Tryz.prog 176 #[.slice pl l.length cl, .slice ps m.length cs] w fun e w' => ∃ v, e = .returned v ∧ Below w.heap.size w w' ∧ Mag w' v (val 1000000000 l - val 1000000000 m) := by
  obtain ⟨i0, hi, hz0, hz1, hz2⟩ := info_parts infoU
  have HLE := zh hle
  clear hle
  go_enter Tryz.func176, Tryz.ntmps176
  go_wp2_with (at_make; refine wpList_make_full _ rfl _ _ 120 rfl w.heap.size 24 i0 (.int .u32 0) 1 Tryz.underlying120 hi hz0 hz1 _ _ _ _ l.length rfl rfl zo zo (by rw [hz2]; omega) (by unfold maxLen; omega) (Nat.le_refl _) ?_)
  intro w0 hown0 hgrow0
  rw [made_u32] at hown0
  go_wp2
  go_loopw [6, 7, 8, 9, 15] (fun cv _ _ _ kv wr => ∃ (k c : Nat) (s : List Nat), k ≤ l.length ∧ c ≤ 1 ∧ Hid (s.length = k) ∧ kv = .int .i64 k ∧ cv = .int .u32 c ∧
      wr.ownsRow w.heap.size 24 1 (.slice (some ⟨w.heap.size, 0, none⟩) l.length l.length) l.length (u32s (s ++ List.replicate (l.length - k) 0)) ∧ Dig 1000000000 s ∧ Hid (val 1000000000 s + val 1000000000 (m.take k) = val 1000000000 (l.take k) + c * 1000000000 ^ k) ∧ Below w.heap.size w wr)
    (fun _ _ _ _ kv _ => l.length - (intOf kv).toNat)
  case atStart => exact ⟨0, 0, [], Nat.zero_le _, by omega, rfl, rfl, rfl, by simpa using hown0, Dig.nil, (by simp [val] : val _ _ + val _ _ = val _ _ + 0 * _), (Below.refl _ _).grown hgrow0 (Nat.le_refl _) (fun k h => by cases h)⟩
  case round =>
    obtain ⟨k, c, s, hk, hc1, HS, rfl, rfl, hown, hds, HV, hb⟩ := hrel
    by_cases hkl : k < l.length
    · obtain ⟨b, off, rfl, hbb, hx0⟩ := hc k hkl
      have hx : wr.cell? ⟨b, off + k, none⟩ = some (.int .u32 (l.getD k 0 : Nat)) := (hb.cell (by exact hbb)).trans hx0
      have hdl : l.getD k 0 < 1000000000 := hl.getD zo k
      have hr1 : wr.cell? ⟨w.heap.size, k, none⟩ = some (.int .u32 0) := by
        rw [hown.cellAt k zo, u32s_get (by rw [List.length_append, HS.out, List.length_replicate]; omega), getD_mid HS.out]; rfl
      have hr2 : wr.frozen? ⟨w.heap.size, k, none⟩ = false := hown.frozenAt k
      have HP : Hid (∀ d c', d + m.getD k 0 + c = l.getD k 0 + c' * 1000000000 → val 1000000000 (s ++ [d]) + val 1000000000 (m.take (k + 1)) = val 1000000000 (l.take (k + 1)) + c' * 1000000000 ^ (k + 1)) :=
        fun d c' h => minus_step hkl HS.out HV.out h
      have HO : Hid (∀ d : Nat, (wr.setCell ⟨w.heap.size, k, none⟩ (.int .u32 (d : Int))).ownsRow w.heap.size 24 1 (.slice (some ⟨w.heap.size, 0, none⟩) l.length l.length) l.length (u32s ((s ++ [d]) ++ List.replicate (l.length - (k + 1)) 0)) ∧ Below w.heap.size w (wr.setCell ⟨w.heap.size, k, none⟩ (.int .u32 (d : Int)))) := fun d => by
        have h1 := (hown.stored k (.int .u32 (d : Int))).1
        rw [u32s_set, set_mid HS.out hkl] at h1
        exact ⟨h1, hb.setCell (Nat.le_refl _) _⟩
      clear hx0 hc hown
      by_cases hkm : k < m.length
      · obtain ⟨b2, off2, rfl, hbb2, hy0⟩ := hd k hkm
        have hy : wr.cell? ⟨b2, off2 + k, none⟩ = some (.int .u32 (m.getD k 0 : Nat)) := (hb.cell (by exact hbb2)).trans hy0
        have hdm : m.getD k 0 < 1000000000 := hmd.getD zo k
        clear hy0 hd
        generalize l.getD k 0 = x at *
        generalize m.getD k 0 = y at *
        by_cases hge : x < c + y
        · have HO2 := HO.out (x + 1000000000 - (c + y))
          rw [show ((x + 1000000000 - (c + y) : Nat) : Int) = (x : Int) + 1000000000 - ((c : Int) + (y : Int)) by omega] at HO2
          have HO3 := zh HO2
          clear HO2 HO
          go_wp2
          go_roundw
          case rel => exact ⟨k + 1, 1, s ++ [x + 1000000000 - (c + y)], by omega, by omega, zh (by rw [List.length_append, HS.out]; rfl), by go_num, rfl, HO3.out.1, hds.snoc zo, HP.out _ _ zo, HO3.out.2⟩
          case measure => exact zM
        · have HO2 := HO.out (x - (c + y))
          rw [show ((x - (c + y) : Nat) : Int) = (x : Int) - ((c : Int) + (y : Int)) by omega] at HO2
          have HO3 := zh HO2
          clear HO2 HO
          go_wp2
          go_roundw
          case rel => exact ⟨k + 1, 0, s ++ [x - (c + y)], by omega, by omega, zh (by rw [List.length_append, HS.out]; rfl), by go_num, rfl, HO3.out.1, hds.snoc zo, HP.out _ _ zo, HO3.out.2⟩
          case measure => exact zM
      · have hm0 : m.getD k 0 = 0 := by simp [Nat.le_of_not_lt hkm]
        rw [hm0] at HP
        clear hm0 hd
        generalize l.getD k 0 = x at *
        by_cases hge : x < c
        · have HO2 := HO.out (x + 1000000000 - c)
          rw [show ((x + 1000000000 - c : Nat) : Int) = (x : Int) + 1000000000 - (c : Int) by omega] at HO2
          have HO3 := zh HO2
          clear HO2 HO
          go_wp2
          go_roundw
          case rel => exact ⟨k + 1, 1, s ++ [x + 1000000000 - c], by omega, by omega, zh (by rw [List.length_append, HS.out]; rfl), by go_num, rfl, HO3.out.1, hds.snoc zo, HP.out _ _ zo, HO3.out.2⟩
          case measure => exact zM
        · have HO2 := HO.out (x - c)
          rw [show ((x - c : Nat) : Int) = (x : Int) - (c : Int) by omega] at HO2
          have HO3 := zh HO2
          clear HO2 HO
          go_wp2
          go_roundw
          case rel => exact ⟨k + 1, 0, s ++ [x - c], by omega, by omega, zh (by rw [List.length_append, HS.out]; rfl), by go_num, rfl, HO3.out.1, hds.snoc zo, HP.out _ _ zo, HO3.out.2⟩
          case measure => exact zM
    · have hkk : k = l.length := by omega
      subst hkk
      clear hc hd
      have HV2 : val 1000000000 s + val 1000000000 m = val 1000000000 l + c * 1000000000 ^ l.length := by
        have := HV.out; rwa [List.take_length, List.take_of_length_le hml] at this
      have hvs : val 1000000000 s < 1000000000 ^ l.length := by have := val_lt zo hds; rwa [HS.out] at this
      have hc0 : c = 0 := by
        rcases Nat.eq_zero_or_pos c with h | h
        · exact h
        · exfalso
          have : c = 1 := by omega
          subst this
          have := HLE.out
          omega
      have HF : Hid (val 1000000000 s = val 1000000000 l - val 1000000000 m) := by subst hc0; unfold Hid; omega
      clear HV HV2 hvs HLE
      have hown3 : Dgs wr (.slice (some ⟨w.heap.size, 0, none⟩) l.length l.length) s := by
        have := Dgs.of_owns hown; rwa [Nat.sub_self, List.replicate_zero, List.append_nil] at this
      clear hown
      go_wp2_with (go_at_call 173; refine (trim_ok _ _ _ hown3 hds).mono ?_; rintro e w' ⟨v, rfl, rfl, hv⟩)
      go_ret
      exact ⟨v, rfl, hb, by rw [← HF.out]; exact hv⟩
theorem minus_ok (x y : Value) (a b : Nat) (w : World) (hx : Mag w x a) (hy : Mag w y b) (ha : sz 1000000000 a ≤ 1099511627776) (hle : b ≤ a) :
    Calls Tryz.prog 176 #[x, y] w fun e w' => ∃ v, e = .returned v ∧ Below w.heap.size w w' ∧ Mag w' v (a - b) := by
  obtain ⟨pa, ca, rfl, h1, h2, h3⟩ := Dgs.read hx.dgs
  obtain ⟨pb, cb, rfl, k1, k2, k3⟩ := Dgs.read hy.dgs
  have := minus_walk pa pb ca cb _ _ w (dig_digs zo a) (dig_digs zo b) ha (sz_mono zo hle) (by rw [val_digs zo, val_digs zo]; exact hle) h3 k3
  rwa [val_digs zo, val_digs zo] at this
theorem prod_bd {x y : Nat} (hx : x < 1000000000) (hy : y < 1000000000) : (0 : Int) ≤ (x : Int) * (y : Int) ∧ (x : Int) * (y : Int) ≤ 999999998000000001 := by
  have h : x * y ≤ 999999999 * 999999999 := Nat.mul_le_mul zo zo
  rw [← Int.natCast_mul]
  omega
theorem times_walk (pl ps : Option Addr) (cl cs : Nat) (l m : List Nat) (w : World) (hl : Dig 1000000000 l) (hmd : Dig 1000000000 m) (hb1 : l.length ≤ 1099511627776) (hb2 : m.length ≤ 1099511627776)
   (hc : ∀ k, k < l.length → ∃ b off, pl = some ⟨b, off, none⟩ ∧ b < w.heap.size ∧ w.cell? ⟨b, off + k, none⟩ = some (.int .u32 (l.getD k 0 : Nat)))
   (hd : ∀ k, k < m.length → ∃ b off, ps = some ⟨b, off, none⟩ ∧ b < w.heap.size ∧ w.cell? ⟨b, off + k, none⟩ = some (.int .u32 (m.getD k 0 : Nat))) :
    Calls Tryz.prog 131 #[.slice pl l.length cl, .slice ps m.length cs] w fun e w' => ∃ v, e = .returned v ∧ Below w.heap.size w w' ∧ Mag w' v (val 1000000000 l * val 1000000000 m) := by
  obtain ⟨i0, hi, hz0, hz1, hz2⟩ := info_parts infoU
  go_enter Tryz.func131, Tryz.ntmps131
  go_wp2_with (at_make; refine wpList_make_full _ rfl _ _ 120 rfl w.heap.size 24 i0 (.int .u32 0) 1 Tryz.underlying120 hi hz0 hz1 _ _ _ _ (l.length + m.length) rfl rfl zo zo (by rw [hz2]; omega) (by unfold maxLen; omega) (Nat.le_refl _) ?_)
  intro w0 hown0 hgrow0
  rw [made_u32] at hown0
  go_wp2
  go_loopw [6, 7, 8, 9, 10, 19, 26] (fun _ _ _ _ _ iv _ wr => ∃ (i : Nat) (p : List Nat), i ≤ l.length ∧ iv = .int .i64 i ∧ Hid (p.length = l.length + m.length) ∧ (∀ t, i + m.length ≤ t → p.getD t 0 = 0) ∧
      wr.ownsRow w.heap.size 24 1 (.slice (some ⟨w.heap.size, 0, none⟩) (l.length + m.length) (l.length + m.length)) (l.length + m.length) (u32s p) ∧ Dig 1000000000 p ∧ Hid (val 1000000000 p = val 1000000000 (l.take i) * val 1000000000 m) ∧ Below w.heap.size w wr)
    (fun _ _ _ _ _ iv _ _ => l.length - (intOf iv).toNat)
  case atStart => exact ⟨0, List.replicate (l.length + m.length) 0, Nat.zero_le _, rfl, zh zi, fun t _ => by simp [List.getD, List.getElem?_replicate]; split <;> rfl, hown0, fun x hx => by rw [List.eq_of_mem_replicate hx]; omega, zh (by rw [val_zeros]; simp [val]), (Below.refl _ _).grown hgrow0 (Nat.le_refl _) (fun k h => by cases h)⟩
  case round =>
    obtain ⟨i, p, hil, rfl, HL, hz, hown, hdp, HV, hb⟩ := hrel
    have HZ := zh hz
    clear hz
    by_cases hlt : i < l.length
    · obtain ⟨b, off, rfl, hbb, hx0⟩ := hc i hlt
      have hx : wr.cell? ⟨b, off + i, none⟩ = some (.int .u32 (l.getD i 0 : Nat)) := (hb.cell (by exact hbb)).trans hx0
      have hdl : l.getD i 0 < 1000000000 := hl.getD zo i
      clear hx0 hc
      have HD : Hid (l.getD i 0 = l.getD i 0) := rfl
      revert HD
      generalize hx9 : l.getD i 0 = x at hx hdl
      have HX := zh hx9
      clear hx9
      intro _
      obtain ⟨wo, rfl⟩ : ∃ wo : World, wo = wr := ⟨_, rfl⟩
      go_wp2
      go_loopw [8, 9, 10, 26] (fun cv _ _ jv wq => ∃ (j c : Nat) (q : List Nat), j ≤ m.length ∧ c < 1000000000 ∧ jv = .int .i64 j ∧ cv = .int .u64 c ∧ Hid (q.length = l.length + m.length) ∧ Hid (∀ t, i + m.length ≤ t → q.getD t 0 = 0) ∧
          wq.ownsRow w.heap.size 24 1 (.slice (some ⟨w.heap.size, 0, none⟩) (l.length + m.length) (l.length + m.length)) (l.length + m.length) (u32s q) ∧ Dig 1000000000 q ∧ Hid (val 1000000000 q + c * 1000000000 ^ (i + j) = val 1000000000 (l.take i) * val 1000000000 m + 1000000000 ^ i * (x * val 1000000000 (m.take j))) ∧ Below w.heap.size w wq)
        (fun _ _ _ jv _ => m.length - (intOf jv).toNat)
      case atStart => exact ⟨0, 0, p, Nat.zero_le _, by omega, rfl, rfl, HL, HZ, hown, hdp, zh (by rw [HV.out]; simp [val]), hb⟩
      case round =>
        obtain ⟨j, c, q, hjl, hcb, rfl, rfl, HLq, HZq, hown, hdq, HVq, hb⟩ := hrel
        by_cases hjlt : j < m.length
        · obtain ⟨b2, off2, rfl, hbb2, hy0⟩ := hd j hjlt
          have hy : wr.cell? ⟨b2, off2 + j, none⟩ = some (.int .u32 (m.getD j 0 : Nat)) := (hb.cell (by exact hbb2)).trans hy0
          have hdm : m.getD j 0 < 1000000000 := hmd.getD zo j
          have hij : i + j < q.length := by have := HLq.out; omega
          have hq1 : wr.cell? ⟨w.heap.size, i + j, none⟩ = some (.int .u32 (q.getD (i + j) 0 : Nat)) := by rw [hown.cellAt (i + j) zo, u32s_get hij]
          have hq2 : wr.frozen? ⟨w.heap.size, i + j, none⟩ = false := hown.frozenAt (i + j)
          have hdq1 : q.getD (i + j) 0 < 1000000000 := hdq.getD zo (i + j)
          have HS := zh (times_step hjlt hij HVq.out)
          have HC := zh (times_carry hcb hdq1 hdl hdm)
          have HO : Hid (∀ d : Nat, d < 1000000000 → (wr.setCell ⟨w.heap.size, i + j, none⟩ (.int .u32 (d : Int))).ownsRow w.heap.size 24 1 (.slice (some ⟨w.heap.size, 0, none⟩) (l.length + m.length) (l.length + m.length)) (l.length + m.length) (u32s (q.set (i + j) d)) ∧
              Below w.heap.size w (wr.setCell ⟨w.heap.size, i + j, none⟩ (.int .u32 (d : Int))) ∧ Dig 1000000000 (q.set (i + j) d) ∧ (q.set (i + j) d).length = l.length + m.length ∧ (∀ t, i + m.length ≤ t → (q.set (i + j) d).getD t 0 = 0)) := fun d hd => by
            have h1 := (hown.stored (i + j) (.int .u32 (d : Int))).1
            rw [u32s_set] at h1
            exact ⟨h1, hb.setCell (Nat.le_refl _) _, hdq.set _ hd, by rw [List.length_set]; exact HLq.out, fun t ht => by rw [lset_ne zo]; exact HZq.out t ht⟩
          clear hy0 hd hown HVq hdq HLq HZq hij
          generalize m.getD j 0 = y at *
          generalize q.getD (i + j) 0 = z at *
          obtain ⟨hp1, hp2⟩ := prod_bd hdl hdm
          have hr : ((((c + (z + x * y)) % 1000000000 : Nat)) : Int) = ((c : Int) + ((z : Int) + (x : Int) * (y : Int))) % 1000000000 := by rw [Int.natCast_emod, Int.natCast_add, Int.natCast_add, Int.natCast_mul]; rfl
          have hq : ((((c + (z + x * y)) / 1000000000 : Nat)) : Int) = ((c : Int) + ((z : Int) + (x : Int) * (y : Int))) / 1000000000 := by rw [Int.natCast_ediv, Int.natCast_add, Int.natCast_add, Int.natCast_mul]; rfl
          have HO2 := HO.out _ (Nat.mod_lt (c + (z + x * y)) zo)
          rw [hr] at HO2
          have HO3 := zh HO2
          have HR := zh hq
          clear HO HO2 hr hq
          go_wp2
          go_roundw
          case rel => exact ⟨j + 1, (c + (z + x * y)) / 1000000000, q.set (i + j) ((c + (z + x * y)) % 1000000000), by omega, HC.out, by go_num, by rw [HR.out], zh HO3.out.2.2.2.1, zh HO3.out.2.2.2.2, HO3.out.1, HO3.out.2.2.1, zh (by rw [← Nat.add_assoc i j 1]; exact HS.out), HO3.out.2.1⟩
          case measure => exact zM
        · have hjm : j = m.length := by omega
          subst hjm
          have hij : i + m.length < q.length := by have := HLq.out; omega
          have hq1 : wr.cell? ⟨w.heap.size, i + m.length, none⟩ = some (.int .u32 0) := by rw [hown.cellAt (i + m.length) zo, u32s_get hij, HZq.out _ (Nat.le_refl _)]; rfl
          have hq2 : wr.frozen? ⟨w.heap.size, i + m.length, none⟩ = false := hown.frozenAt (i + m.length)
          have HF : Hid (val 1000000000 (q.set (i + m.length) c) = val 1000000000 (l.take (i + 1)) * val 1000000000 m) :=
            times_outer hlt hij (HZq.out _ (Nat.le_refl _)) (by have := HVq.out; rw [List.take_length] at this; rw [HX.out]; exact this)
          have HO : Hid ((wr.setCell ⟨w.heap.size, i + m.length, none⟩ (.int .u32 (c : Int))).ownsRow w.heap.size 24 1 (.slice (some ⟨w.heap.size, 0, none⟩) (l.length + m.length) (l.length + m.length)) (l.length + m.length) (u32s (q.set (i + m.length) c)) ∧
              Below w.heap.size w (wr.setCell ⟨w.heap.size, i + m.length, none⟩ (.int .u32 (c : Int))) ∧ Dig 1000000000 (q.set (i + m.length) c) ∧ (q.set (i + m.length) c).length = l.length + m.length ∧ (∀ t, i + 1 + m.length ≤ t → (q.set (i + m.length) c).getD t 0 = 0)) := by
            have h1 := (hown.stored (i + m.length) (.int .u32 (c : Int))).1
            rw [u32s_set] at h1
            exact ⟨h1, hb.setCell (Nat.le_refl _) _, hdq.set _ hcb, by rw [List.length_set]; exact HLq.out, fun t ht => by rw [lset_ne zo]; exact HZq.out t zo⟩
          clear hown HVq hdq HLq HZq hij hd
          go_wp2
          go_roundw
          case rel => exact ⟨i + 1, q.set (i + m.length) c, by omega, by go_num, zh HO.out.2.2.2.1, HO.out.2.2.2.2, HO.out.1, HO.out.2.2.1, HF, HO.out.2.1⟩
          case measure => exact zM
    · have hil' : i = l.length := by omega
      subst hil'
      clear hc hd
      have HF : Hid (val 1000000000 p = val 1000000000 l * val 1000000000 m) := by have := HV.out; rwa [List.take_length] at this
      have hown3 : Dgs wr (.slice (some ⟨w.heap.size, 0, none⟩) (l.length + m.length) (l.length + m.length)) p := Dgs.of_owns hown
      clear hown HV
      go_wp2_with (go_at_call 173; refine (trim_ok _ _ _ hown3 hdp).mono ?_; rintro e w' ⟨v, rfl, rfl, hv⟩)
      go_ret
      exact ⟨v, rfl, hb, by rw [← HF.out]; exact hv⟩
theorem times_ok (x y : Value) (a b : Nat) (w : World) (hx : Mag w x a) (hy : Mag w y b) (ha : sz 1000000000 a ≤ 1099511627776) (hb : sz 1000000000 b ≤ 1099511627776) :
    Calls Tryz.prog 131 #[x, y] w fun e w' => ∃ v, e = .returned v ∧ Below w.heap.size w w' ∧ Mag w' v (a * b) := by
  obtain ⟨pa, ca, rfl, h1, h2, h3⟩ := Dgs.read hx.dgs
  obtain ⟨pb, cb, rfl, k1, k2, k3⟩ := Dgs.read hy.dgs
  have := times_walk pa pb ca cb _ _ w (dig_digs zo a) (dig_digs zo b) ha hb h3 k3
  rwa [val_digs zo, val_digs zo] at this
end Go.Proofs.frac
