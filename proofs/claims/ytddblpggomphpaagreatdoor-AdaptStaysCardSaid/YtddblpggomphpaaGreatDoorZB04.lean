/- Lemmas for the proof. No condition. -/
import Derived.Test.YtddblpggomphpaaGreatDoorZB01
import Derived.Test.YtddblpggomphpaaGreatDoorZB02
import Derived.Test.YtddblpggomphpaaGreatDoorZB03
import Derived.WalkMore
set_option linter.unusedVariables false
set_option linter.unusedSimpArgs false
namespace Go.Proofs.frac
open Go Go.RowKit Go.SW Go.Num Go.Mem Go.Proofs Go.Dec
theorem infoG : (Tryz.prog.info? 113).map (fun i => (i.zero, i.size, i.bytes)) = some (some (.int .u32 0), 1, 4) := by kernel_rfl
set_option maxRecDepth 10000 in
set_option maxHeartbeats 1000000 in
theorem gather_ok (s : ByteArray) (hs : s.size ≤ 1099511627776) (hd : DigS s.data.toList) (w : World) :
  Calls Tryz.prog 208 #[.string s] w (fun e w' => ∃ v, e = .returned v ∧ Below w.heap.size w w' ∧ Mag w' v (num s.data.toList)) := by
 obtain ⟨i0, hi, hz0, hz1, hz2⟩ := info_parts infoG
 generalize hbs : s.data.toList = bs at *
 have hn : bs.length = s.size := by rw [← hbs]; rfl
 have HBS := Lib.hid hbs
 have HN := Lib.hid hn
 clear hbs hn
 go_enter Tryz.func208, Tryz.ntmps208
 go_wp2_with fail
 go_step3
 go_wp2_with fail
 go_step3
 go_wp2_with fail
 go_loopw [3, 4] (fun mv ev wr => ∃ (e : Nat) (ls : List Nat), ev = .int .i64 (e : Int) ∧ Hid (e + 9 * ls.length = s.size) ∧ Dig 1000000000 ls ∧ Hid (val 1000000000 ls = num (bs.drop e)) ∧ wr.ownsRow w.heap.size 113 1 mv ls.length (u32s ls) ∧ Below w.heap.size w wr) (fun _ ev _ => (intOf ev).toNat)
 case atStart => exact ⟨s.size, [], rfl, Lib.hid (by simp), Dig.nil, Lib.hid (by rw [← HN.out, List.drop_length]; simp [val, num]), World.ownsRow_nil _ _ _ _, Below.refl _ _⟩
 case round =>
  obtain ⟨e, ls, rfl, HE, hdl, HV, hown, hbr⟩ := hrel
  have he : e ≤ s.size := by have := HE.out; omega
  rcases Nat.lt_or_ge e 9 with h9 | h9
  ·skip
   have hmx : (e : Int) - 9 < 0 := by omega
   have hmx2 : max ((e : Int) - 9) 0 = 0 := by omega
   have hgl := group_lt hd (st := 0) (i := e) (by omega)
   go_wp2_with fail
   go_loopw [6, 7] (fun v6 v7 wi => ∃ i : Nat, v7 = .int .i64 (i : Int) ∧ 0 ≤ i ∧ i ≤ e ∧ Hid (v6 = .int .u32 (num ((bs.take i).drop (0)) : Nat)) ∧ wr = wi) (fun _ v7 _ => e - (intOf v7).toNat)
   case atStart => exact ⟨0, rfl, Nat.le_refl _, by omega, Lib.hid (by rw [List.drop_eq_nil_of_le (by rw [List.length_take]; omega)]; rfl), rfl⟩
   case round =>
    obtain ⟨i, rfl, hi1, hi2, H6, rfl⟩ := hrel
    have e6 := H6.out
    subst e6
    rcases Nat.lt_or_ge i e with hie | hie
    ·have his : i < s.size := by omega
     have hx : bs[i]? = some s[i] := by rw [← HBS.out, Array.getElem?_toList]; exact Array.getElem?_eq_getElem his
     have HS := Lib.hid (gather_step hd hi1 (by omega) hx)
     go_wp2_with fail
     exact ⟨⟨i + 1, rfl, by omega, by omega, Lib.hid (by simp only [List.drop_zero] at HS ⊢; rw [HS.out]), trivial⟩, by simp only [intOf]; omega⟩
    ·have hie : i = e := by omega
     subst hie
     have HG := Lib.hid (num_group (bs := bs) (s := 0) (e := i) (by omega) (by have := HN.out; omega))
     have hlen : bs.length - i = 9 * ls.length := by have := HE.out; have := HN.out; omega
     rw [hlen, Nat.pow_mul, ← HV.out] at HG
     generalize num ((bs.take i).drop (0)) = gv at *
     clear H6
     go_wp2_with (at_builtin; refine wpList_append_own _ rfl (.tmp 29) (.tmp 31) 121 rfl w.heap.size 113 i0 (.int .u32 0) 1 4 Tryz.underlying121 hi hz0 hz1 hz2 rfl (by decide) _ _ _ rfl (hown.alloc _) ⟨wr.heap.size, 0, none⟩ 1 1 [.int .u32 (gv : Int)] rfl rfl (by intro t u ht; match t, ht with | 0, ht => simp at ht; subst ht; simp [Addr.add]) (by intro u hu; simp at hu; subst hu; rfl) (by unfold maxLen; have := HE.out; omega) (by have := HE.out; omega) (by have := hbr.size; simp; omega) ?_)
     intro v' w1 hown1 hgrow1 _
     have hown2 : w1.ownsRow w.heap.size 113 1 v' (ls ++ [gv]).length (u32s (ls ++ [gv])) := by
      have e : u32s (ls ++ [gv]) = u32s ls ++ [.int .u32 (gv : Int)] := by unfold u32s; simp only [List.map_append, List.map_cons, List.map_nil]
      rw [e, List.length_append]; exact hown1
     have hb3 : Below w.heap.size w w1 := (hbr.alloc hbr.size _).grown hgrow1 (by simp; have := hbr.size; omega) (fun k hk => (hown.lt k hk).1)
     have HV2 : Hid (val 1000000000 (ls ++ [gv]) = num (bs.drop (0))) := by
      unfold Hid
      rw [val_snoc, HG.out, Nat.add_comm, Nat.mul_comm]
     clear hown hown1 hgrow1
     have hdl2 : Dig 1000000000 (ls ++ [gv]) := hdl.snoc hgl
     go_wp2_with (go_at_call 215; refine (trim_ok _ _ _ (Row.of_owns hown2) hdl2).mono ?_; rintro e w' ⟨v, rfl, rfl, hv⟩; have HM := Lib.hid hv; clear hv)
     rw [HV2.out, List.drop_zero] at HM
     rw [Exit.noGoto_ret]
     go_ret
     exact ⟨_, rfl, hb3, HM.out⟩
  ·skip
   obtain ⟨f, rfl⟩ : ∃ f, e = f + 9 := ⟨e - 9, by omega⟩
   have hgl := group_lt hd (st := f) (i := f + 9) (by omega)
   go_wp2_with fail
   go_loopw [6, 7] (fun v6 v7 wi => ∃ i : Nat, v7 = .int .i64 (i : Int) ∧ f ≤ i ∧ i ≤ f + 9 ∧ Hid (v6 = .int .u32 (num ((bs.take i).drop (f)) : Nat)) ∧ wr = wi) (fun _ v7 _ => f + 9 - (intOf v7).toNat)
   case atStart => exact ⟨f, rfl, Nat.le_refl _, by omega, Lib.hid (by rw [List.drop_eq_nil_of_le (by rw [List.length_take]; omega)]; rfl), rfl⟩
   case round =>
    obtain ⟨i, rfl, hi1, hi2, H6, rfl⟩ := hrel
    have e6 := H6.out
    subst e6
    rcases Nat.lt_or_ge i (f + 9) with hie | hie
    ·have his : i < s.size := by omega
     have hx : bs[i]? = some s[i] := by rw [← HBS.out, Array.getElem?_toList]; exact Array.getElem?_eq_getElem his
     have HS := Lib.hid (gather_step hd hi1 (by omega) hx)
     go_wp2_with fail
     exact ⟨⟨i + 1, rfl, by omega, by omega, Lib.hid (by rw [HS.out]), trivial⟩, by simp only [intOf]; omega⟩
    ·obtain rfl : i = f + 9 := by omega
     have HG := Lib.hid (num_group (bs := bs) (s := f) (e := f + 9) (by omega) (by have := HN.out; omega))
     have hlen : bs.length - (f + 9) = 9 * ls.length := by have := HE.out; have := HN.out; omega
     rw [hlen, Nat.pow_mul, ← HV.out] at HG
     generalize num ((bs.take (f + 9)).drop f) = gv at *
     clear H6
     go_wp2_with (at_builtin; refine wpList_append_own _ rfl (.tmp 29) (.tmp 31) 121 rfl w.heap.size 113 i0 (.int .u32 0) 1 4 Tryz.underlying121 hi hz0 hz1 hz2 rfl (by decide) _ _ _ rfl (hown.alloc _) ⟨wr.heap.size, 0, none⟩ 1 1 [.int .u32 (gv : Int)] rfl rfl (by intro t u ht; match t, ht with | 0, ht => simp at ht; subst ht; simp [Addr.add]) (by intro u hu; simp at hu; subst hu; rfl) (by unfold maxLen; have := HE.out; omega) (by have := HE.out; omega) (by have := hbr.size; simp; omega) ?_)
     intro v' w1 hown1 hgrow1 _
     have hown2 : w1.ownsRow w.heap.size 113 1 v' (ls ++ [gv]).length (u32s (ls ++ [gv])) := by
      have e : u32s (ls ++ [gv]) = u32s ls ++ [.int .u32 (gv : Int)] := by unfold u32s; simp only [List.map_append, List.map_cons, List.map_nil]
      rw [e, List.length_append]; exact hown1
     have hb3 : Below w.heap.size w w1 := (hbr.alloc hbr.size _).grown hgrow1 (by simp; have := hbr.size; omega) (fun k hk => (hown.lt k hk).1)
     have HV2 : Hid (val 1000000000 (ls ++ [gv]) = num (bs.drop (f))) := by
      unfold Hid
      rw [val_snoc, HG.out, Nat.add_comm, Nat.mul_comm]
     clear hown hown1 hgrow1
     have hdl2 : Dig 1000000000 (ls ++ [gv]) := hdl.snoc hgl
     rcases Nat.eq_zero_or_pos f with hf | hf
     ·subst hf
      rw [List.drop_zero] at HV2
      go_wp2_with (go_at_call 215; refine (trim_ok _ _ _ (Row.of_owns hown2) hdl2).mono ?_; rintro e w' ⟨v, rfl, rfl, hv⟩; have HM := Lib.hid hv; clear hv)
      rw [HV2.out] at HM
      rw [Exit.noGoto_ret]
      go_ret
      exact ⟨_, rfl, hb3, HM.out⟩
     ·have hf0 : ((f : Int) == 0) = false := by simp; omega
      go_wp2_with fail
      refine ⟨⟨f, ls ++ [gv], rfl, Lib.hid ?_, hdl2, HV2, hown2, hb3⟩, ?_⟩
      ·have := HE.out
       rw [List.length_append, List.length_singleton]
       omega
      ·simp only [intOf]
       omega
end Go.Proofs.frac
namespace Go.Proofs.frac
open Go Go.RowKit Go.SW Go.Num Go.Mem Go.Proofs
theorem Mag.inj {w : World} {v : Value} {m n : Nat} (h : Mag w v m) (k : Mag w v n) : m = n := by
 obtain ⟨p, c, rfl, -, -, h1⟩ := Dgs.read h.dgs
 obtain ⟨p', c', e, -, -, h2⟩ := Dgs.read k.dgs
 simp only [Value.slice.injEq] at e
 obtain ⟨rfl, hl, rfl⟩ := e
 have : digs 1000000000 m = digs 1000000000 n := by
  refine List.ext_getElem hl fun i hi hi2 => ?_
  obtain ⟨b, o, e, -, hc⟩ := h1 i hi
  obtain ⟨b', o', e', -, hc'⟩ := h2 i hi2
  rw [e] at e'
  simp only [Option.some.injEq, Addr.mk.injEq, and_true] at e'
  obtain ⟨rfl, rfl⟩ := e'
  rw [hc] at hc'
  simp only [Option.some.injEq, Value.int.injEq, true_and] at hc'
  rw [List.getD_eq_getElem?_getD, List.getD_eq_getElem?_getD, List.getElem?_eq_getElem hi, List.getElem?_eq_getElem hi2] at hc'
  simpa using Int.ofNat_inj.mp hc'
 rw [← val_digs (B := 1000000000) (by omega) m, this, val_digs (by omega)]
open Classical in
noncomputable def magOf (w : World) (v : Value) : Nat := if h : ∃ n, Mag w v n then h.choose else 0
theorem magOf_eq {w : World} {v : Value} {n : Nat} (h : Mag w v n) : magOf w v = n := by
 unfold magOf
 rw [dif_pos ⟨n, h⟩]
 exact Mag.inj (Exists.choose_spec (⟨n, h⟩ : ∃ n, Mag w v n)) h
set_option maxRecDepth 10000 in
theorem gcd_ok (x y : Value) (a b : Nat) (w : World) (hx : Mag w x a) (hy : Mag w y b) (ha : sz 1000000000 a ≤ 549755813888) (hb : sz 1000000000 b ≤ 549755813888) :
  Calls Tryz.prog 184 #[x, y] w (fun e w' => ∃ v, e = .returned v ∧ Below w.heap.size w w' ∧ Mag w' v (Nat.gcd a b)) := by
 generalize hG : Nat.gcd a b = G
 have HG := Lib.hid hG
 have HX := Lib.hid hx
 have HY := Lib.hid hy
 clear hx hy hG
 go_enter Tryz.func184, Tryz.ntmps184
 go_wp2_with fail
 go_loopw [0, 1] (fun vx vy wr => ∃ a b : Nat, Hid (Mag wr vx a) ∧ Hid (Mag wr vy b) ∧ Hid (Nat.gcd a b = G) ∧ Hid (sz 1000000000 a ≤ 549755813888) ∧ Hid (sz 1000000000 b ≤ 549755813888) ∧ Below w.heap.size w wr) (fun _ vy wr => magOf wr vy)
 case atStart => exact ⟨a, b, HX, HY, HG, Lib.hid ha, Lib.hid hb, Below.refl _ _⟩
 case round =>
  obtain ⟨a, b, HX, HY, HG, HA, HB, hbr⟩ := hrel
  obtain ⟨p, c, rfl, hc1, hc2, hread⟩ := Dgs.read HX.out.dgs
  obtain ⟨p', c', rfl, hc1', hc2', hread'⟩ := Dgs.read HY.out.dgs
  clear hread hread'
  have HLA := Lib.hid (show ((digs 1000000000 a).length : Int) ≤ 2 → a ≤ 18446744073709551615 from fun h => by
   have h1 := lt_pow_sz (B := 1000000000) (by omega) a
   have h2 : (1000000000 : Nat) ^ sz 1000000000 a ≤ 1000000000 ^ 2 := Nat.pow_le_pow_right (by omega) (by unfold sz; omega)
   omega)
  have HLB := Lib.hid (show ((digs 1000000000 b).length : Int) ≤ 2 → b ≤ 18446744073709551615 from fun h => by
   have h1 := lt_pow_sz (B := 1000000000) (by omega) b
   have h2 : (1000000000 : Nat) ^ sz 1000000000 b ≤ 1000000000 ^ 2 := Nat.pow_le_pow_right (by omega) (by unfold sz; omega)
   omega)
  rcases Nat.eq_zero_or_pos b with h0 | h0
  ·subst h0
   rw [Nat.gcd_zero_right] at HG
   go_wp2_with (go_at_call 141; refine (zero_ok _ 0 _ HY.out).mono ?_; rintro e w1 ⟨rfl, rfl⟩)
   go_ret
   exact ⟨_, rfl, hbr, by rw [← HG.out]; exact HX.out⟩
  ·have hb0 : decide (b = 0) = false := by simp; omega
   go_wp2_with (go_at_call 141; refine (zero_ok _ b _ HY.out).mono ?_; rintro e w1 ⟨rfl, rfl⟩; rw [hb0])
   ·refine (small_ok _ a _ HX.out (HLA.out (by assumption))).mono ?_
    rintro e w' ⟨rfl, rfl⟩
    go_wp2_with fail
    refine (small_ok _ b _ HY.out (HLB.out (by assumption))).mono ?_
    rintro e w' ⟨rfl, rfl⟩
    have hla := HLA.out (by assumption)
    have hlb := HLB.out (by assumption)
    go_wp2_with fail
    go_loopw [5, 6] (fun v5 v6 wi => ∃ c d : Nat, v5 = .int .u64 (c : Int) ∧ v6 = .int .u64 (d : Int) ∧ c ≤ 18446744073709551615 ∧ d ≤ 18446744073709551615 ∧ Hid (Nat.gcd c d = G) ∧ Below w.heap.size w wi) (fun _ v6 _ => (intOf v6).toNat)
    case atStart => exact ⟨a, b, rfl, rfl, hla, hlb, HG, hbr⟩
    case round =>
     obtain ⟨c, d, rfl, rfl, hc, hd, HG2, hbi⟩ := hrel
     rcases Nat.eq_zero_or_pos d with h1 | h1
     ·subst h1
      rw [Nat.gcd_zero_right] at HG2
      go_wp2_with fail
      refine (fromSmall_ok c _ hc).mono ?_
      rintro e w3 ⟨v3, rfl, hb3, hv3⟩
      have HV3 := Lib.hid hv3
      clear hv3
      go_wp2_with fail
      go_ret
      exact ⟨_, rfl, Bt hbi hb3, by rw [← HG2.out]; exact HV3.out⟩
     ·have hcd : ((c % d : Nat) : Int) = (c : Int) % (d : Int) := Int.natCast_emod _ _
      have hlt : c % d < d := Nat.mod_lt _ h1
      go_wp2_with fail
      go_quiet (fail)
      go_wp2_with fail
      refine ⟨⟨d, c % d, rfl, by rw [hcd], hd, by omega, Lib.hid ?_, below_drewN hbi _⟩, ?_⟩
      ·rw [← HG2.out, Nat.gcd_comm d, ← Nat.gcd_rec, Nat.gcd_comm]
      ·rw [← hcd]
       simp only [intOf]
       omega
   all_goals
    refine (divide_ok _ _ a b _ HX.out HY.out h0 HA.out).mono ?_
    rintro e w2 ⟨vq, vr, rfl, hb2, hq, hr⟩
    have HR := Lib.hid hr
    clear hq hr
    go_wp2_with fail
    refine ⟨⟨b, a % b, Lib.hid (HY.out.later hb2), HR, Lib.hid ?_, HB, Lib.hid (Nat.le_trans (sz_mono (by omega) (Nat.mod_le _ _)) HA.out), Bt hbr hb2⟩, ?_⟩
    ·rw [← HG.out, Nat.gcd_comm b, ← Nat.gcd_rec, Nat.gcd_comm]
    ·rw [magOf_eq HR.out, magOf_eq HY.out]
     exact Nat.mod_lt _ h0
end Go.Proofs.frac
namespace Go.Proofs.frac
open Go Go.RowKit Go.SW Go.Num Go.Mem Go.Proofs Go.Dec
set_option maxRecDepth 10000 in
theorem signed_ok (m : Value) (n : Nat) (b : Bool) (w : World) (h : Mag w m n) :
  Calls Tryz.prog 170 #[m, .bool b] w (fun e w' => ∃ v, e = .returned v ∧ Below w.heap.size w w' ∧ IntV w' v (sgd n b)) := by
 obtain ⟨paH, lH, caH, rfl⟩ := h.slice; have H := Lib.hid h; clear h
 cases b
 all_goals
  go_enter Tryz.func170, Tryz.ntmps170
  go_wp2_with (go_at_call 141; refine (zero_ok _ n _ magA).mono ?_; rintro e w1 ⟨rfl, rfl⟩)
  refine ret_c rfl rfl boxA Tryz.underlying123 rfl (by kernel_rfl) ?_
  refine ⟨_, rfl, belA, IntV.mk magA (sgd_natAbs n _).symm ?_⟩
  rw [← sgd_neg]
  rfl
set_option maxRecDepth 10000 in
theorem number_ok (z : Int) (hz : (Lib.decDigits z.natAbs).length ≤ 600) (w : World) :
  Calls Tryz.prog 168 #[itxt z] w (fun e w' => ∃ v, e = .returned v ∧ Below w.heap.size w w' ∧ IntV w' v z) := by
 have HC := Lib.hid (whole.cutPrefix_ok ⟨(Lib.itoa z).toArray⟩)
 have e1 : (⟨(Lib.itoa z).toArray⟩ : ByteArray).data.toList = Lib.itoa z := rfl
 rw [e1, cut_itoa] at HC
 have HG := Lib.hid (fun w => gather_ok ⟨(Lib.decDigits z.natAbs).toArray⟩ (Nat.le_trans hz (by omega)) (digS_dec _) w)
 have e2 : (⟨(Lib.decDigits z.natAbs).toArray⟩ : ByteArray).data.toList = Lib.decDigits z.natAbs := rfl
 rw [e2, num_dec] at HG
 clear hz
 unfold itxt
 go_enter Tryz.func168, Tryz.ntmps168
 go_wp2_with (first
  | (go_at_call 189; refine (HC.out _).mono ?_; rintro e w1 ⟨rfl, rfl⟩)
  | (go_at_call 208; refine (HG.out _).mono ?_; rintro e w2 ⟨v, rfl, hb2, hv⟩; obtain ⟨paHV, lHV, caHV, rfl⟩ := hv.slice; have HV := Lib.hid hv; clear hv; have BR := Box.later (Box.new _ _ _) hb2; have cBR := BR.cell; have fBR := BR.free))
 refine ret_c rfl rfl boxA Tryz.underlying123 rfl (by kernel_rfl) ?_
 exact ⟨_, rfl, belA, IntV.of_neg magA⟩
set_option maxRecDepth 10000 in
theorem opposite_ok (v : Value) (z : Int) (w : World) (h : IntV w v z) :
  Calls Tryz.prog 137 #[v] w (fun e w' => ∃ v, e = .returned v ∧ Below w.heap.size w w' ∧ IntV w' v (-z)) := by
 obtain ⟨paH, lH, caH, rfl, H⟩ := h; replace H := Lib.hid H
 go_enter Tryz.func137, Tryz.ntmps137
 go_wp2_with (go_at_call 170; refine (signed_ok _ _ _ _ magA).mono ?_; rintro e w1 ⟨v, rfl, hb1, hv⟩; obtain ⟨paH1, lH1, caH1, rfl, H1⟩ := hv; replace H1 := Lib.hid H1; have BR := Box.later (Box.at1 _ _ _ _) hb1; have cBR := BR.cell; have fBR := BR.free)
 refine ret_c rfl rfl boxA Tryz.underlying123 rfl (by kernel_rfl) ?_
 exact ⟨_, rfl, belA, (IntV.of_neg magA).cast (sgd_opp z)⟩
set_option maxRecDepth 10000 in
theorem scaled_ok (v u : Value) (z : Int) (n : Nat) (w : World) (h : IntV w v z) (hu : Mag w u n) (hz : sz 1000000000 z.natAbs ≤ 549755813888) (hn : sz 1000000000 n ≤ 549755813888) :
  Calls Tryz.prog 135 #[v, u] w (fun e w' => ∃ v, e = .returned v ∧ Below w.heap.size w w' ∧ IntV w' v (z * n)) := by
 obtain ⟨paH, lH, caH, rfl, H⟩ := h; replace H := Lib.hid H
 obtain ⟨paHU, lHU, caHU, rfl⟩ := hu.slice; have HU := Lib.hid hu; clear hu
 have HN := Lib.hid hn
 have HZ := Lib.hid hz
 clear hn hz
 go_enter Tryz.func135, Tryz.ntmps135
 go_wp2_with fail
 refine wp_region_walk [(.pure, 0), (.read, 1), (.pure, 2), (.pure, 4), (.read, 5), (.ext, 3), (.ext, 6), (.fin, 7)] (by kernel_rfl) (by kernel_rfl) (allocRuns_of (by kernel_rfl)) (fun _ _ _ _ hd h => And.intro (hd.trans (And.left h)) (And.right h)) ?_
 repeat (first | (refine walk_pure0 rfl rfl (fun J hJ => ?_); go_simp; refine hJ _ ?_; clear hJ J) | (refine walk_load rfl rfl rfl rfl (fun J hJ => ?_); go_simp; refine hJ _ ?_; clear hJ J; try go_simp))
 refine walk_ext rfl rfl (fun w1 hb1 J hJ => ?_); go_simp
 have BR := Box.later (Box.drew (Box.at1 _ _ _ _)) hb1; have cBR := BR.cell; have fBR := BR.free
 refine (times_ok _ _ _ _ _ magA magA (Nat.le_trans HZ.out (by omega)) (Nat.le_trans HN.out (by omega))).mono ?_
 rintro e w2 ⟨v, rfl, hb2, hv⟩
 obtain ⟨paHV, lHV, caHV, rfl⟩ := hv.slice; have HV := Lib.hid hv; clear hv
 replace BR := Box.later (BR) hb2; replace cBR := BR.cell; replace fBR := BR.free
 refine hJ _ _ hb2 ?_
 clear hJ J
 refine walk_ext rfl rfl (fun w3 hb3 J hJ => ?_); go_simp
 replace BR := Box.later (BR) hb3; replace cBR := BR.cell; replace fBR := BR.free
 refine (signed_ok _ (z.natAbs * n) _ _ magA).mono ?_
 rintro e w4 ⟨v, rfl, hb4, hv⟩
 obtain ⟨paH4, lH4, caH4, rfl, H4⟩ := hv; replace H4 := Lib.hid H4
 replace BR := Box.later (BR) hb4; replace cBR := BR.cell; replace fBR := BR.free
 refine hJ _ _ hb4 ?_
 clear hJ J
 refine walk_fin [_] rfl (fun w5 hb5 => ?_)
 replace BR := Box.later (BR) hb5; replace cBR := BR.cell; replace fBR := BR.free
 go_wp2_with fail
 refine ret_c rfl rfl boxA Tryz.underlying123 rfl (by kernel_rfl) ?_
 exact ⟨_, rfl, belA, (IntV.of_neg magA).cast (sgd_mul z n)⟩
end Go.Proofs.frac
namespace Go.Proofs.frac
open Go Go.RowKit Go.SW Go.Num Go.Mem Go.Proofs Go.Dec
set_option maxRecDepth 10000 in
theorem sum_same (pa pb : Option Addr) (l m ca cb : Nat) (z y : Int) (b : Bool) (w : World) (h : Mag w (.slice pa l ca) z.natAbs) (h2 : Mag w (.slice pb m cb) y.natAbs) (hz : decide (z < 0) = b) (hy : decide (y < 0) = b) (kz : sz 1000000000 z.natAbs ≤ 549755813888) (ky : sz 1000000000 y.natAbs ≤ 549755813888) :
  Calls Tryz.prog 136 #[.agg #[.slice pa l ca, .bool b], .agg #[.slice pb m cb, .bool b]] w (fun e w' => ∃ v, e = .returned v ∧ Below w.heap.size w w' ∧ IntV w' v (z + y)) := by
 have H := Lib.hid h
 have H2 := Lib.hid h2
 have KZ := Lib.hid kz
 have KY := Lib.hid ky
 have HE := Lib.hid (sgd_add hz hy)
 clear h h2 kz ky hz hy
 cases b
 all_goals
  go_enter Tryz.func136, Tryz.ntmps136
  go_wp2_with fail
  refine wp_region_walk [(.pure, 0), (.read, 1), (.pure, 2), (.read, 3), (.pure, 5), (.read, 6), (.ext, 4), (.ext, 7), (.fin, 8)] (by kernel_rfl) (by kernel_rfl) (allocRuns_of (by kernel_rfl)) (fun _ _ _ _ hd h => And.intro (hd.trans (And.left h)) (And.right h)) ?_
  repeat (first | (refine walk_pure0 rfl rfl (fun J hJ => ?_); go_simp; refine hJ _ ?_; clear hJ J) | (refine walk_load rfl rfl rfl rfl (fun J hJ => ?_); go_simp; refine hJ _ ?_; clear hJ J; try go_simp))
  refine walk_ext rfl rfl (fun w1 hb1 J hJ => ?_); go_simp
  have BR := Box.later (Box.drew (Box.at2 _ _ _ _ _)) hb1; have cBR := BR.cell; have fBR := BR.free
  refine (plus_ok _ _ z.natAbs y.natAbs _ magA magA (Nat.le_trans KZ.out (by omega)) (Nat.le_trans KY.out (by omega))).mono ?_
  rintro e v1 ⟨v, rfl, hc1, hv⟩
  obtain ⟨paHS, lHS, caHS, rfl⟩ := hv.slice; have HS := Lib.hid hv; clear hv
  replace BR := Box.later (BR) hc1; replace cBR := BR.cell; replace fBR := BR.free
  refine hJ _ _ hc1 ?_
  clear hJ J
  refine walk_ext rfl rfl (fun w2 hb2 J hJ => ?_); go_simp
  replace BR := Box.later (BR) hb2; replace cBR := BR.cell; replace fBR := BR.free
  refine (signed_ok _ (z.natAbs + y.natAbs) _ _ magA).mono ?_
  rintro e v2 ⟨v, rfl, hc2, hv⟩
  obtain ⟨paHT, lHT, caHT, rfl, HT⟩ := hv; replace HT := Lib.hid HT
  replace BR := Box.later (BR) hc2; replace cBR := BR.cell; replace fBR := BR.free
  refine hJ _ _ hc2 ?_
  clear hJ J
  refine walk_fin [_] rfl (fun w5 hb5 => ?_)
  replace BR := Box.later (BR) hb5; replace cBR := BR.cell; replace fBR := BR.free
  go_wp2_with fail
  refine ret_c rfl rfl boxA Tryz.underlying123 rfl (by kernel_rfl) ?_
  exact ⟨_, rfl, belA, (IntV.of_neg magA).cast HE.out⟩
set_option maxRecDepth 10000 in
set_option maxHeartbeats 1000000 in
theorem sum_diff (pa pb : Option Addr) (l m ca cb : Nat) (z y : Int) (b : Bool) (w : World) (h : Mag w (.slice pa l ca) z.natAbs) (h2 : Mag w (.slice pb m cb) y.natAbs) (hz : decide (z < 0) = b) (hy : decide (y < 0) = !b) (kz : sz 1000000000 z.natAbs ≤ 549755813888) (ky : sz 1000000000 y.natAbs ≤ 549755813888) :
  Calls Tryz.prog 136 #[.agg #[.slice pa l ca, .bool b], .agg #[.slice pb m cb, .bool !b]] w (fun e w' => ∃ v, e = .returned v ∧ Below w.heap.size w w' ∧ IntV w' v (z + y)) := by
 have H := Lib.hid h
 have H2 := Lib.hid h2
 have KZ := Lib.hid kz
 have KY := Lib.hid ky
 rcases Nat.lt_or_ge z.natAbs y.natAbs with hlt | hge
 ·have HE : Hid (sgd (y.natAbs - z.natAbs) (!b) = z + y) := by
   have := sgd_sub (z := y) (y := z) (b := !b) hy (by rw [hz, Bool.not_not])
   rw [if_pos (by omega)] at this
   exact this.trans (Int.add_comm _ _)
  have HC := Lib.hid (sgn_lt hlt)
  have HL := Lib.hid hlt
  clear h h2 kz ky hz hy hlt
  cases b
  all_goals
   go_enter Tryz.func136, Tryz.ntmps136
   go_wp2_with fail
   refine ((compare_ok _ _ z.natAbs y.natAbs _ magA magA).mono (by rw [HC.out]; exact fun _ _ h => h)).mono ?_
   rintro e v1 ⟨rfl, hc1⟩
   have BR := Box.later (Box.at2 _ _ _ _ _) hc1; have cBR := BR.cell; have fBR := BR.free
   have B1 := Box.later (Box.alloc (Box.at1 _ _ _ _) _) hc1; have cB1 := B1.cell; have fB1 := B1.free
   have B0 := Box.later (Box.alloc (Box.alloc (Box.new _ _ _) _) _) hc1; have cB0 := B0.cell; have fB0 := B0.free
   go_wp2_with fail
   refine wp_region_walk [(.pure, 0), (.read, 1), (.pure, 2), (.read, 3), (.pure, 5), (.read, 6), (.ext, 4), (.ext, 7), (.fin, 8)] (by kernel_rfl) (by kernel_rfl) (allocRuns_of (by kernel_rfl)) (fun _ _ _ _ hd h => And.intro (hd.trans (And.left h)) (And.right h)) ?_
   repeat (first | (refine walk_pure0 rfl rfl (fun J hJ => ?_); go_simp; refine hJ _ ?_; clear hJ J) | (refine walk_load rfl rfl rfl rfl (fun J hJ => ?_); go_simp; refine hJ _ ?_; clear hJ J; try go_simp))
   refine walk_ext rfl rfl (fun w2 hb2 J hJ => ?_); go_simp
   replace BR := Box.later (Box.drew BR) hb2; replace cBR := BR.cell; replace fBR := BR.free
   refine (minus_ok _ _ y.natAbs z.natAbs _ magA magA (Nat.le_trans KY.out (by omega)) (Nat.le_of_lt HL.out)).mono ?_
   rintro e v2 ⟨v, rfl, hc2, hv⟩
   obtain ⟨paHD, lHD, caHD, rfl⟩ := hv.slice; have HD := Lib.hid hv; clear hv
   replace BR := Box.later (BR) hc2; replace cBR := BR.cell; replace fBR := BR.free
   refine hJ _ _ hc2 ?_
   clear hJ J
   refine walk_ext rfl rfl (fun w3 hb3 J hJ => ?_); go_simp
   replace BR := Box.later (BR) hb3; replace cBR := BR.cell; replace fBR := BR.free
   refine (signed_ok _ (y.natAbs - z.natAbs) _ _ magA).mono ?_
   rintro e v3 ⟨v, rfl, hc3, hv⟩
   obtain ⟨paHT, lHT, caHT, rfl, HT⟩ := hv; replace HT := Lib.hid HT
   replace BR := Box.later (BR) hc3; replace cBR := BR.cell; replace fBR := BR.free
   refine hJ _ _ hc3 ?_
   clear hJ J
   refine walk_fin [_] rfl (fun w5 hb5 => ?_)
   replace BR := Box.later (BR) hb5; replace cBR := BR.cell; replace fBR := BR.free
   go_wp2_with fail
   refine ret_c rfl rfl boxA Tryz.underlying123 rfl (by kernel_rfl) ?_
   exact ⟨_, rfl, belA, (IntV.of_neg magA).cast HE.out⟩
 ·have HE : Hid (sgd (z.natAbs - y.natAbs) b = z + y) := by
   have := sgd_sub (z := z) (y := y) (b := b) hz hy
   rw [if_pos (by omega)] at this
   exact this
  have hs : sgn z.natAbs y.natAbs = 0 ∨ sgn z.natAbs y.natAbs = 1 := by
   rcases Nat.lt_or_ge y.natAbs z.natAbs with h2 | h2
   ·exact .inr (sgn_gt h2)
   ·have : z.natAbs = y.natAbs := by omega
    rw [this]; exact .inl (sgn_eq _)
  have HL := Lib.hid hge
  clear h h2 kz ky hz hy hge
  rcases hs with hs | hs <;> cases b
  all_goals
   have HC := Lib.hid hs
   clear hs
   go_enter Tryz.func136, Tryz.ntmps136
   go_wp2_with fail
   refine ((compare_ok _ _ z.natAbs y.natAbs _ magA magA).mono (by rw [HC.out]; exact fun _ _ h => h)).mono ?_
   rintro e v1 ⟨rfl, hc1⟩
   have BR := Box.later (Box.at2 _ _ _ _ _) hc1; have cBR := BR.cell; have fBR := BR.free
   have B1 := Box.later (Box.alloc (Box.at1 _ _ _ _) _) hc1; have cB1 := B1.cell; have fB1 := B1.free
   have B0 := Box.later (Box.alloc (Box.alloc (Box.new _ _ _) _) _) hc1; have cB0 := B0.cell; have fB0 := B0.free
   go_wp2_with fail
   refine wp_region_walk [(.pure, 0), (.read, 1), (.pure, 2), (.read, 3), (.pure, 5), (.read, 6), (.ext, 4), (.ext, 7), (.fin, 8)] (by kernel_rfl) (by kernel_rfl) (allocRuns_of (by kernel_rfl)) (fun _ _ _ _ hd h => And.intro (hd.trans (And.left h)) (And.right h)) ?_
   repeat (first | (refine walk_pure0 rfl rfl (fun J hJ => ?_); go_simp; refine hJ _ ?_; clear hJ J) | (refine walk_load rfl rfl rfl rfl (fun J hJ => ?_); go_simp; refine hJ _ ?_; clear hJ J; try go_simp))
   refine walk_ext rfl rfl (fun w2 hb2 J hJ => ?_); go_simp
   replace BR := Box.later (Box.drew BR) hb2; replace cBR := BR.cell; replace fBR := BR.free
   refine (minus_ok _ _ z.natAbs y.natAbs _ magA magA (Nat.le_trans KZ.out (by omega)) HL.out).mono ?_
   rintro e v2 ⟨v, rfl, hc2, hv⟩
   obtain ⟨paHD, lHD, caHD, rfl⟩ := hv.slice; have HD := Lib.hid hv; clear hv
   replace BR := Box.later (BR) hc2; replace cBR := BR.cell; replace fBR := BR.free
   refine hJ _ _ hc2 ?_
   clear hJ J
   refine walk_ext rfl rfl (fun w3 hb3 J hJ => ?_); go_simp
   replace BR := Box.later (BR) hb3; replace cBR := BR.cell; replace fBR := BR.free
   refine (signed_ok _ (z.natAbs - y.natAbs) _ _ magA).mono ?_
   rintro e v3 ⟨v, rfl, hc3, hv⟩
   obtain ⟨paHT, lHT, caHT, rfl, HT⟩ := hv; replace HT := Lib.hid HT
   replace BR := Box.later (BR) hc3; replace cBR := BR.cell; replace fBR := BR.free
   refine hJ _ _ hc3 ?_
   clear hJ J
   refine walk_fin [_] rfl (fun w5 hb5 => ?_)
   replace BR := Box.later (BR) hb5; replace cBR := BR.cell; replace fBR := BR.free
   go_wp2_with fail
   refine ret_c rfl rfl boxA Tryz.underlying123 rfl (by kernel_rfl) ?_
   exact ⟨_, rfl, belA, (IntV.of_neg magA).cast HE.out⟩
theorem sum_ok (v u : Value) (z y : Int) (w : World) (h : IntV w v z) (h2 : IntV w u y) (kz : sz 1000000000 z.natAbs ≤ 549755813888) (ky : sz 1000000000 y.natAbs ≤ 549755813888) :
  Calls Tryz.prog 136 #[v, u] w (fun e w' => ∃ v, e = .returned v ∧ Below w.heap.size w w' ∧ IntV w' v (z + y)) := by
 obtain ⟨pa, l, ca, rfl, hm⟩ := h
 obtain ⟨pb, m, cb, rfl, hm2⟩ := h2
 by_cases hb : decide (z < 0) = decide (y < 0)
 ·rw [hb]
  exact sum_same pa pb l m ca cb z y (decide (y < 0)) w hm hm2 hb rfl kz ky
 ·have hb2 : decide (y < 0) = !decide (z < 0) := by
   cases h1 : decide (z < 0) <;> cases h2 : decide (y < 0) <;> simp_all
  rw [hb2]
  exact sum_diff pa pb l m ca cb z y (decide (z < 0)) w hm hm2 rfl hb2 kz ky
set_option maxRecDepth 10000 in
theorem text_ok (v : Value) (z : Int) (w : World) (h : IntV w v z) (kz : sz 1000000000 z.natAbs ≤ 1099511627776) (ht : Bld.Pow w) :
  Calls Tryz.prog 193 #[v] w (fun e w' => e = .returned (itxt z) ∧ Below w.heap.size w w') := by
 obtain ⟨pa, l, ca, rfl, hm⟩ := h
 have hlen : ((1 + (Lib.decDigits z.natAbs).length : Nat) : Int) ≤ 9223372036854775807 := by
  have h1 := dec_len_val (dig_digs (B := 1000000000) (by omega) z.natAbs)
  rw [val_digs (by omega)] at h1
  unfold sz at kz
  omega
 have hlen2 : ¬ 9223372036854775807 < 1 + (Lib.decDigits z.natAbs).length := by omega
 have H := Lib.hid hm
 have KZ := Lib.hid kz
 have HT := Lib.hid ht
 clear hm kz ht hlen
 by_cases hz : z < 0
 ·have e : itxt z = .string ⟨(45 :: Lib.decDigits z.natAbs).toArray⟩ := by unfold itxt Lib.itoa; rw [if_pos hz]
  rw [e, decide_eq_true hz]
  clear e hz
  go_enter Tryz.func193, Tryz.ntmps193
  go_wp2_with fail
  refine (digits_ok _ z.natAbs _ magA KZ.out (HT.out.later belA)).mono ?_
  rintro e v1 ⟨rfl, hc1⟩
  go_wp2_with fail
  go_ret
  exact ⟨rfl, belA⟩
 ·have e : itxt z = .string ⟨(Lib.decDigits z.natAbs).toArray⟩ := by unfold itxt Lib.itoa; rw [if_neg hz, show z.toNat = z.natAbs by omega]
  rw [e, decide_eq_false hz]
  clear e hz
  go_enter Tryz.func193, Tryz.ntmps193
  go_wp2_with fail
  refine (digits_ok _ z.natAbs _ magA KZ.out (HT.out.later belA)).mono ?_
  rintro e v1 ⟨rfl, hc1⟩
  go_wp2_with fail
  go_ret
  exact ⟨rfl, belA⟩
end Go.Proofs.frac
namespace Go.Proofs.frac
open Go Go.RowKit Go.SW Go.Num Go.Mem Go.Proofs Go.Dec Go.Fra
set_option maxRecDepth 10000 in
theorem sign_ok (v : Value) (z : Int) (w : World) (h : IntV w v z) :
  Calls Tryz.prog 138 #[v] w (fun e w' => e = .returned (.int .i64 (sgnz z)) ∧ Below w.heap.size w w') := by
 obtain ⟨paH, lH, caH, rfl, H⟩ := h; replace H := Lib.hid H
 rcases Int.lt_trichotomy z 0 with hz | hz | hz
 ·have e : sgnz z = -1 := by unfold sgnz; rw [if_neg (by omega), if_pos hz]
  rw [e, decide_eq_true hz]
  have h0 : decide (z.natAbs = 0) = false := by simp; omega
  go_enter Tryz.func138, Tryz.ntmps138
  go_wp2_with (go_at_call 141; refine (zero_ok _ z.natAbs _ magA).mono ?_; rintro e w1 ⟨rfl, rfl⟩; rw [h0])
  go_ret
  exact ⟨rfl, belA⟩
 ·subst hz
  go_enter Tryz.func138, Tryz.ntmps138
  go_wp2_with (go_at_call 141; refine (zero_ok _ (Int.natAbs 0) _ magA).mono ?_; rintro e w1 ⟨rfl, rfl⟩)
  go_ret
  exact ⟨rfl, belA⟩
 ·have e : sgnz z = 1 := by unfold sgnz; rw [if_neg (by omega), if_neg (by omega)]
  rw [e, decide_eq_false (show ¬ z < 0 by omega)]
  have h0 : decide (z.natAbs = 0) = false := by simp; omega
  go_enter Tryz.func138, Tryz.ntmps138
  go_wp2_with (go_at_call 141; refine (zero_ok _ z.natAbs _ magA).mono ?_; rintro e w1 ⟨rfl, rfl⟩; rw [h0])
  go_ret
  exact ⟨rfl, belA⟩
set_option maxRecDepth 10000 in
theorem negated_ok (v : Value) (q : Rat) (w : World) (h : RatV w v q) :
  Calls Tryz.prog 195 #[v] w (fun e w' => ∃ v, e = .returned v ∧ Below w.heap.size w w' ∧ RatV w' v (-q)) := by
 obtain ⟨paH, lH, caH, pbH, mH, cbH, rfl, H, Hd⟩ := h; replace H := Lib.hid H; replace Hd := Lib.hid Hd
 go_enter Tryz.func195, Tryz.ntmps195
 go_wp2_with fail
 refine wp_region_walk [(.pure, 0), (.read, 1), (.pure, 3), (.read, 4), (.ext, 2), (.pure, 5), (.fin, 6)] (by kernel_rfl) (by kernel_rfl) (allocRuns_of (by kernel_rfl)) (fun _ _ _ _ hd h => And.intro (hd.trans (And.left h)) (And.right h)) ?_
 repeat (first | (refine walk_pure0 rfl rfl (fun J hJ => ?_); go_simp; refine hJ _ ?_; clear hJ J) | (refine walk_load rfl rfl rfl rfl (fun J hJ => ?_); go_simp; refine hJ _ ?_; clear hJ J; try go_simp))
 refine walk_ext rfl rfl (fun w1 hb1 J hJ => ?_); go_simp
 have BR := Box.later (Box.drew (Box.at1 _ _ _ _)) hb1; have cBR := BR.cell; have fBR := BR.free
 refine (opposite_ok _ q.num _ (IntV.of_neg magA)).mono ?_
 rintro e v1 ⟨v, rfl, hc1, hv⟩
 obtain ⟨paHS, lHS, caHS, rfl, HS⟩ := hv; replace HS := Lib.hid HS
 replace BR := Box.later (BR) hc1; replace cBR := BR.cell; replace fBR := BR.free
 refine hJ _ _ hc1 ?_
 clear hJ J
 repeat (first | (refine walk_pure0 rfl rfl (fun J hJ => ?_); go_simp; refine hJ _ ?_; clear hJ J) | (refine walk_load rfl rfl rfl rfl (fun J hJ => ?_); go_simp; refine hJ _ ?_; clear hJ J; try go_simp))
 refine walk_fin [_] rfl (fun w5 hb5 => ?_)
 replace BR := Box.later (BR) hb5; replace cBR := BR.cell; replace fBR := BR.free
 go_wp2_with fail
 refine ret_c rfl rfl boxA Tryz.underlying125 rfl (by kernel_rfl) ?_
 exact ⟨_, rfl, belA, RatV.mk (-q.num).natAbs q.den magA magA rfl rfl (by simp [Rat.neg_num])⟩
set_option maxRecDepth 10000 in
theorem inverse_ok (v : Value) (q : Rat) (w : World) (h : RatV w v q) (hq : q ≠ 0) :
  Calls Tryz.prog 143 #[v] w (fun e w' => ∃ v, e = .returned v ∧ Below w.heap.size w w' ∧ RatV w' v q⁻¹) := by
 obtain ⟨paH, lH, caH, pbH, mH, cbH, rfl, H, Hd⟩ := h; replace H := Lib.hid H; replace Hd := Lib.hid Hd
 have HE := Lib.hid (inv_parts hq)
 clear hq
 go_enter Tryz.func143, Tryz.ntmps143
 go_wp2_with fail
 refine wp_region_walk [(.pure, 0), (.read, 1), (.pure, 2), (.pure, 3), (.read, 4), (.pure, 6), (.pure, 7), (.read, 8), (.ext, 5), (.pure, 9), (.fin, 10)] (by kernel_rfl) (by kernel_rfl) (allocRuns_of (by kernel_rfl)) (fun _ _ _ _ hd h => And.intro (hd.trans (And.left h)) (And.right h)) ?_
 repeat (first | (refine walk_pure0 rfl rfl (fun J hJ => ?_); go_simp; refine hJ _ ?_; clear hJ J) | (refine walk_load rfl rfl rfl rfl (fun J hJ => ?_); go_simp; refine hJ _ ?_; clear hJ J; try go_simp))
 refine walk_ext rfl rfl (fun w1 hb1 J hJ => ?_); go_simp
 have BR := Box.later (Box.drew (Box.at1 _ _ _ _)) hb1; have cBR := BR.cell; have fBR := BR.free
 refine (signed_ok _ q.den _ _ magA).mono ?_
 rintro e v1 ⟨v, rfl, hc1, hv⟩
 obtain ⟨paHS, lHS, caHS, rfl, HS⟩ := hv; replace HS := Lib.hid HS
 replace BR := Box.later (BR) hc1; replace cBR := BR.cell; replace fBR := BR.free
 refine hJ _ _ hc1 ?_
 clear hJ J
 repeat (first | (refine walk_pure0 rfl rfl (fun J hJ => ?_); go_simp; refine hJ _ ?_; clear hJ J) | (refine walk_load rfl rfl rfl rfl (fun J hJ => ?_); go_simp; refine hJ _ ?_; clear hJ J; try go_simp))
 refine walk_fin [_] rfl (fun w5 hb5 => ?_)
 replace BR := Box.later (BR) hb5; replace cBR := BR.cell; replace fBR := BR.free
 go_wp2_with fail
 refine ret_c rfl rfl boxA Tryz.underlying125 rfl (by kernel_rfl) ?_
 exact ⟨_, rfl, belA, RatV.mk (sgd q.den (decide (q.num < 0))).natAbs q.num.natAbs magA magA (by rw [HE.out.1]) HE.out.2.symm (by rw [HE.out.1])⟩
set_option maxRecDepth 10000 in
set_option maxHeartbeats 1000000 in
theorem order_ok (x y : Value) (p q : Rat) (w : World) (hx : RatV w x p) (hy : RatV w y q) (kp : szq 1000000 p) (kq : szq 1000000 q) :
  Calls Tryz.prog 76 #[x, y] w (fun e w' => e = .returned (.int .i64 (cmpq p q)) ∧ Below w.heap.size w w') := by
 obtain ⟨paH, lH, caH, pbH, mH, cbH, rfl, H, Hd⟩ := hx; replace H := Lib.hid H; replace Hd := Lib.hid Hd
 obtain ⟨paG, lG, caG, pbG, mG, cbG, rfl, G, Gd⟩ := hy; replace G := Lib.hid G; replace Gd := Lib.hid Gd
 rw [← sgnz_cmp]
 have k1 := sz_absmul p.num q.den
 have k2 := sz_absmul q.num p.den
 obtain ⟨kp1, kp2⟩ := kp
 obtain ⟨kq1, kq2⟩ := kq
 obtain ⟨y1, Ey1⟩ : ∃ y : Int, Hid (p.num * (q.den : Int) = y) := ⟨_, Lib.hid rfl⟩
 obtain ⟨y2, Ey2⟩ : ∃ y : Int, Hid (q.num * (p.den : Int) = y) := ⟨_, Lib.hid rfl⟩
 obtain ⟨y3, Ey3⟩ : ∃ y : Int, Hid (-y2 = y) := ⟨_, Lib.hid rfl⟩
 obtain ⟨y4, Ey4⟩ : ∃ y : Int, Hid (y1 + y3 = y) := ⟨_, Lib.hid rfl⟩
 rw [Ey1.out, Ey2.out, Ey3.out, Ey4.out]
 rw [Ey1.out] at k1
 rw [Ey2.out] at k2
 have k3 : sz 1000000000 y3.natAbs = sz 1000000000 y2.natAbs := by rw [← Ey3.out, Int.natAbs_neg]
 have K1 : Hid (sz 1000000000 y1.natAbs ≤ 549755813888) := by unfold Hid; omega
 have K3 : Hid (sz 1000000000 y3.natAbs ≤ 549755813888) := by unfold Hid; omega
 have KP1 := Lib.hid kp1
 have KP2 := Lib.hid kp2
 have KQ1 := Lib.hid kq1
 have KQ2 := Lib.hid kq2
 clear kp1 kp2 kq1 kq2 k1 k2 k3
 go_enter Tryz.func76, Tryz.ntmps76
 go_wp2_with fail
 refine wp_region_walk [(.pure, 0), (.read, 1), (.pure, 2), (.read, 3), (.pure, 5), (.read, 6), (.pure, 7), (.read, 8), (.ext, 4), (.ext, 9), (.ext, 10), (.ext, 11), (.ext, 12), (.fin, 13)] (by kernel_rfl) (by kernel_rfl) (allocRuns_of (by kernel_rfl)) (fun _ _ _ _ hd h => And.intro (hd.trans (And.left h)) (And.right h)) ?_
 repeat (first | (refine walk_pure0 rfl rfl (fun J hJ => ?_); go_simp; refine hJ _ ?_; clear hJ J) | (refine walk_load rfl rfl rfl rfl (fun J hJ => ?_); go_simp; refine hJ _ ?_; clear hJ J; try go_simp))
 refine walk_ext rfl rfl (fun w1 hb1 J hJ => ?_); go_simp
 refine ((scaled_ok _ _ p.num q.den _ (IntV.of_neg magA) magA (Nat.le_trans KP1.out (by omega)) (Nat.le_trans KQ2.out (by omega))).mono (by rw [Ey1.out]; exact fun _ _ h => h)).mono ?_
 rintro e v1 ⟨v, rfl, hc1, hv⟩
 obtain ⟨paHA, lHA, caHA, rfl, HA⟩ := hv; replace HA := Lib.hid HA
 refine hJ _ _ hc1 ?_
 clear hJ J
 refine walk_ext rfl rfl (fun w2 hb2 J hJ => ?_); go_simp
 refine ((scaled_ok _ _ q.num p.den _ (IntV.of_neg magA) magA (Nat.le_trans KQ1.out (by omega)) (Nat.le_trans KP2.out (by omega))).mono (by rw [Ey2.out]; exact fun _ _ h => h)).mono ?_
 rintro e v2 ⟨v, rfl, hc2, hv⟩
 obtain ⟨paHB, lHB, caHB, rfl, HB⟩ := hv; replace HB := Lib.hid HB
 refine hJ _ _ hc2 ?_
 clear hJ J
 refine walk_ext rfl rfl (fun w3 hb3 J hJ => ?_); go_simp
 refine ((opposite_ok _ y2 _ (IntV.of_neg magA)).mono (by rw [Ey3.out]; exact fun _ _ h => h)).mono ?_
 rintro e v3 ⟨v, rfl, hc3, hv⟩
 obtain ⟨paHC, lHC, caHC, rfl, HC⟩ := hv; replace HC := Lib.hid HC
 refine hJ _ _ hc3 ?_
 clear hJ J
 refine walk_ext rfl rfl (fun w4 hb4 J hJ => ?_); go_simp
 refine ((sum_ok _ _ y1 y3 _ (IntV.of_neg magA) (IntV.of_neg magA) K1.out K3.out).mono (by rw [Ey4.out]; exact fun _ _ h => h)).mono ?_
 rintro e v4 ⟨v, rfl, hc4, hv⟩
 obtain ⟨paHD, lHD, caHD, rfl, HD⟩ := hv; replace HD := Lib.hid HD
 refine hJ _ _ hc4 ?_
 clear hJ J
 refine walk_ext rfl rfl (fun w5 hb5 J hJ => ?_); go_simp
 refine (sign_ok _ y4 _ (IntV.of_neg magA)).mono ?_
 rintro e v5 ⟨rfl, hc5⟩
 refine hJ _ _ hc5 ?_
 clear hJ J
 refine walk_fin [_] rfl (fun w5 hb5 => ?_)
 go_wp2_with fail
 go_ret
 exact ⟨rfl, belA⟩
end Go.Proofs.frac
namespace Go.Proofs.frac
open Go Go.RowKit Go.SW Go.Num Go.Mem Go.Proofs Go.Dec Go.Fra
set_option maxRecDepth 10000 in
set_option maxHeartbeats 400000 in
theorem reduced_ok (x y : Value) (n : Int) (d : Nat) (w : World) (hx : IntV w x n) (hy : Mag w y d) (hd : 0 < d) (kn : sz 1000000000 n.natAbs ≤ 549755813888) (kd : sz 1000000000 d ≤ 549755813888) :
  Calls Tryz.prog 169 #[x, y] w (fun e w' => ∃ v, e = .returned v ∧ Below w.heap.size w w' ∧ RatV w' v (mkRat n d)) := by
 obtain ⟨paH, lH, caH, rfl, H⟩ := hx; replace H := Lib.hid H
 obtain ⟨paG, lG, caG, rfl⟩ := hy.slice; have G := Lib.hid hy; clear hy
 have HP := Lib.hid (mk_parts n hd)
 have hg : 0 < n.natAbs.gcd d := Nat.gcd_pos_of_pos_right _ hd
 obtain ⟨g, Eg⟩ : ∃ y : Nat, Hid (n.natAbs.gcd d = y) := ⟨_, Lib.hid rfl⟩
 obtain ⟨a, Ea⟩ : ∃ y : Nat, Hid (n.natAbs / g = y) := ⟨_, Lib.hid rfl⟩
 obtain ⟨b, Eb⟩ : ∃ y : Nat, Hid (d / g = y) := ⟨_, Lib.hid rfl⟩
 rw [Eg.out] at HP hg
 rw [Ea.out, Eb.out] at HP
 have KN := Lib.hid kn
 have KD := Lib.hid kd
 have HG := Lib.hid hg
 clear kn kd hg hd
 go_enter Tryz.func169, Tryz.ntmps169
 go_wp2_with fail
 refine ((gcd_ok _ _ n.natAbs d _ magA magA KN.out KD.out).mono (by rw [Eg.out]; exact fun _ _ h => h)).mono ?_
 rintro e v1 ⟨v, rfl, hc1, hv⟩
 obtain ⟨paHg, lHg, caHg, rfl⟩ := hv.slice; have Hg := Lib.hid hv; clear hv
 have BR := Box.later (Box.at1 _ _ _ _) hc1; have cBR := BR.cell; have fBR := BR.free
 have B0 := Box.later (Box.alloc (Box.new _ _ _) _) hc1; have cB0 := B0.cell; have fB0 := B0.free
 go_wp2_with fail
 refine ((divide_ok _ _ n.natAbs g _ magA magA HG.out KN.out).mono (by rw [Ea.out]; exact fun _ _ h => h)).mono ?_
 rintro e v2 ⟨v, vr, rfl, hc2, hv, hvr⟩
 obtain ⟨paHa, lHa, caHa, rfl⟩ := hv.slice; have Ha := Lib.hid hv; clear hv; obtain ⟨paHar, lHar, caHar, rfl⟩ := hvr.slice; have Har := Lib.hid hvr; clear hvr
 replace BR := Box.later (BR) hc2; replace cBR := BR.cell; replace fBR := BR.free
 replace B0 := Box.later (B0) hc2; replace cB0 := B0.cell; replace fB0 := B0.free
 go_wp2_with fail
 refine ((divide_ok _ _ d g _ magA magA HG.out KD.out).mono (by rw [Eb.out]; exact fun _ _ h => h)).mono ?_
 rintro e v3 ⟨v, vr, rfl, hc3, hv, hvr⟩
 obtain ⟨paHb, lHb, caHb, rfl⟩ := hv.slice; have Hb := Lib.hid hv; clear hv; obtain ⟨paHbr, lHbr, caHbr, rfl⟩ := hvr.slice; have Hbr := Lib.hid hvr; clear hvr
 replace BR := Box.later (BR) hc3; replace cBR := BR.cell; replace fBR := BR.free
 replace B0 := Box.later (B0) hc3; replace cB0 := B0.cell; replace fB0 := B0.free
 go_wp2_with fail
 refine (signed_ok _ a _ _ magA).mono ?_
 rintro e v4 ⟨v, rfl, hc4, hv⟩
 obtain ⟨paHs, lHs, caHs, rfl, Hs⟩ := hv; replace Hs := Lib.hid Hs
 replace BR := Box.later (BR) hc4; replace cBR := BR.cell; replace fBR := BR.free
 replace B0 := Box.later (B0) hc4; replace cB0 := B0.cell; replace fB0 := B0.free
 go_wp2_with fail
 refine ret_c rfl rfl boxA Tryz.underlying125 rfl (by kernel_rfl) ?_
 exact ⟨_, rfl, belA, RatV.mk (sgd a (decide (n < 0))).natAbs b magA magA (by rw [HP.out.1]) HP.out.2.symm (by rw [HP.out.1])⟩
set_option maxRecDepth 10000 in
set_option maxHeartbeats 400000 in
theorem write_ok (v : Value) (q : Rat) (w : World) (h : RatV w v q) (k : szq 1000000 q) (ht : Bld.Pow w) :
  Calls Tryz.prog 144 #[v] w (fun e w' => e = .returned (Fr.res (wr q)) ∧ Below w.heap.size w w') := by
 obtain ⟨paH, lH, caH, pbH, mH, cbH, rfl, H, Hd⟩ := h; replace H := Lib.hid H; replace Hd := Lib.hid Hd
 have HT := Lib.hid ht
 have K1 := Lib.hid k.1
 have K2 := Lib.hid k.2
 clear ht k
 rcases Nat.lt_or_ge 600 (Lib.decDigits q.num.natAbs).length with h1 | h1
 ·rw [wr_big (by unfold okq; rw [okn_no h1]; rfl)]
  go_enter Tryz.func144, Tryz.ntmps144
  go_wp2_with fail
  refine (length_ok _ q.num.natAbs _ magA (Nat.le_trans K1.out (by omega)) (HT.out.later belA)).mono ?_
  rintro e v1 ⟨rfl, hc1⟩
  have BR := Box.later (Box.at1 _ _ _ _) hc1; have cBR := BR.cell; have fBR := BR.free
  have B0 := Box.later (Box.alloc (Box.new _ _ _) _) hc1; have cB0 := B0.cell; have fB0 := B0.free
  go_wp2_with fail
  refine ret_ct rfl rfl boxA Tryz.underlying36 rfl (by kernel_rfl) ?_
  exact ⟨rfl, belA⟩
 ·rcases Nat.lt_or_ge 600 (Lib.decDigits q.den).length with h2 | h2
  ·rw [wr_big (by unfold okq; rw [okn_no h2, Bool.and_false])]
   go_enter Tryz.func144, Tryz.ntmps144
   go_wp2_with fail
   refine (length_ok _ q.num.natAbs _ magA (Nat.le_trans K1.out (by omega)) (HT.out.later belA)).mono ?_
   rintro e v1 ⟨rfl, hc1⟩
   have BR := Box.later (Box.at1 _ _ _ _) hc1; have cBR := BR.cell; have fBR := BR.free
   have B0 := Box.later (Box.alloc (Box.new _ _ _) _) hc1; have cB0 := B0.cell; have fB0 := B0.free
   go_wp2_with fail
   refine (length_ok _ q.den _ magA (Nat.le_trans K2.out (by omega)) (HT.out.later belA)).mono ?_
   rintro e v2 ⟨rfl, hc2⟩
   replace BR := Box.later (BR) hc2; replace cBR := BR.cell; replace fBR := BR.free
   replace B0 := Box.later (B0) hc2; replace cB0 := B0.cell; replace fB0 := B0.free
   go_wp2_with fail
   refine ret_ct rfl rfl boxA Tryz.underlying36 rfl (by kernel_rfl) ?_
   exact ⟨rfl, belA⟩
  ·rw [wr_ok (by unfold okq; rw [okn_len.2 h1, okn_len.2 h2]; rfl)]
   go_enter Tryz.func144, Tryz.ntmps144
   go_wp2_with fail
   refine (length_ok _ q.num.natAbs _ magA (Nat.le_trans K1.out (by omega)) (HT.out.later belA)).mono ?_
   rintro e v1 ⟨rfl, hc1⟩
   have BR := Box.later (Box.at1 _ _ _ _) hc1; have cBR := BR.cell; have fBR := BR.free
   have B0 := Box.later (Box.alloc (Box.new _ _ _) _) hc1; have cB0 := B0.cell; have fB0 := B0.free
   go_wp2_with fail
   refine (length_ok _ q.den _ magA (Nat.le_trans K2.out (by omega)) (HT.out.later belA)).mono ?_
   rintro e v2 ⟨rfl, hc2⟩
   replace BR := Box.later (BR) hc2; replace cBR := BR.cell; replace fBR := BR.free
   replace B0 := Box.later (B0) hc2; replace cB0 := B0.cell; replace fB0 := B0.free
   go_wp2_with fail
   refine wp_region_walk [(.pure, 0), (.read, 1), (.pure, 3), (.read, 4), (.ext, 2), (.ext, 5), (.pure, 6), (.fin, 7), (.fin, 8)] (by kernel_rfl) (by kernel_rfl) (allocRuns_of (by kernel_rfl)) (fun _ _ _ _ hd h => And.intro (hd.trans (And.left h)) (And.right h)) ?_
   repeat (first | (refine walk_pure0 rfl rfl (fun J hJ => ?_); go_simp; refine hJ _ ?_; clear hJ J) | (refine walk_load rfl rfl rfl rfl (fun J hJ => ?_); go_simp; refine hJ _ ?_; clear hJ J; try go_simp))
   refine walk_ext rfl rfl (fun w3 hb3 J hJ => ?_); go_simp
   replace BR := Box.later (Box.drew BR) hb3; replace cBR := BR.cell; replace fBR := BR.free
   refine ((text_ok _ q.num _ (IntV.of_neg magA) (Nat.le_trans K1.out (by omega)) (HT.out.later belA)).mono (fun _ _ h => by unfold itxt at h; exact h)).mono ?_
   rintro e v3 ⟨rfl, hc3⟩
   replace BR := Box.later (BR) hc3; replace cBR := BR.cell; replace fBR := BR.free
   refine hJ _ _ hc3 ?_
   clear hJ J
   refine walk_ext rfl rfl (fun w4 hb4 J hJ => ?_); go_simp
   replace BR := Box.later (BR) hb4; replace cBR := BR.cell; replace fBR := BR.free
   refine (digits_ok _ q.den _ magA (Nat.le_trans K2.out (by omega)) (HT.out.later belA)).mono ?_
   rintro e v4 ⟨rfl, hc4⟩
   replace BR := Box.later (BR) hc4; replace cBR := BR.cell; replace fBR := BR.free
   refine hJ _ _ hc4 ?_
   clear hJ J
   repeat (first | (refine walk_pure0 rfl rfl (fun J hJ => ?_); go_simp; refine hJ _ ?_; clear hJ J) | (refine walk_load rfl rfl rfl rfl (fun J hJ => ?_); go_simp; refine hJ _ ?_; clear hJ J; try go_simp))
   refine walk_fin [_, _] rfl (fun w5 hb5 => ?_)
   replace BR := Box.later (BR) hb5; replace cBR := BR.cell; replace fBR := BR.free
   go_wp2_with fail
   refine ret_ct rfl rfl boxA Tryz.underlying36 rfl (by kernel_rfl) ?_
   exact ⟨rfl, belA⟩
end Go.Proofs.frac
namespace Go.Proofs.frac
open Go Go.RowKit Go.SW Go.Num Go.Mem Go.Proofs Go.Dec Go.Fra
def ReadSome (w : World) (q : Rat) (e : Ending) (w' : World) : Prop := ∃ v, e = .returned (.tuple #[v, .bool true]) ∧ Below w.heap.size w w' ∧ RatV w' v q
def ReadNone (w : World) (e : Ending) (w' : World) : Prop := e = .returned (.tuple #[.agg #[.slice none 0 0, .bool false, .slice none 0 0], .bool false]) ∧ Below w.heap.size w w'
theorem check_yes {s : ByteArray} {z : Int} (h : Dec.whole s.data.toList = some z) (w : World) : Calls Tryz.prog 167 #[.string s] w (fun e w' => e = .returned (.int .i64 0) ∧ Below w.heap.size w w') := by
 have := whole.check_ok s w
 rw [h] at this
 exact this
theorem check_no {s : ByteArray} (h : Dec.whole s.data.toList = none) (w : World) : Calls Tryz.prog 167 #[.string s] w (fun e w' => e = .returned (.int .i64 10) ∧ Below w.heap.size w w') := by
 have := whole.check_ok s w
 rw [h] at this
 exact this
set_option maxRecDepth 10000 in
theorem read_bad_n (s t : ByteArray) (h : Dec.whole s.data.toList = none) (w : World) :
  Calls Tryz.prog 134 #[.agg #[.string s, .string t]] w (ReadNone w) := by
 have HC := Lib.hid (check_no h)
 clear h
 go_enter Tryz.func134, Tryz.ntmps134
 go_wp2_with fail
 refine (HC.out _).mono ?_
 rintro e v1 ⟨rfl, hc1⟩
 have BR := Box.later (Box.at1 _ _ _ _) hc1; have cBR := BR.cell; have fBR := BR.free
 have B0 := Box.later (Box.alloc (Box.new _ _ _) _) hc1; have cB0 := B0.cell; have fB0 := B0.free
 go_wp2_with fail
 refine ret_ct rfl rfl boxA Tryz.underlying125 rfl (by kernel_rfl) ?_
 exact ⟨rfl, belA⟩
set_option maxRecDepth 10000 in
theorem read_bad_d (s t : ByteArray) (n : Int) (hn : Dec.whole s.data.toList = some n) (h : Dec.whole t.data.toList = none) (w : World) :
  Calls Tryz.prog 134 #[.agg #[.string s, .string t]] w (ReadNone w) := by
 have HC := Lib.hid (check_yes hn)
 have HD := Lib.hid (check_no h)
 clear h hn
 go_enter Tryz.func134, Tryz.ntmps134
 go_wp2_with fail
 refine (HC.out _).mono ?_
 rintro e v1 ⟨rfl, hc1⟩
 have BR := Box.later (Box.at1 _ _ _ _) hc1; have cBR := BR.cell; have fBR := BR.free
 have B0 := Box.later (Box.alloc (Box.new _ _ _) _) hc1; have cB0 := B0.cell; have fB0 := B0.free
 go_wp2_with fail
 refine (HD.out _).mono ?_
 rintro e v2 ⟨rfl, hc2⟩
 replace BR := Box.later (BR) hc2; replace cBR := BR.cell; replace fBR := BR.free
 replace B0 := Box.later (B0) hc2; replace cB0 := B0.cell; replace fB0 := B0.free
 go_wp2_with fail
 refine ret_ct rfl rfl boxA Tryz.underlying125 rfl (by kernel_rfl) ?_
 exact ⟨rfl, belA⟩
set_option maxRecDepth 10000 in
set_option maxHeartbeats 1000000 in
theorem read_some (q : Rat) (hq : okq q = true) (w : World) :
  Calls Tryz.prog 134 #[(Fr.of q).v] w (ReadSome w q) := by
 show Calls _ _ #[.agg #[.string ⟨(Lib.itoa q.num).toArray⟩, .string ⟨(Lib.itoa (q.den : Int)).toArray⟩]] _ _
 have hs := okq_sz hq
 have hl : (Lib.decDigits q.num.natAbs).length ≤ 600 ∧ (Lib.decDigits ((q.den : Nat) : Int).natAbs).length ≤ 600 := by
  unfold okq at hq
  rw [Bool.and_eq_true, okn_len, okn_len] at hq
  exact ⟨hq.1, (Int.natAbs_natCast q.den).symm ▸ hq.2⟩
 obtain ⟨hl1, hl2⟩ := hl
 have hd := q.den_pos
 have hr := q.reduced
 have HC := Lib.hid (check_yes (s := ⟨(Lib.itoa q.num).toArray⟩) (whole_of_itoa hl1))
 have HD := Lib.hid (check_yes (s := ⟨(Lib.itoa (q.den : Int)).toArray⟩) (whole_of_itoa hl2))
 have HL1 := Lib.hid hl1
 have HL2 := Lib.hid hl2
 have HR := Lib.hid hr
 have S1 := Lib.hid hs.1
 have S2 := Lib.hid hs.2
 obtain ⟨d, Ed⟩ : ∃ y : Int, Hid ((q.den : Int) = y) := ⟨_, Lib.hid rfl⟩
 have hdn : d.natAbs = q.den := by rw [← Ed.out, Int.natAbs_natCast]
 have hd1 : 0 < d := by rw [← Ed.out]; omega
 have hsg : sgnz d = 1 := by unfold sgnz; rw [if_neg (by omega), if_neg (by omega)]
 have hdf : decide (d < 0) = false := by simp; omega
 have HDN := Lib.hid hdn
 have HSG := Lib.hid hsg
 have HDF := Lib.hid hdf
 have HR1 : Hid (q.num.natAbs.gcd d.natAbs = 1) := by unfold Hid; rw [hdn]; exact hr
 rw [Ed.out] at HL2 HD ⊢
 clear hq hs hl1 hl2 hr hd hdn hd1 hsg hdf
 go_enter Tryz.func134, Tryz.ntmps134
 go_wp2_with fail
 refine (HC.out _).mono ?_
 rintro e v1 ⟨rfl, hc1⟩
 have BR := Box.later (Box.at1 _ _ _ _) hc1; have cBR := BR.cell; have fBR := BR.free
 have B0 := Box.later (Box.alloc (Box.new _ _ _) _) hc1; have cB0 := B0.cell; have fB0 := B0.free
 go_wp2_with fail
 refine (HD.out _).mono ?_
 rintro e v2 ⟨rfl, hc2⟩
 replace BR := Box.later (BR) hc2; replace cBR := BR.cell; replace fBR := BR.free
 replace B0 := Box.later (B0) hc2; replace cB0 := B0.cell; replace fB0 := B0.free
 go_wp2_with fail
 refine wp_region_walk [(.pure, 0), (.read, 1), (.pure, 3), (.read, 4), (.ext, 2), (.ext, 5), (.alloc #[.slice none 0 0, .bool false] 123, 6), (.alloc #[.slice none 0 0, .bool false] 123, 7), (.fin, 8), (.fin, 9)] (by kernel_rfl) (by kernel_rfl) (allocRuns_of (by kernel_rfl)) (fun _ _ _ _ hd h => And.intro (hd.trans (And.left h)) (And.right h)) ?_
 repeat (first | (refine walk_pure0 rfl rfl (fun J hJ => ?_); go_simp; refine hJ _ ?_; clear hJ J) | (refine walk_load rfl rfl rfl rfl (fun J hJ => ?_); go_simp; refine hJ _ ?_; clear hJ J; try go_simp))
 refine walk_ext rfl rfl (fun w3 hb3 J hJ => ?_); go_simp
 replace BR := Box.later (Box.drew BR) hb3; replace cBR := BR.cell; replace fBR := BR.free
 replace B0 := Box.later (Box.drew B0) hb3; replace cB0 := B0.cell; replace fB0 := B0.free
 refine (number_ok q.num HL1.out _).mono ?_
 rintro e v3 ⟨v, rfl, hc3, hv⟩
 obtain ⟨paHN, lHN, caHN, rfl, HN⟩ := hv; replace HN := Lib.hid HN
 replace BR := Box.later (BR) hc3; replace cBR := BR.cell; replace fBR := BR.free
 replace B0 := Box.later (B0) hc3; replace cB0 := B0.cell; replace fB0 := B0.free
 refine hJ _ _ hc3 ?_
 clear hJ J
 refine walk_ext rfl rfl (fun w4 hb4 J hJ => ?_); go_simp
 replace BR := Box.later (BR) hb4; replace cBR := BR.cell; replace fBR := BR.free
 replace B0 := Box.later (B0) hb4; replace cB0 := B0.cell; replace fB0 := B0.free
 refine (number_ok d HL2.out _).mono ?_
 rintro e v4 ⟨v, rfl, hc4, hv⟩
 obtain ⟨paHM, lHM, caHM, rfl, HM⟩ := hv; replace HM := Lib.hid HM
 replace BR := Box.later (BR) hc4; replace cBR := BR.cell; replace fBR := BR.free
 replace B0 := Box.later (B0) hc4; replace cB0 := B0.cell; replace fB0 := B0.free
 refine hJ _ _ hc4 ?_
 clear hJ J
 refine walk_alloc rfl (fun b1 w5 hw5 hNb1 hltb1 hAb1 hxb1 => ?_); go_simp; replace hxb1 : Box _ _ _ _ := hxb1; have hWb1 : w.heap.size ≤ b1 := (by first | omega | exact Nat.le_trans (Below.size (B := w.heap.size) belA) hNb1)
 replace BR := Box.later (BR) hw5; replace cBR := BR.cell; replace fBR := BR.free
 refine walk_alloc rfl (fun b2 w6 hw6 hNb2 hltb2 hAb2 hxb2 => ?_); go_simp; replace hxb2 : Box _ _ _ _ := hxb2; have hWb2 : w.heap.size ≤ b2 := (by first | omega | exact Nat.le_trans (Below.size (B := w.heap.size) belA) hNb2)
 replace BR := Box.later (BR) hw6; replace cBR := BR.cell; replace fBR := BR.free; replace hxb1 := Box.later (hxb1) hw6; replace chxb1 := hxb1.cell; replace fhxb1 := hxb1.free
 refine walk_fin [_, _] rfl (fun w7 hb7 => ?_)
 replace BR := Box.later (BR) hb7; replace cBR := BR.cell; replace fBR := BR.free; replace hxb1 := Box.later (hxb1) hb7; replace chxb1 := hxb1.cell; replace fhxb1 := hxb1.free; replace hxb2 := Box.later (hxb2) hb7; replace chxb2 := hxb2.cell; replace fhxb2 := hxb2.free
 have n1 : b1 ≠ b2 := fun e => hAb2 (by simp [e])
 have n2 : b2 ≠ b1 := fun e => n1 e.symm
 have n3 := BR.ne hxb1 (by decide)
 have n4 := BR.ne hxb2 (by decide)
 go_wp2_with fail
 refine ((sign_ok _ d _ (IntV.of_neg magA)).mono (by rw [HSG.out]; exact fun _ _ h => h)).mono ?_
 rintro e v5 ⟨rfl, hc5⟩
 replace HN := Lib.hid (Mag.carry HN.out magA hc5)
 replace HM := Lib.hid (Mag.carry HM.out magA hc5)
 replace hxb1 : Box _ (b1) _ _ := Box.later boxA hc5; (try simp only [List.setIfInBounds_toArray, List.set_cons_zero, List.set_cons_succ] at hxb1); replace chxb1 := hxb1.cell; replace fhxb1 := hxb1.free
 replace hxb2 : Box _ (b2) _ _ := Box.later boxA hc5; (try simp only [List.setIfInBounds_toArray, List.set_cons_zero, List.set_cons_succ] at hxb2); replace chxb2 := hxb2.cell; replace fhxb2 := hxb2.free
 replace BR : Box _ (w.heap.size + 1) _ _ := Box.later boxA hc5; (try simp only [List.setIfInBounds_toArray, List.set_cons_zero, List.set_cons_succ] at BR); replace cBR := BR.cell; replace fBR := BR.free
 go_wp2_with fail
 refine ((gcd_ok _ _ q.num.natAbs d.natAbs _ magA magA (Nat.le_trans S1.out (by omega)) (by rw [HDN.out]; exact Nat.le_trans S2.out (by omega))).mono (by rw [HR1.out]; exact fun _ _ h => h)).mono ?_
 rintro e v6 ⟨v, rfl, hc6, hv⟩
 obtain ⟨paHG, lHG, caHG, rfl⟩ := hv.slice; have HG := Lib.hid hv; clear hv
 replace HN := Lib.hid (Mag.later HN.out hc6)
 replace HM := Lib.hid (Mag.later HM.out hc6)
 replace hxb1 := Box.later (hxb1) hc6; replace chxb1 := hxb1.cell; replace fhxb1 := hxb1.free
 replace hxb2 := Box.later (hxb2) hc6; replace chxb2 := hxb2.cell; replace fhxb2 := hxb2.free
 replace BR := Box.later (BR) hc6; replace cBR := BR.cell; replace fBR := BR.free
 go_wp2_with fail
 refine ((compare_ok _ _ 1 1 _ magA (Mag.lit (by omega) (by omega))).mono (by rw [sgn_eq]; exact fun _ _ h => h)).mono ?_
 rintro e v7 ⟨rfl, hc7⟩
 replace HN := Lib.hid (Mag.carry HN.out magA hc7)
 replace HM := Lib.hid (Mag.carry HM.out magA hc7)
 replace hxb1 : Box _ (b1) _ _ := Box.later boxA hc7; (try simp only [List.setIfInBounds_toArray, List.set_cons_zero, List.set_cons_succ] at hxb1); replace chxb1 := hxb1.cell; replace fhxb1 := hxb1.free
 replace hxb2 : Box _ (b2) _ _ := Box.later boxA hc7; (try simp only [List.setIfInBounds_toArray, List.set_cons_zero, List.set_cons_succ] at hxb2); replace chxb2 := hxb2.cell; replace fhxb2 := hxb2.free
 replace BR : Box _ (w.heap.size + 1) _ _ := Box.later boxA hc7; (try simp only [List.setIfInBounds_toArray, List.set_cons_zero, List.set_cons_succ] at BR); replace cBR := BR.cell; replace fBR := BR.free
 go_wp2_with fail
 refine ret_ct rfl rfl boxA Tryz.underlying125 rfl (by kernel_rfl) ?_
 refine ⟨_, rfl, belA, RatV.mk q.num.natAbs d.natAbs magA magA rfl HDN.out rfl⟩
set_option maxRecDepth 10000 in
set_option maxHeartbeats 1000000 in
theorem read_bad_sign (n d : Int) (hl1 : (Lib.decDigits n.natAbs).length ≤ 600) (hl2 : (Lib.decDigits d.natAbs).length ≤ 600) (hd : d ≤ 0) (w : World) :
  Calls Tryz.prog 134 #[.agg #[.string ⟨(Lib.itoa n).toArray⟩, .string ⟨(Lib.itoa d).toArray⟩]] w (ReadNone w) := by
 have HC := Lib.hid (check_yes (s := ⟨(Lib.itoa n).toArray⟩) (whole_of_itoa hl1))
 have HD := Lib.hid (check_yes (s := ⟨(Lib.itoa d).toArray⟩) (whole_of_itoa hl2))
 have HL1 := Lib.hid hl1
 have HL2 := Lib.hid hl2
 have hs : sgnz d = 0 ∨ sgnz d = -1 := by
  unfold sgnz
  by_cases h : d = 0
  ·rw [if_pos h]; exact .inl rfl
  ·rw [if_neg h, if_pos (by omega)]; exact .inr rfl
 clear hl1 hl2 hd
 rcases hs with hs | hs
 all_goals
  have HSG := Lib.hid hs
  clear hs
  go_enter Tryz.func134, Tryz.ntmps134
  go_wp2_with fail
  refine (HC.out _).mono ?_
  rintro e v1 ⟨rfl, hc1⟩
  have BR := Box.later (Box.at1 _ _ _ _) hc1; have cBR := BR.cell; have fBR := BR.free
  have B0 := Box.later (Box.alloc (Box.new _ _ _) _) hc1; have cB0 := B0.cell; have fB0 := B0.free
  go_wp2_with fail
  refine (HD.out _).mono ?_
  rintro e v2 ⟨rfl, hc2⟩
  replace BR := Box.later (BR) hc2; replace cBR := BR.cell; replace fBR := BR.free
  replace B0 := Box.later (B0) hc2; replace cB0 := B0.cell; replace fB0 := B0.free
  go_wp2_with fail
  refine wp_region_walk [(.pure, 0), (.read, 1), (.pure, 3), (.read, 4), (.ext, 2), (.ext, 5), (.alloc #[.slice none 0 0, .bool false] 123, 6), (.alloc #[.slice none 0 0, .bool false] 123, 7), (.fin, 8), (.fin, 9)] (by kernel_rfl) (by kernel_rfl) (allocRuns_of (by kernel_rfl)) (fun _ _ _ _ hd h => And.intro (hd.trans (And.left h)) (And.right h)) ?_
  repeat (first | (refine walk_pure0 rfl rfl (fun J hJ => ?_); go_simp; refine hJ _ ?_; clear hJ J) | (refine walk_load rfl rfl rfl rfl (fun J hJ => ?_); go_simp; refine hJ _ ?_; clear hJ J; try go_simp))
  refine walk_ext rfl rfl (fun w3 hb3 J hJ => ?_); go_simp
  replace BR := Box.later (Box.drew BR) hb3; replace cBR := BR.cell; replace fBR := BR.free
  replace B0 := Box.later (Box.drew B0) hb3; replace cB0 := B0.cell; replace fB0 := B0.free
  refine (number_ok n HL1.out _).mono ?_
  rintro e v3 ⟨v, rfl, hc3, hv⟩
  obtain ⟨paHN, lHN, caHN, rfl, HN⟩ := hv; replace HN := Lib.hid HN
  replace BR := Box.later (BR) hc3; replace cBR := BR.cell; replace fBR := BR.free
  replace B0 := Box.later (B0) hc3; replace cB0 := B0.cell; replace fB0 := B0.free
  refine hJ _ _ hc3 ?_
  clear hJ J
  refine walk_ext rfl rfl (fun w4 hb4 J hJ => ?_); go_simp
  replace BR := Box.later (BR) hb4; replace cBR := BR.cell; replace fBR := BR.free
  replace B0 := Box.later (B0) hb4; replace cB0 := B0.cell; replace fB0 := B0.free
  refine (number_ok d HL2.out _).mono ?_
  rintro e v4 ⟨v, rfl, hc4, hv⟩
  obtain ⟨paHM, lHM, caHM, rfl, HM⟩ := hv; replace HM := Lib.hid HM
  replace BR := Box.later (BR) hc4; replace cBR := BR.cell; replace fBR := BR.free
  replace B0 := Box.later (B0) hc4; replace cB0 := B0.cell; replace fB0 := B0.free
  refine hJ _ _ hc4 ?_
  clear hJ J
  refine walk_alloc rfl (fun b1 w5 hw5 hNb1 hltb1 hAb1 hxb1 => ?_); go_simp; replace hxb1 : Box _ _ _ _ := hxb1; have hWb1 : w.heap.size ≤ b1 := (by first | omega | exact Nat.le_trans (Below.size (B := w.heap.size) belA) hNb1)
  replace BR := Box.later (BR) hw5; replace cBR := BR.cell; replace fBR := BR.free
  refine walk_alloc rfl (fun b2 w6 hw6 hNb2 hltb2 hAb2 hxb2 => ?_); go_simp; replace hxb2 : Box _ _ _ _ := hxb2; have hWb2 : w.heap.size ≤ b2 := (by first | omega | exact Nat.le_trans (Below.size (B := w.heap.size) belA) hNb2)
  replace BR := Box.later (BR) hw6; replace cBR := BR.cell; replace fBR := BR.free; replace hxb1 := Box.later (hxb1) hw6; replace chxb1 := hxb1.cell; replace fhxb1 := hxb1.free
  refine walk_fin [_, _] rfl (fun w7 hb7 => ?_)
  replace BR := Box.later (BR) hb7; replace cBR := BR.cell; replace fBR := BR.free; replace hxb1 := Box.later (hxb1) hb7; replace chxb1 := hxb1.cell; replace fhxb1 := hxb1.free; replace hxb2 := Box.later (hxb2) hb7; replace chxb2 := hxb2.cell; replace fhxb2 := hxb2.free
  have n1 : b1 ≠ b2 := fun e => hAb2 (by simp [e])
  have n2 : b2 ≠ b1 := fun e => n1 e.symm
  have n3 := BR.ne hxb1 (by decide)
  have n4 := BR.ne hxb2 (by decide)
  go_wp2_with fail
  refine ((sign_ok _ d _ (IntV.of_neg magA)).mono (by rw [HSG.out]; exact fun _ _ h => h)).mono ?_
  rintro e v5 ⟨rfl, hc5⟩
  replace BR : Box _ (w.heap.size + 1) _ _ := Box.later boxA hc5; (try simp only [List.setIfInBounds_toArray, List.set_cons_zero, List.set_cons_succ] at BR); replace cBR := BR.cell; replace fBR := BR.free
  go_wp2_with fail
  refine ret_ct rfl rfl boxA Tryz.underlying125 rfl (by kernel_rfl) ?_
  exact ⟨rfl, belA⟩
theorem sgn_one_ne {g : Nat} (h : g ≠ 1) : sgn g 1 = -1 ∨ sgn g 1 = 1 := by
 unfold sgn
 by_cases h2 : g < 1
 ·rw [if_pos h2]; exact .inl rfl
 ·rw [if_neg h2, if_pos (by omega)]; exact .inr rfl
set_option maxRecDepth 10000 in
set_option maxHeartbeats 1000000 in
theorem read_bad_gcd (n d : Int) (hl1 : (Lib.decDigits n.natAbs).length ≤ 600) (hl2 : (Lib.decDigits d.natAbs).length ≤ 600) (hd : 0 < d) (hg : n.natAbs.gcd d.natAbs ≠ 1) (w : World) :
  Calls Tryz.prog 134 #[.agg #[.string ⟨(Lib.itoa n).toArray⟩, .string ⟨(Lib.itoa d).toArray⟩]] w (ReadNone w) := by
 have HC := Lib.hid (check_yes (s := ⟨(Lib.itoa n).toArray⟩) (whole_of_itoa hl1))
 have HD := Lib.hid (check_yes (s := ⟨(Lib.itoa d).toArray⟩) (whole_of_itoa hl2))
 have HL1 := Lib.hid hl1
 have HL2 := Lib.hid hl2
 have S1 := Lib.hid (okn_sz (okn_len.2 hl1))
 have S2 := Lib.hid (okn_sz (okn_len.2 hl2))
 have hsg : sgnz d = 1 := by unfold sgnz; rw [if_neg (by omega), if_neg (by omega)]
 have hdf : decide (d < 0) = false := by simp; omega
 have HSG := Lib.hid hsg
 have hs := sgn_one_ne hg
 obtain ⟨g, Eg⟩ : ∃ y : Nat, Hid (n.natAbs.gcd d.natAbs = y) := ⟨_, Lib.hid rfl⟩
 rw [Eg.out] at hs
 clear hl1 hl2 hd hg hsg hdf
 rcases hs with hs | hs
 all_goals
  have HS := Lib.hid hs
  clear hs
  go_enter Tryz.func134, Tryz.ntmps134
  go_wp2_with fail
  refine (HC.out _).mono ?_
  rintro e v1 ⟨rfl, hc1⟩
  have BR := Box.later (Box.at1 _ _ _ _) hc1; have cBR := BR.cell; have fBR := BR.free
  have B0 := Box.later (Box.alloc (Box.new _ _ _) _) hc1; have cB0 := B0.cell; have fB0 := B0.free
  go_wp2_with fail
  refine (HD.out _).mono ?_
  rintro e v2 ⟨rfl, hc2⟩
  replace BR := Box.later (BR) hc2; replace cBR := BR.cell; replace fBR := BR.free
  replace B0 := Box.later (B0) hc2; replace cB0 := B0.cell; replace fB0 := B0.free
  go_wp2_with fail
  refine wp_region_walk [(.pure, 0), (.read, 1), (.pure, 3), (.read, 4), (.ext, 2), (.ext, 5), (.alloc #[.slice none 0 0, .bool false] 123, 6), (.alloc #[.slice none 0 0, .bool false] 123, 7), (.fin, 8), (.fin, 9)] (by kernel_rfl) (by kernel_rfl) (allocRuns_of (by kernel_rfl)) (fun _ _ _ _ hd h => And.intro (hd.trans (And.left h)) (And.right h)) ?_
  repeat (first | (refine walk_pure0 rfl rfl (fun J hJ => ?_); go_simp; refine hJ _ ?_; clear hJ J) | (refine walk_load rfl rfl rfl rfl (fun J hJ => ?_); go_simp; refine hJ _ ?_; clear hJ J; try go_simp))
  refine walk_ext rfl rfl (fun w3 hb3 J hJ => ?_); go_simp
  replace BR := Box.later (Box.drew BR) hb3; replace cBR := BR.cell; replace fBR := BR.free
  replace B0 := Box.later (Box.drew B0) hb3; replace cB0 := B0.cell; replace fB0 := B0.free
  refine (number_ok n HL1.out _).mono ?_
  rintro e v3 ⟨v, rfl, hc3, hv⟩
  obtain ⟨paHN, lHN, caHN, rfl, HN⟩ := hv; replace HN := Lib.hid HN
  replace BR := Box.later (BR) hc3; replace cBR := BR.cell; replace fBR := BR.free
  replace B0 := Box.later (B0) hc3; replace cB0 := B0.cell; replace fB0 := B0.free
  refine hJ _ _ hc3 ?_
  clear hJ J
  refine walk_ext rfl rfl (fun w4 hb4 J hJ => ?_); go_simp
  replace BR := Box.later (BR) hb4; replace cBR := BR.cell; replace fBR := BR.free
  replace B0 := Box.later (B0) hb4; replace cB0 := B0.cell; replace fB0 := B0.free
  refine (number_ok d HL2.out _).mono ?_
  rintro e v4 ⟨v, rfl, hc4, hv⟩
  obtain ⟨paHM, lHM, caHM, rfl, HM⟩ := hv; replace HM := Lib.hid HM
  replace BR := Box.later (BR) hc4; replace cBR := BR.cell; replace fBR := BR.free
  replace B0 := Box.later (B0) hc4; replace cB0 := B0.cell; replace fB0 := B0.free
  refine hJ _ _ hc4 ?_
  clear hJ J
  refine walk_alloc rfl (fun b1 w5 hw5 hNb1 hltb1 hAb1 hxb1 => ?_); go_simp; replace hxb1 : Box _ _ _ _ := hxb1; have hWb1 : w.heap.size ≤ b1 := (by first | omega | exact Nat.le_trans (Below.size (B := w.heap.size) belA) hNb1)
  replace BR := Box.later (BR) hw5; replace cBR := BR.cell; replace fBR := BR.free
  refine walk_alloc rfl (fun b2 w6 hw6 hNb2 hltb2 hAb2 hxb2 => ?_); go_simp; replace hxb2 : Box _ _ _ _ := hxb2; have hWb2 : w.heap.size ≤ b2 := (by first | omega | exact Nat.le_trans (Below.size (B := w.heap.size) belA) hNb2)
  replace BR := Box.later (BR) hw6; replace cBR := BR.cell; replace fBR := BR.free; replace hxb1 := Box.later (hxb1) hw6; replace chxb1 := hxb1.cell; replace fhxb1 := hxb1.free
  refine walk_fin [_, _] rfl (fun w7 hb7 => ?_)
  replace BR := Box.later (BR) hb7; replace cBR := BR.cell; replace fBR := BR.free; replace hxb1 := Box.later (hxb1) hb7; replace chxb1 := hxb1.cell; replace fhxb1 := hxb1.free; replace hxb2 := Box.later (hxb2) hb7; replace chxb2 := hxb2.cell; replace fhxb2 := hxb2.free
  have n1 : b1 ≠ b2 := fun e => hAb2 (by simp [e])
  have n2 : b2 ≠ b1 := fun e => n1 e.symm
  have n3 := BR.ne hxb1 (by decide)
  have n4 := BR.ne hxb2 (by decide)
  go_wp2_with fail
  refine ((sign_ok _ d _ (IntV.of_neg magA)).mono (by rw [HSG.out]; exact fun _ _ h => h)).mono ?_
  rintro e v5 ⟨rfl, hc5⟩
  replace HN := Lib.hid (Mag.carry HN.out magA hc5)
  replace HM := Lib.hid (Mag.carry HM.out magA hc5)
  replace hxb1 : Box _ (b1) _ _ := Box.later boxA hc5; (try simp only [List.setIfInBounds_toArray, List.set_cons_zero, List.set_cons_succ] at hxb1); replace chxb1 := hxb1.cell; replace fhxb1 := hxb1.free
  replace hxb2 : Box _ (b2) _ _ := Box.later boxA hc5; (try simp only [List.setIfInBounds_toArray, List.set_cons_zero, List.set_cons_succ] at hxb2); replace chxb2 := hxb2.cell; replace fhxb2 := hxb2.free
  replace BR : Box _ (w.heap.size + 1) _ _ := Box.later boxA hc5; (try simp only [List.setIfInBounds_toArray, List.set_cons_zero, List.set_cons_succ] at BR); replace cBR := BR.cell; replace fBR := BR.free
  go_wp2_with fail
  refine ((gcd_ok _ _ n.natAbs d.natAbs _ magA magA (Nat.le_trans S1.out (by omega)) (Nat.le_trans S2.out (by omega))).mono (by rw [Eg.out]; exact fun _ _ h => h)).mono ?_
  rintro e v6 ⟨v, rfl, hc6, hv⟩
  obtain ⟨paHG, lHG, caHG, rfl⟩ := hv.slice; have HG := Lib.hid hv; clear hv
  replace HN := Lib.hid (Mag.later HN.out hc6)
  replace HM := Lib.hid (Mag.later HM.out hc6)
  replace hxb1 := Box.later (hxb1) hc6; replace chxb1 := hxb1.cell; replace fhxb1 := hxb1.free
  replace hxb2 := Box.later (hxb2) hc6; replace chxb2 := hxb2.cell; replace fhxb2 := hxb2.free
  replace BR := Box.later (BR) hc6; replace cBR := BR.cell; replace fBR := BR.free
  go_wp2_with fail
  refine ((compare_ok _ _ g 1 _ magA (Mag.lit (by omega) (by omega))).mono (by rw [HS.out]; exact fun _ _ h => h)).mono ?_
  rintro e v7 ⟨rfl, hc7⟩
  replace BR : Box _ (w.heap.size + 1) _ _ := Box.later boxA hc7; (try simp only [List.setIfInBounds_toArray, List.set_cons_zero, List.set_cons_succ] at BR); replace cBR := BR.cell; replace fBR := BR.free
  go_wp2_with fail
  refine ret_ct rfl rfl boxA Tryz.underlying125 rfl (by kernel_rfl) ?_
  exact ⟨rfl, belA⟩
/-- What is no fraction is told to be none. -/
theorem read_none (a : Fr) (h : rd a = none) (w : World) : Calls Tryz.prog 134 #[a.v] w (ReadNone w) := by
 obtain ⟨s, t⟩ := a
 show Calls _ _ #[.agg #[.string s, .string t]] _ _
 unfold rd at h
 simp only at h
 cases e1 : Dec.whole s.data.toList with
 | none => exact read_bad_n s t e1 w
 | some n =>
  cases e2 : Dec.whole t.data.toList with
  | none => exact read_bad_d s t n e1 e2 w
  | some d =>
   rw [e1, e2] at h
   simp only at h
   obtain ⟨h1, h2⟩ := whole_itoa e1
   obtain ⟨h3, h4⟩ := whole_itoa e2
   have hs : s = ⟨(Lib.itoa n).toArray⟩ := ba_ext h1
   have ht : t = ⟨(Lib.itoa d).toArray⟩ := ba_ext h3
   rw [hs, ht]
   by_cases hd : 0 < d
   ·refine read_bad_gcd n d h2 h4 hd (fun e => ?_) w
    rw [dif_pos ⟨hd, e⟩] at h
    cases h
   ·exact read_bad_sign n d h2 h4 (by omega) w
end Go.Proofs.frac
namespace Go.Proofs.frac
open Go Go.RowKit Go.SW Go.Num Go.Mem Go.Proofs Go.Dec Go.Fra
theorem read_of {s t : ByteArray} {q : Rat} (h : rd ⟨s, t⟩ = some q) (w : World) : Calls Tryz.prog 134 #[.agg #[.string s, .string t]] w (ReadSome w q) := by
 obtain ⟨e, hq⟩ := of_rd h
 have := read_some q hq w
 rw [← e] at this
 exact this
theorem read_not {s t : ByteArray} (h : rd ⟨s, t⟩ = none) (w : World) : Calls Tryz.prog 134 #[.agg #[.string s, .string t]] w (ReadNone w) := read_none ⟨s, t⟩ h w
set_option maxRecDepth 10000 in
theorem check_ok (a : Fr) (w : World) :
  Calls Tryz.prog 81 #[a.v] w (fun e w' => e = .returned (.int .i64 (chk a)) ∧ Below w.heap.size w w') := by
 obtain ⟨s, t⟩ := a
 show Calls _ _ #[.agg #[.string s, .string t]] _ _
 unfold chk
 cases h : rd ⟨s, t⟩ with
 | none =>
  have HR := Lib.hid (read_not h)
  clear h
  go_enter Tryz.func81, Tryz.ntmps81
  go_wp2_with fail
  refine (HR.out _).mono ?_
  rintro e v1 ⟨rfl, hc1⟩
  go_wp2_with fail
  go_ret
  exact ⟨rfl, belA⟩
 | some q =>
  have HR := Lib.hid (read_of h)
  clear h
  go_enter Tryz.func81, Tryz.ntmps81
  go_wp2_with fail
  refine (HR.out _).mono ?_
  rintro e v1 ⟨v, rfl, hc1, hv⟩
  obtain ⟨paHq, lHq, caHq, pbHq, mHq, cbHq, rfl, Hq, Hqd⟩ := hv; replace Hq := Lib.hid Hq; replace Hqd := Lib.hid Hqd
  go_wp2_with fail
  go_ret
  exact ⟨rfl, belA⟩
def pair (x : Int × Int) : Value := .tuple #[.int .i64 x.1, .int .i64 x.2]
set_option maxRecDepth 10000 in
theorem Sign_ok (a : Fr) (w : World) :
  Calls Tryz.prog 83 #[a.v] w (fun e w' => e = .returned (pair (sgnF a)) ∧ Below w.heap.size w w') := by
 obtain ⟨s, t⟩ := a
 show Calls _ _ #[.agg #[.string s, .string t]] _ _
 unfold sgnF
 cases h : rd ⟨s, t⟩ with
 | none =>
  have HR := Lib.hid (read_not h)
  clear h
  go_enter Tryz.func83, Tryz.ntmps83
  go_wp2_with fail
  refine (HR.out _).mono ?_
  rintro e v1 ⟨rfl, hc1⟩
  go_wp2_with fail
  go_ret2
  exact ⟨rfl, belA⟩
 | some q =>
  have HR := Lib.hid (read_of h)
  have e := sgnz_zero q
  simp only
  rw [← e]
  clear h e
  go_enter Tryz.func83, Tryz.ntmps83
  go_wp2_with fail
  refine (HR.out _).mono ?_
  rintro e v1 ⟨v, rfl, hc1, hv⟩
  obtain ⟨paHq, lHq, caHq, pbHq, mHq, cbHq, rfl, Hq, Hqd⟩ := hv; replace Hq := Lib.hid Hq; replace Hqd := Lib.hid Hqd
  go_wp2_with fail
  refine (sign_ok _ q.num _ (IntV.of_neg magA)).mono ?_
  rintro e v2 ⟨rfl, hc2⟩
  go_wp2_with fail
  go_ret2
  exact ⟨rfl, belA⟩
set_option maxRecDepth 10000 in
set_option maxHeartbeats 400000 in
theorem apply_order (s t s' t' : ByteArray) (w : World) :
  Calls Tryz.prog 75 #[.agg #[.string s, .string t], .agg #[.string s', .string t'], .func (.func 76) #[] #[]] w (fun e w' => e = .returned (pair (cmpF ⟨s, t⟩ ⟨s', t'⟩)) ∧ Below w.heap.size w w') := by
 unfold cmpF
 cases h : rd ⟨s, t⟩ with
 | none =>
  have HR := Lib.hid (read_not h)
  cases k : rd ⟨s', t'⟩ with
  | none =>
   have HS := Lib.hid (read_not k)
   clear h k
   go_enter Tryz.func75, Tryz.ntmps75
   go_wp2_with fail
   refine (HR.out _).mono ?_
   rintro e v1 ⟨rfl, hc1⟩
   have B1 := Box.later (Box.at1 _ _ _ _) hc1; have cB1 := B1.cell; have fB1 := B1.free; have lB1 := B1.lt
   go_wp2_with fail
   refine (HS.out _).mono ?_
   rintro e v2 ⟨rfl, hc2⟩
   go_wp2_with fail
   go_ret2
   exact ⟨rfl, belA⟩
  | some q =>
   have HS := Lib.hid (read_of k)
   clear h k
   go_enter Tryz.func75, Tryz.ntmps75
   go_wp2_with fail
   refine (HR.out _).mono ?_
   rintro e v1 ⟨rfl, hc1⟩
   have B1 := Box.later (Box.at1 _ _ _ _) hc1; have cB1 := B1.cell; have fB1 := B1.free; have lB1 := B1.lt
   go_wp2_with fail
   refine (HS.out _).mono ?_
   rintro e v2 ⟨v, rfl, hc2, hv⟩
   obtain ⟨paHq, lHq, caHq, pbHq, mHq, cbHq, rfl, Hq, Hqd⟩ := hv; replace Hq := Lib.hid Hq; replace Hqd := Lib.hid Hqd
   go_wp2_with fail
   go_ret2
   exact ⟨rfl, belA⟩
 | some p =>
  have HR := Lib.hid (read_of h)
  cases k : rd ⟨s', t'⟩ with
  | none =>
   have HS := Lib.hid (read_not k)
   clear h k
   go_enter Tryz.func75, Tryz.ntmps75
   go_wp2_with fail
   refine (HR.out _).mono ?_
   rintro e v1 ⟨v, rfl, hc1, hv⟩
   obtain ⟨paHp, lHp, caHp, pbHp, mHp, cbHp, rfl, Hp, Hpd⟩ := hv; replace Hp := Lib.hid Hp; replace Hpd := Lib.hid Hpd
   have B1 := Box.later (Box.at1 _ _ _ _) hc1; have cB1 := B1.cell; have fB1 := B1.free; have lB1 := B1.lt
   go_wp2_with fail
   refine (HS.out _).mono ?_
   rintro e v2 ⟨rfl, hc2⟩
   go_wp2_with fail
   go_ret2
   exact ⟨rfl, belA⟩
  | some q =>
   have HS := Lib.hid (read_of k)
   have KP := Lib.hid ((okq_sz (of_rd h).2).mono (show 67 ≤ 1000000 by omega))
   have KQ := Lib.hid ((okq_sz (of_rd k).2).mono (show 67 ≤ 1000000 by omega))
   clear h k
   go_enter Tryz.func75, Tryz.ntmps75
   go_wp2_with fail
   refine (HR.out _).mono ?_
   rintro e v1 ⟨v, rfl, hc1, hv⟩
   obtain ⟨paHp, lHp, caHp, pbHp, mHp, cbHp, rfl, Hp, Hpd⟩ := hv; replace Hp := Lib.hid Hp; replace Hpd := Lib.hid Hpd
   have B1 := Box.later (Box.at1 _ _ _ _) hc1; have cB1 := B1.cell; have fB1 := B1.free; have lB1 := B1.lt
   go_wp2_with fail
   refine (HS.out _).mono ?_
   rintro e v2 ⟨v, rfl, hc2, hv⟩
   obtain ⟨paHq, lHq, caHq, pbHq, mHq, cbHq, rfl, Hq, Hqd⟩ := hv; replace Hq := Lib.hid Hq; replace Hqd := Lib.hid Hqd
   replace X1 : Box _ (v1.heap.size) _ _ := Box.later boxA hc2; (try simp only [List.setIfInBounds_toArray, List.set_cons_zero, List.set_cons_succ] at X1); replace cX1 := X1.cell; replace fX1 := X1.free; replace lX1 := X1.lt
   go_wp2_with fail
   refine (order_ok _ _ p q _ (RatV.of magA magA) (RatV.of magA magA) KP.out KQ.out).mono ?_
   rintro e v3 ⟨rfl, hc3⟩
   go_wp2_with fail
   go_ret2
   exact ⟨rfl, belA⟩
set_option maxRecDepth 10000 in
theorem Cmp_ok (a b : Fr) (w : World) :
  Calls Tryz.prog 32 #[a.v, b.v] w (fun e w' => e = .returned (pair (cmpF a b)) ∧ Below w.heap.size w w') := by
 obtain ⟨s, t⟩ := a
 obtain ⟨s', t'⟩ := b
 show Calls _ _ #[.agg #[.string s, .string t], .agg #[.string s', .string t']] _ _
 have H := Lib.hid (apply_order s t s' t')
 unfold pair at *
 generalize cmpF ⟨s, t⟩ ⟨s', t'⟩ = c at *
 obtain ⟨x, y⟩ := c
 go_enter Tryz.func32, Tryz.ntmps32
 go_wp2_with fail
 refine (H.out _).mono ?_
 rintro e v1 ⟨rfl, hc1⟩
 go_wp2_with fail
 go_ret2
 exact ⟨rfl, belA⟩
end Go.Proofs.frac
namespace Go.Proofs.frac
open Go Go.RowKit Go.SW Go.Num Go.Mem Go.Proofs Go.Dec Go.Fra
set_option maxRecDepth 10000 in
set_option maxHeartbeats 4000000 in
theorem mul_ok (x y : Value) (p q : Rat) (w : World) (hx : RatV w x p) (hy : RatV w y q) (kp : szq 1000000 p) (kq : szq 1000000 q) :
  Calls Tryz.prog 142 #[x, y] w (fun e w' => ∃ v, e = .returned v ∧ Below w.heap.size w w' ∧ RatV w' v (p * q)) := by
 obtain ⟨paH, lH, caH, pbH, mH, cbH, rfl, H, Hd⟩ := hx; replace H := Lib.hid H; replace Hd := Lib.hid Hd
 obtain ⟨paG, lG, caG, pbG, mG, cbG, rfl, G, Gd⟩ := hy; replace G := Lib.hid G; replace Gd := Lib.hid Gd
 have HP := Lib.hid (mul_parts3 p q)
 have hp := p.den_pos
 have hq := q.den_pos
 have hg : 0 < p.num.natAbs.gcd q.den := Nat.gcd_pos_of_pos_right _ hq
 have hh : 0 < q.num.natAbs.gcd p.den := Nat.gcd_pos_of_pos_right _ hp
 obtain ⟨kp1, kp2⟩ := kp
 obtain ⟨kq1, kq2⟩ := kq
 obtain ⟨g, Eg⟩ : ∃ y : Nat, Hid (p.num.natAbs.gcd q.den = y) := ⟨_, Lib.hid rfl⟩
 rw [Eg.out] at hg HP
 obtain ⟨h, Eh⟩ : ∃ y : Nat, Hid (q.num.natAbs.gcd p.den = y) := ⟨_, Lib.hid rfl⟩
 rw [Eh.out] at hh HP
 have k1 := @sz_div p.num.natAbs g
 have k2 := @sz_div p.den h
 have k3 := @sz_div q.num.natAbs h
 have k4 := @sz_div q.den g
 obtain ⟨a, Ea⟩ : ∃ y : Nat, Hid (p.num.natAbs / g = y) := ⟨_, Lib.hid rfl⟩
 rw [Ea.out] at HP k1
 obtain ⟨b, Eb⟩ : ∃ y : Nat, Hid (p.den / h = y) := ⟨_, Lib.hid rfl⟩
 rw [Eb.out] at HP k2
 obtain ⟨c, Ec⟩ : ∃ y : Nat, Hid (q.num.natAbs / h = y) := ⟨_, Lib.hid rfl⟩
 rw [Ec.out] at HP k3
 obtain ⟨d, Ed⟩ : ∃ y : Nat, Hid (q.den / g = y) := ⟨_, Lib.hid rfl⟩
 rw [Ed.out] at HP k4
 obtain ⟨s, Es⟩ : ∃ y : Nat, Hid (a * c = y) := ⟨_, Lib.hid rfl⟩
 rw [Es.out] at HP
 obtain ⟨t, Et⟩ : ∃ y : Nat, Hid (b * d = y) := ⟨_, Lib.hid rfl⟩
 rw [Et.out] at HP
 have HGp := Lib.hid hg
 have HHp := Lib.hid hh
 have Kpn : Hid (sz 1000000000 p.num.natAbs ≤ 549755813888) := by unfold Hid; omega
 have Kqn : Hid (sz 1000000000 q.num.natAbs ≤ 549755813888) := by unfold Hid; omega
 have Kpd : Hid (sz 1000000000 p.den ≤ 549755813888) := by unfold Hid; omega
 have Kqd : Hid (sz 1000000000 q.den ≤ 549755813888) := by unfold Hid; omega
 have Ka : Hid (sz 1000000000 a ≤ 1099511627776) := by unfold Hid; omega
 have Kb : Hid (sz 1000000000 b ≤ 1099511627776) := by unfold Hid; omega
 have Kc : Hid (sz 1000000000 c ≤ 1099511627776) := by unfold Hid; omega
 have Kd : Hid (sz 1000000000 d ≤ 1099511627776) := by unfold Hid; omega
 clear k1 k2 k3 k4 kp1 kp2 kq1 kq2 hg hh hp hq
 go_enter Tryz.func142, Tryz.ntmps142
 go_wp2_with fail
 refine ((gcd_ok _ _ p.num.natAbs q.den _ magA magA Kpn.out Kqd.out).mono (by rw [Eg.out]; exact fun _ _ h => h)).mono ?_
 rintro e v1 ⟨v, rfl, hc1, hv⟩
 obtain ⟨paMg, lMg, caMg, rfl⟩ := hv.slice; have Mg := Lib.hid hv; clear hv
 replace H := Lib.hid (Mag.carry H.out magA hc1)
 replace Hd := Lib.hid (Mag.carry Hd.out magA hc1)
 replace G := Lib.hid (Mag.carry G.out magA hc1)
 replace Gd := Lib.hid (Mag.carry Gd.out magA hc1)
 have BR := Box.later (Box.at2 _ _ _ _ _) hc1; have cBR := BR.cell; have fBR := BR.free
 have B1 := Box.later (Box.alloc (Box.at1 _ _ _ _) _) hc1; have cB1 := B1.cell; have fB1 := B1.free
 have B0 := Box.later (Box.alloc (Box.alloc (Box.new _ _ _) _) _) hc1; have cB0 := B0.cell; have fB0 := B0.free
 go_wp2_with fail
 refine ((gcd_ok _ _ q.num.natAbs p.den _ magA magA Kqn.out Kpd.out).mono (by rw [Eh.out]; exact fun _ _ h => h)).mono ?_
 rintro e v2 ⟨v, rfl, hc2, hv⟩
 obtain ⟨paMh, lMh, caMh, rfl⟩ := hv.slice; have Mh := Lib.hid hv; clear hv
 replace H := Lib.hid (Mag.later H.out hc2)
 replace Hd := Lib.hid (Mag.later Hd.out hc2)
 replace G := Lib.hid (Mag.later G.out hc2)
 replace Gd := Lib.hid (Mag.later Gd.out hc2)
 replace Mg := Lib.hid (Mag.later Mg.out hc2)
 replace BR := Box.later (BR) hc2; replace cBR := BR.cell; replace fBR := BR.free
 replace B1 := Box.later (B1) hc2; replace cB1 := B1.cell; replace fB1 := B1.free
 replace B0 := Box.later (B0) hc2; replace cB0 := B0.cell; replace fB0 := B0.free
 go_wp2_with fail
 refine ((divide_ok _ _ p.num.natAbs g _ magA magA HGp.out Kpn.out).mono (by rw [Ea.out]; exact fun _ _ h => h)).mono ?_
 rintro e v3 ⟨v, vr, rfl, hc3, hv, hvr⟩
 obtain ⟨paMa, lMa, caMa, rfl⟩ := hv.slice; have Ma := Lib.hid hv; clear hv; obtain ⟨paMar, lMar, caMar, rfl⟩ := hvr.slice; have Mar := Lib.hid hvr; clear hvr
 replace Hd := Lib.hid (Mag.later Hd.out hc3)
 replace G := Lib.hid (Mag.later G.out hc3)
 replace Gd := Lib.hid (Mag.later Gd.out hc3)
 replace Mg := Lib.hid (Mag.later Mg.out hc3)
 replace Mh := Lib.hid (Mag.later Mh.out hc3)
 replace BR := Box.later (BR) hc3; replace cBR := BR.cell; replace fBR := BR.free
 replace B1 := Box.later (B1) hc3; replace cB1 := B1.cell; replace fB1 := B1.free
 replace B0 := Box.later (B0) hc3; replace cB0 := B0.cell; replace fB0 := B0.free
 go_wp2_with fail
 clear Mar H
 refine ((divide_ok _ _ p.den h _ magA magA HHp.out Kpd.out).mono (by rw [Eb.out]; exact fun _ _ h => h)).mono ?_
 rintro e v4 ⟨v, vr, rfl, hc4, hv, hvr⟩
 obtain ⟨paMb, lMb, caMb, rfl⟩ := hv.slice; have Mb := Lib.hid hv; clear hv; obtain ⟨paMbr, lMbr, caMbr, rfl⟩ := hvr.slice; have Mbr := Lib.hid hvr; clear hvr
 replace G := Lib.hid (Mag.later G.out hc4)
 replace Gd := Lib.hid (Mag.later Gd.out hc4)
 replace Mg := Lib.hid (Mag.later Mg.out hc4)
 replace Mh := Lib.hid (Mag.later Mh.out hc4)
 replace Ma := Lib.hid (Mag.later Ma.out hc4)
 replace BR := Box.later (BR) hc4; replace cBR := BR.cell; replace fBR := BR.free
 replace B1 := Box.later (B1) hc4; replace cB1 := B1.cell; replace fB1 := B1.free
 replace B0 := Box.later (B0) hc4; replace cB0 := B0.cell; replace fB0 := B0.free
 go_wp2_with fail
 clear Mbr Hd
 refine ((divide_ok _ _ q.num.natAbs h _ magA magA HHp.out Kqn.out).mono (by rw [Ec.out]; exact fun _ _ h => h)).mono ?_
 rintro e v5 ⟨v, vr, rfl, hc5, hv, hvr⟩
 obtain ⟨paMc, lMc, caMc, rfl⟩ := hv.slice; have Mc := Lib.hid hv; clear hv; obtain ⟨paMcr, lMcr, caMcr, rfl⟩ := hvr.slice; have Mcr := Lib.hid hvr; clear hvr
 replace Gd := Lib.hid (Mag.later Gd.out hc5)
 replace Mg := Lib.hid (Mag.later Mg.out hc5)
 replace Ma := Lib.hid (Mag.later Ma.out hc5)
 replace Mb := Lib.hid (Mag.later Mb.out hc5)
 replace BR := Box.later (BR) hc5; replace cBR := BR.cell; replace fBR := BR.free
 replace B1 := Box.later (B1) hc5; replace cB1 := B1.cell; replace fB1 := B1.free
 replace B0 := Box.later (B0) hc5; replace cB0 := B0.cell; replace fB0 := B0.free
 go_wp2_with fail
 clear Mcr G
 refine ((divide_ok _ _ q.den g _ magA magA HGp.out Kqd.out).mono (by rw [Ed.out]; exact fun _ _ h => h)).mono ?_
 rintro e v6 ⟨v, vr, rfl, hc6, hv, hvr⟩
 obtain ⟨paMd, lMd, caMd, rfl⟩ := hv.slice; have Md := Lib.hid hv; clear hv; obtain ⟨paMdr, lMdr, caMdr, rfl⟩ := hvr.slice; have Mdr := Lib.hid hvr; clear hvr
 replace Ma := Lib.hid (Mag.later Ma.out hc6)
 replace Mb := Lib.hid (Mag.later Mb.out hc6)
 replace Mc := Lib.hid (Mag.later Mc.out hc6)
 replace BR := Box.later (BR) hc6; replace cBR := BR.cell; replace fBR := BR.free
 replace B1 := Box.later (B1) hc6; replace cB1 := B1.cell; replace fB1 := B1.free
 replace B0 := Box.later (B0) hc6; replace cB0 := B0.cell; replace fB0 := B0.free
 go_wp2_with fail
 clear Mdr Gd
 refine wp_region_walk [(.pure, 0), (.pure, 1), (.pure, 3), (.pure, 4), (.read, 5), (.pure, 6), (.pure, 7), (.read, 8), (.pure, 9), (.pure, 11), (.pure, 12), (.ext, 2), (.ext, 10), (.ext, 13), (.pure, 14), (.fin, 15)] (by kernel_rfl) (by kernel_rfl) (allocRuns_of (by kernel_rfl)) (fun _ _ _ _ hd h => And.intro (hd.trans (And.left h)) (And.right h)) ?_
 repeat (first | (refine walk_pure0 rfl rfl (fun J hJ => ?_); go_simp; refine hJ _ ?_; clear hJ J) | (refine walk_load rfl rfl rfl rfl (fun J hJ => ?_); go_simp; refine hJ _ ?_; clear hJ J; try go_simp))
 refine walk_ext rfl rfl (fun w7 hb7 J hJ => ?_); go_simp
 replace Ma := Lib.hid (Mag.carry Ma.out magA hb7)
 replace Mb := Lib.hid (Mag.carry Mb.out magA hb7)
 replace Mc := Lib.hid (Mag.carry Mc.out magA hb7)
 replace Md := Lib.hid (Mag.carry Md.out magA hb7)
 replace BR := Box.later (Box.drew BR) hb7; replace cBR := BR.cell; replace fBR := BR.free
 refine ((times_ok _ _ a c _ magA magA Ka.out Kc.out).mono (by rw [Es.out]; exact fun _ _ h => h)).mono ?_
 rintro e v7 ⟨v, rfl, hc7, hv⟩
 obtain ⟨paMs, lMs, caMs, rfl⟩ := hv.slice; have Ms := Lib.hid hv; clear hv
 replace Ma := Lib.hid (Mag.later Ma.out hc7)
 replace Mb := Lib.hid (Mag.later Mb.out hc7)
 replace Mc := Lib.hid (Mag.later Mc.out hc7)
 replace Md := Lib.hid (Mag.later Md.out hc7)
 replace BR := Box.later (BR) hc7; replace cBR := BR.cell; replace fBR := BR.free
 refine hJ _ _ hc7 ?_
 clear hJ J
 refine walk_ext rfl rfl (fun w8 hb8 J hJ => ?_); go_simp
 replace Mb := Lib.hid (Mag.later Mb.out hb8)
 replace Md := Lib.hid (Mag.later Md.out hb8)
 replace Ms := Lib.hid (Mag.later Ms.out hb8)
 replace BR := Box.later (BR) hb8; replace cBR := BR.cell; replace fBR := BR.free
 refine (signed_ok _ s _ _ magA).mono ?_
 rintro e v8 ⟨v, rfl, hc8, hv⟩
 obtain ⟨paMv, lMv, caMv, rfl, Mv⟩ := hv; replace Mv := Lib.hid Mv
 replace Mb := Lib.hid (Mag.later Mb.out hc8)
 replace Md := Lib.hid (Mag.later Md.out hc8)
 replace Ms := Lib.hid (Mag.later Ms.out hc8)
 replace BR := Box.later (BR) hc8; replace cBR := BR.cell; replace fBR := BR.free
 refine hJ _ _ hc8 ?_
 clear hJ J
 refine walk_ext rfl rfl (fun w9 hb9 J hJ => ?_); go_simp
 replace Mb := Lib.hid (Mag.later Mb.out hb9)
 replace Md := Lib.hid (Mag.later Md.out hb9)
 replace Mv := Lib.hid (Mag.later Mv.out hb9)
 replace BR := Box.later (BR) hb9; replace cBR := BR.cell; replace fBR := BR.free
 refine ((times_ok _ _ b d _ magA magA Kb.out Kd.out).mono (by rw [Et.out]; exact fun _ _ h => h)).mono ?_
 rintro e v9 ⟨v, rfl, hc9, hv⟩
 obtain ⟨paMt, lMt, caMt, rfl⟩ := hv.slice; have Mt := Lib.hid hv; clear hv
 replace Mb := Lib.hid (Mag.later Mb.out hc9)
 replace Md := Lib.hid (Mag.later Md.out hc9)
 replace Mv := Lib.hid (Mag.later Mv.out hc9)
 replace BR := Box.later (BR) hc9; replace cBR := BR.cell; replace fBR := BR.free
 refine hJ _ _ hc9 ?_
 clear hJ J
 repeat (first | (refine walk_pure0 rfl rfl (fun J hJ => ?_); go_simp; refine hJ _ ?_; clear hJ J) | (refine walk_load rfl rfl rfl rfl (fun J hJ => ?_); go_simp; refine hJ _ ?_; clear hJ J; try go_simp))
 refine walk_fin [_] rfl (fun w14 hb14 => ?_)
 replace BR := Box.later (BR) hb14; replace cBR := BR.cell; replace fBR := BR.free
 go_wp2_with fail
 refine ret_c rfl rfl boxA Tryz.underlying125 rfl (by kernel_rfl) ?_
 exact ⟨_, rfl, belA, RatV.mk (sgd s (!(decide (p.num < 0) == decide (q.num < 0)))).natAbs t magA magA (by rw [HP.out.1]) HP.out.2.symm (by rw [HP.out.1])⟩
end Go.Proofs.frac
namespace Go.Proofs.frac
open Go Go.RowKit Go.SW Go.Num Go.Mem Go.Proofs Go.Dec Go.Fra
set_option maxRecDepth 10000 in
set_option maxHeartbeats 4000000 in
theorem add_ok (x y : Value) (p q : Rat) (w : World) (hx : RatV w x p) (hy : RatV w y q) (kp : szq 1000000 p) (kq : szq 1000000 q) :
  Calls Tryz.prog 147 #[x, y] w (fun e w' => ∃ v, e = .returned v ∧ Below w.heap.size w w' ∧ RatV w' v (p + q)) := by
 obtain ⟨paH, lH, caH, pbH, mH, cbH, rfl, H, Hd⟩ := hx; replace H := Lib.hid H; replace Hd := Lib.hid Hd
 obtain ⟨paG, lG, caG, pbG, mG, cbG, rfl, G, Gd⟩ := hy; replace G := Lib.hid G; replace Gd := Lib.hid Gd
 have HP := Lib.hid (add_parts2 p q)
 have hp := p.den_pos
 have hq := q.den_pos
 have hg : 0 < p.den.gcd q.den := Nat.gcd_pos_of_pos_right _ hq
 have k1 := @sz_div q.den (p.den.gcd q.den)
 have k2 := @sz_div p.den (p.den.gcd q.den)
 have k3 := sz_gcd_right (a := p.den) hq
 obtain ⟨kp1, kp2⟩ := kp
 obtain ⟨kq1, kq2⟩ := kq
 obtain ⟨g, Eg⟩ : ∃ y : Nat, Hid (p.den.gcd q.den = y) := ⟨_, Lib.hid rfl⟩
 rw [Eg.out] at hg HP k1 k2 k3
 obtain ⟨l, El⟩ : ∃ y : Nat, Hid (q.den / g = y) := ⟨_, Lib.hid rfl⟩
 rw [El.out] at HP k1
 obtain ⟨r, Er⟩ : ∃ y : Nat, Hid (p.den / g = y) := ⟨_, Lib.hid rfl⟩
 rw [Er.out] at HP k2
 have k4 := sz_absmul p.num l
 have k5 := sz_absmul q.num r
 obtain ⟨s, Es⟩ : ∃ y : Int, Hid (p.num * (l : Int) = y) := ⟨_, Lib.hid rfl⟩
 rw [Es.out] at HP k4
 obtain ⟨t, Et⟩ : ∃ y : Int, Hid (q.num * (r : Int) = y) := ⟨_, Lib.hid rfl⟩
 rw [Et.out] at HP k5
 have k6 := sz_absadd s t
 obtain ⟨u, Eu⟩ : ∃ y : Int, Hid (s + t = y) := ⟨_, Lib.hid rfl⟩
 rw [Eu.out] at HP k6
 have hh : 0 < u.natAbs.gcd g := Nat.gcd_pos_of_pos_right _ hg
 obtain ⟨h, Eh⟩ : ∃ y : Nat, Hid (u.natAbs.gcd g = y) := ⟨_, Lib.hid rfl⟩
 rw [Eh.out] at HP hh
 obtain ⟨m, Em⟩ : ∃ y : Nat, Hid (u.natAbs / h = y) := ⟨_, Lib.hid rfl⟩
 rw [Em.out] at HP
 obtain ⟨c, Ec⟩ : ∃ y : Nat, Hid (q.den / h = y) := ⟨_, Lib.hid rfl⟩
 rw [Ec.out] at HP
 have k7 : sz 1000000000 c ≤ sz 1000000000 q.den := by rw [← Ec.out]; exact sz_div
 obtain ⟨d, Ed⟩ : ∃ y : Nat, Hid (r * c = y) := ⟨_, Lib.hid rfl⟩
 rw [Ed.out] at HP
 have HG := Lib.hid hg
 have HH := Lib.hid hh
 have Kpn : Hid (sz 1000000000 p.num.natAbs ≤ 549755813888) := by unfold Hid; omega
 have Kqn : Hid (sz 1000000000 q.num.natAbs ≤ 549755813888) := by unfold Hid; omega
 have Kpd : Hid (sz 1000000000 p.den ≤ 549755813888) := by unfold Hid; omega
 have Kqd : Hid (sz 1000000000 q.den ≤ 549755813888) := by unfold Hid; omega
 have Kg : Hid (sz 1000000000 g ≤ 549755813888) := by unfold Hid; omega
 have Kl : Hid (sz 1000000000 l ≤ 549755813888) := by unfold Hid; omega
 have Kr : Hid (sz 1000000000 r ≤ 549755813888) := by unfold Hid; omega
 have Ks : Hid (sz 1000000000 s.natAbs ≤ 549755813888) := by unfold Hid; omega
 have Kt : Hid (sz 1000000000 t.natAbs ≤ 549755813888) := by unfold Hid; omega
 have Ku : Hid (sz 1000000000 u.natAbs ≤ 549755813888) := by unfold Hid; omega
 have Kc : Hid (sz 1000000000 c ≤ 549755813888) := by unfold Hid; omega
 clear k1 k2 k3 k4 k5 k6 k7 kp1 kp2 kq1 kq2 hg hh hp hq
 go_enter Tryz.func147, Tryz.ntmps147
 go_wp2_with fail
 refine ((gcd_ok _ _ p.den q.den _ magA magA Kpd.out Kqd.out).mono (by rw [Eg.out]; exact fun _ _ h => h)).mono ?_
 rintro e v1 ⟨v, rfl, hc1, hv⟩
 obtain ⟨paHg, lHg, caHg, rfl⟩ := hv.slice; have Hg := Lib.hid hv; clear hv
 have BR := Box.later (Box.at2 _ _ _ _ _) hc1; have cBR := BR.cell; have fBR := BR.free
 have B1 := Box.later (Box.alloc (Box.at1 _ _ _ _) _) hc1; have cB1 := B1.cell; have fB1 := B1.free
 have B0 := Box.later (Box.alloc (Box.alloc (Box.new _ _ _) _) _) hc1; have cB0 := B0.cell; have fB0 := B0.free
 go_wp2_with fail
 refine ((divide_ok _ _ q.den g _ magA magA HG.out Kqd.out).mono (by rw [El.out]; exact fun _ _ h => h)).mono ?_
 rintro e v2 ⟨v, vr, rfl, hc2, hv, hvr⟩
 obtain ⟨paHl, lHl, caHl, rfl⟩ := hv.slice; have Hl := Lib.hid hv; clear hv; obtain ⟨paHlr, lHlr, caHlr, rfl⟩ := hvr.slice; have Hlr := Lib.hid hvr; clear hvr
 replace BR := Box.later (BR) hc2; replace cBR := BR.cell; replace fBR := BR.free
 replace B1 := Box.later (B1) hc2; replace cB1 := B1.cell; replace fB1 := B1.free
 replace B0 := Box.later (B0) hc2; replace cB0 := B0.cell; replace fB0 := B0.free
 go_wp2_with fail
 refine ((divide_ok _ _ p.den g _ magA magA HG.out Kpd.out).mono (by rw [Er.out]; exact fun _ _ h => h)).mono ?_
 rintro e v3 ⟨v, vr, rfl, hc3, hv, hvr⟩
 obtain ⟨paHr, lHr, caHr, rfl⟩ := hv.slice; have Hr := Lib.hid hv; clear hv; obtain ⟨paHrr, lHrr, caHrr, rfl⟩ := hvr.slice; have Hrr := Lib.hid hvr; clear hvr
 replace BR := Box.later (BR) hc3; replace cBR := BR.cell; replace fBR := BR.free
 replace B1 := Box.later (B1) hc3; replace cB1 := B1.cell; replace fB1 := B1.free
 replace B0 := Box.later (B0) hc3; replace cB0 := B0.cell; replace fB0 := B0.free
 go_wp2_with fail
 refine wp_region_walk [(.pure, 0), (.read, 1), (.pure, 2), (.pure, 4), (.read, 5), (.pure, 6), (.ext, 3), (.ext, 7), (.ext, 8), (.alloc #[.slice none 0 0, .bool false] 123, 9), (.fin, 10)] (by kernel_rfl) (by kernel_rfl) (allocRuns_of (by kernel_rfl)) (fun _ _ _ _ hd h => And.intro (hd.trans (And.left h)) (And.right h)) ?_
 repeat (first | (refine walk_pure0 rfl rfl (fun J hJ => ?_); go_simp; refine hJ _ ?_; clear hJ J) | (refine walk_load rfl rfl rfl rfl (fun J hJ => ?_); go_simp; refine hJ _ ?_; clear hJ J; try go_simp))
 refine walk_ext rfl rfl (fun w4 hb4 J hJ => ?_); go_simp
 replace BR := Box.later (Box.drew BR) hb4; replace cBR := BR.cell; replace fBR := BR.free
 replace B1 := Box.later (Box.drew B1) hb4; replace cB1 := B1.cell; replace fB1 := B1.free
 replace B0 := Box.later (Box.drew B0) hb4; replace cB0 := B0.cell; replace fB0 := B0.free
 refine ((scaled_ok _ _ p.num l _ (IntV.of_neg magA) magA Kpn.out Kl.out).mono (by rw [Es.out]; exact fun _ _ h => h)).mono ?_
 rintro e v4 ⟨v, rfl, hc4, hv⟩
 obtain ⟨paHs, lHs, caHs, rfl, Hs⟩ := hv; replace Hs := Lib.hid Hs
 replace BR := Box.later (BR) hc4; replace cBR := BR.cell; replace fBR := BR.free
 replace B1 := Box.later (B1) hc4; replace cB1 := B1.cell; replace fB1 := B1.free
 replace B0 := Box.later (B0) hc4; replace cB0 := B0.cell; replace fB0 := B0.free
 refine hJ _ _ hc4 ?_
 clear hJ J
 refine walk_ext rfl rfl (fun w5 hb5 J hJ => ?_); go_simp
 replace BR := Box.later (BR) hb5; replace cBR := BR.cell; replace fBR := BR.free
 replace B1 := Box.later (B1) hb5; replace cB1 := B1.cell; replace fB1 := B1.free
 replace B0 := Box.later (B0) hb5; replace cB0 := B0.cell; replace fB0 := B0.free
 refine ((scaled_ok _ _ q.num r _ (IntV.of_neg magA) magA Kqn.out Kr.out).mono (by rw [Et.out]; exact fun _ _ h => h)).mono ?_
 rintro e v5 ⟨v, rfl, hc5, hv⟩
 obtain ⟨paHt, lHt, caHt, rfl, Ht⟩ := hv; replace Ht := Lib.hid Ht
 replace BR := Box.later (BR) hc5; replace cBR := BR.cell; replace fBR := BR.free
 replace B1 := Box.later (B1) hc5; replace cB1 := B1.cell; replace fB1 := B1.free
 replace B0 := Box.later (B0) hc5; replace cB0 := B0.cell; replace fB0 := B0.free
 refine hJ _ _ hc5 ?_
 clear hJ J
 refine walk_ext rfl rfl (fun w6 hb6 J hJ => ?_); go_simp
 replace BR := Box.later (BR) hb6; replace cBR := BR.cell; replace fBR := BR.free
 replace B1 := Box.later (B1) hb6; replace cB1 := B1.cell; replace fB1 := B1.free
 replace B0 := Box.later (B0) hb6; replace cB0 := B0.cell; replace fB0 := B0.free
 refine ((sum_ok _ _ s t _ (IntV.of_neg magA) (IntV.of_neg magA) Ks.out Kt.out).mono (by rw [Eu.out]; exact fun _ _ h => h)).mono ?_
 rintro e v6 ⟨v, rfl, hc6, hv⟩
 obtain ⟨paHu, lHu, caHu, rfl, Hu⟩ := hv; replace Hu := Lib.hid Hu
 replace BR := Box.later (BR) hc6; replace cBR := BR.cell; replace fBR := BR.free
 replace B1 := Box.later (B1) hc6; replace cB1 := B1.cell; replace fB1 := B1.free
 replace B0 := Box.later (B0) hc6; replace cB0 := B0.cell; replace fB0 := B0.free
 refine hJ _ _ hc6 ?_
 clear hJ J
 refine walk_alloc rfl (fun b1 w7 hw7 hNb1 hltb1 hAb1 hxb1 => ?_); go_simp; replace hxb1 : Box _ _ _ _ := hxb1; have hWb1 : w.heap.size ≤ b1 := (by first | omega | exact Nat.le_trans (Below.size (B := w.heap.size) belA) hNb1)
 replace BR := Box.later (BR) hw7; replace cBR := BR.cell; replace fBR := BR.free; replace B1 := Box.later (B1) hw7; replace cB1 := B1.cell; replace fB1 := B1.free; replace B0 := Box.later (B0) hw7; replace cB0 := B0.cell; replace fB0 := B0.free
 refine walk_fin [_] rfl (fun w8 hb8 => ?_)
 replace BR := Box.later (BR) hb8; replace cBR := BR.cell; replace fBR := BR.free; replace B1 := Box.later (B1) hb8; replace cB1 := B1.cell; replace fB1 := B1.free; replace B0 := Box.later (B0) hb8; replace cB0 := B0.cell; replace fB0 := B0.free; replace hxb1 := Box.later (hxb1) hb8; replace chxb1 := hxb1.cell; replace fhxb1 := hxb1.free
 have n0 := B0.ne hxb1 (by decide)
 have n1 := B1.ne hxb1 (by decide)
 have n2 := BR.ne hxb1 (by decide)
 go_wp2_with fail
 refine ((gcd_ok _ _ u.natAbs g _ magA magA Ku.out Kg.out).mono (by rw [Eh.out]; exact fun _ _ h => h)).mono ?_
 rintro e v9 ⟨v, rfl, hc9, hv⟩
 obtain ⟨paHh, lHh, caHh, rfl⟩ := hv.slice; have Hh := Lib.hid hv; clear hv
 replace Hu := Lib.hid (Mag.carry Hu.out magA hc9)
 replace Hg := Lib.hid (Mag.carry Hg.out magA hc9)
 replace Hr := Lib.hid (Mag.carry Hr.out magA hc9)
 replace G := Lib.hid (Mag.carry G.out magA hc9)
 replace Gd := Lib.hid (Mag.carry Gd.out magA hc9)
 replace hxb1 : Box _ (b1) _ _ := Box.later boxA hc9; (try simp only [List.setIfInBounds_toArray, List.set_cons_zero, List.set_cons_succ] at hxb1); replace chxb1 := hxb1.cell; replace fhxb1 := hxb1.free
 replace BR : Box _ (w.heap.size + 1 + 1) _ _ := Box.later boxA hc9; (try simp only [List.setIfInBounds_toArray, List.set_cons_zero, List.set_cons_succ] at BR); replace cBR := BR.cell; replace fBR := BR.free
 replace B1 : Box _ (w.heap.size + 1) _ _ := Box.later boxA hc9; (try simp only [List.setIfInBounds_toArray, List.set_cons_zero, List.set_cons_succ] at B1); replace cB1 := B1.cell; replace fB1 := B1.free
 replace B0 : Box _ (w.heap.size) _ _ := Box.later boxA hc9; (try simp only [List.setIfInBounds_toArray, List.set_cons_zero, List.set_cons_succ] at B0); replace cB0 := B0.cell; replace fB0 := B0.free
 go_wp2_with fail
 refine ((divide_ok _ _ u.natAbs h _ magA magA HH.out Ku.out).mono (by rw [Em.out]; exact fun _ _ h => h)).mono ?_
 rintro e v10 ⟨v, vr, rfl, hc10, hv, hvr⟩
 obtain ⟨paHm, lHm, caHm, rfl⟩ := hv.slice; have Hm := Lib.hid hv; clear hv; obtain ⟨paHmr, lHmr, caHmr, rfl⟩ := hvr.slice; have Hmr := Lib.hid hvr; clear hvr
 replace hxb1 := Box.later (hxb1) hc10; replace chxb1 := hxb1.cell; replace fhxb1 := hxb1.free
 replace BR := Box.later (BR) hc10; replace cBR := BR.cell; replace fBR := BR.free
 replace B1 := Box.later (B1) hc10; replace cB1 := B1.cell; replace fB1 := B1.free
 replace B0 := Box.later (B0) hc10; replace cB0 := B0.cell; replace fB0 := B0.free
 go_wp2_with fail
 refine ((divide_ok _ _ q.den h _ magA magA HH.out Kqd.out).mono (by rw [Ec.out]; exact fun _ _ h => h)).mono ?_
 rintro e v11 ⟨v, vr, rfl, hc11, hv, hvr⟩
 obtain ⟨paHc, lHc, caHc, rfl⟩ := hv.slice; have Hc := Lib.hid hv; clear hv; obtain ⟨paHcr, lHcr, caHcr, rfl⟩ := hvr.slice; have Hcr := Lib.hid hvr; clear hvr
 replace hxb1 := Box.later (hxb1) hc11; replace chxb1 := hxb1.cell; replace fhxb1 := hxb1.free
 replace BR := Box.later (BR) hc11; replace cBR := BR.cell; replace fBR := BR.free
 replace B1 := Box.later (B1) hc11; replace cB1 := B1.cell; replace fB1 := B1.free
 replace B0 := Box.later (B0) hc11; replace cB0 := B0.cell; replace fB0 := B0.free
 go_wp2_with fail
 refine (signed_ok _ m _ _ magA).mono ?_
 rintro e v12 ⟨v, rfl, hc12, hv⟩
 obtain ⟨paHv, lHv, caHv, rfl, Hv⟩ := hv; replace Hv := Lib.hid Hv
 replace hxb1 := Box.later (hxb1) hc12; replace chxb1 := hxb1.cell; replace fhxb1 := hxb1.free
 replace BR := Box.later (BR) hc12; replace cBR := BR.cell; replace fBR := BR.free
 go_wp2_with fail
 refine ((times_ok _ _ r c _ magA magA (Nat.le_trans Kr.out (by omega)) (Nat.le_trans Kc.out (by omega))).mono (by rw [Ed.out]; exact fun _ _ h => h)).mono ?_
 rintro e v13 ⟨v, rfl, hc13, hv⟩
 obtain ⟨paHd, lHd, caHd, rfl⟩ := hv.slice; have Hd := Lib.hid hv; clear hv
 replace BR := Box.later (BR) hc13; replace cBR := BR.cell; replace fBR := BR.free
 go_wp2_with fail
 refine ret_c rfl rfl boxA Tryz.underlying125 rfl (by kernel_rfl) ?_
 exact ⟨_, rfl, belA, RatV.mk (sgd m (decide (u < 0))).natAbs d magA magA (by rw [HP.out.1]) HP.out.2.symm (by rw [HP.out.1])⟩
end Go.Proofs.frac
namespace Go.Proofs.frac
open Go Go.RowKit Go.SW Go.Num Go.Mem Go.Proofs Go.Dec Go.Fra
set_option maxRecDepth 10000 in
theorem sub_ok (x y : Value) (p q : Rat) (w : World) (hx : RatV w x p) (hy : RatV w y q) (kp : szq 1000000 p) (kq : szq 1000000 q) :
  Calls Tryz.prog 148 #[x, y] w (fun e w' => ∃ v, e = .returned v ∧ Below w.heap.size w w' ∧ RatV w' v (p - q)) := by
 obtain ⟨paH, lH, caH, pbH, mH, cbH, rfl, H, Hd⟩ := hx; replace H := Lib.hid H; replace Hd := Lib.hid Hd
 obtain ⟨paG, lG, caG, pbG, mG, cbG, rfl, G, Gd⟩ := hy; replace G := Lib.hid G; replace Gd := Lib.hid Gd
 rw [Rat.sub_eq_add_neg]
 have KP := Lib.hid kp
 have KQ := Lib.hid (szq_neg kq)
 clear kp kq
 obtain ⟨r, Er⟩ : ∃ y : Rat, Hid (-q = y) := ⟨_, Lib.hid rfl⟩
 rw [Er.out] at KQ ⊢
 obtain ⟨s, Es⟩ : ∃ y : Rat, Hid (p + r = y) := ⟨_, Lib.hid rfl⟩
 rw [Es.out]
 go_enter Tryz.func148, Tryz.ntmps148
 go_wp2_with fail
 refine wp_region_walk [(.read, 0), (.read, 1), (.ext, 2), (.ext, 3), (.fin, 4)] (by kernel_rfl) (by kernel_rfl) (allocRuns_of (by kernel_rfl)) (fun _ _ _ _ hd h => And.intro (hd.trans (And.left h)) (And.right h)) ?_
 repeat (first | (refine walk_pure0 rfl rfl (fun J hJ => ?_); go_simp; refine hJ _ ?_; clear hJ J) | (refine walk_load rfl rfl rfl rfl (fun J hJ => ?_); go_simp; refine hJ _ ?_; clear hJ J; try go_simp))
 refine walk_ext rfl rfl (fun w1 hb1 J hJ => ?_); go_simp
 have BR := Box.later (Box.drew (Box.at2 _ _ _ _ _)) hb1; have cBR := BR.cell; have fBR := BR.free
 refine ((negated_ok _ q _ (RatV.of magA magA)).mono (by rw [Er.out]; exact fun _ _ h => h)).mono ?_
 rintro e v1 ⟨v, rfl, hc1, hv⟩
 obtain ⟨paHr, lHr, caHr, pbHr, mHr, cbHr, rfl, Hr, Hrd⟩ := hv; replace Hr := Lib.hid Hr; replace Hrd := Lib.hid Hrd
 replace BR := Box.later (BR) hc1; replace cBR := BR.cell; replace fBR := BR.free
 refine hJ _ _ hc1 ?_
 clear hJ J
 refine walk_ext rfl rfl (fun w2 hb2 J hJ => ?_); go_simp
 replace BR := Box.later (BR) hb2; replace cBR := BR.cell; replace fBR := BR.free
 refine ((add_ok _ _ p r _ (RatV.of magA magA) (RatV.of magA magA) KP.out KQ.out).mono (by rw [Es.out]; exact fun _ _ h => h)).mono ?_
 rintro e v2 ⟨v, rfl, hc2, hv⟩
 obtain ⟨paHs, lHs, caHs, pbHs, mHs, cbHs, rfl, Hs, Hsd⟩ := hv; replace Hs := Lib.hid Hs; replace Hsd := Lib.hid Hsd
 replace BR := Box.later (BR) hc2; replace cBR := BR.cell; replace fBR := BR.free
 refine hJ _ _ hc2 ?_
 clear hJ J
 repeat (first | (refine walk_pure0 rfl rfl (fun J hJ => ?_); go_simp; refine hJ _ ?_; clear hJ J) | (refine walk_load rfl rfl rfl rfl (fun J hJ => ?_); go_simp; refine hJ _ ?_; clear hJ J; try go_simp))
 refine walk_fin [_] rfl (fun w14 hb14 => ?_)
 replace BR := Box.later (BR) hb14; replace cBR := BR.cell; replace fBR := BR.free
 go_wp2_with fail
 refine ret_c rfl rfl boxA Tryz.underlying125 rfl (by kernel_rfl) ?_
 exact ⟨_, rfl, belA, RatV.of magA magA⟩
end Go.Proofs.frac
namespace Go.Proofs.frac
open Go Go.RowKit Go.SW Go.Num Go.Mem Go.Proofs Go.Dec Go.Fra
set_option maxRecDepth 10000 in
theorem result_bad (w : World) :
  Calls Tryz.prog 145 #[.agg #[.slice none 0 0, .bool false, .slice none 0 0], .int .i64 20] w (fun e w' => e = .returned (.tuple #[.agg #[.string ⟨#[]⟩, .string ⟨#[]⟩], .int .i64 20]) ∧ Below w.heap.size w w') := by
 go_enter Tryz.func145, Tryz.ntmps145
 go_wp2_with fail
 refine ret_ct rfl rfl boxA Tryz.underlying36 rfl (by kernel_rfl) ?_
 exact ⟨rfl, belA⟩
set_option maxRecDepth 10000 in
theorem result_ok (v : Value) (q : Rat) (w : World) (h : RatV w v q) (k : szq 1000000 q) (ht : Bld.Pow w) :
  Calls Tryz.prog 145 #[v, .int .i64 0] w (fun e w' => e = .returned (Fr.res (wr q)) ∧ Below w.heap.size w w') := by
 obtain ⟨paH, lH, caH, pbH, mH, cbH, rfl, H, Hd⟩ := h; replace H := Lib.hid H; replace Hd := Lib.hid Hd
 have HT := Lib.hid ht
 have K := Lib.hid k
 clear ht k
 obtain ⟨x, Ex⟩ : ∃ y : FrI, Hid (wr q = y) := ⟨_, Lib.hid rfl⟩
 rw [Ex.out]
 obtain ⟨⟨s, t⟩, e⟩ := x
 rw [res_mk]
 go_enter Tryz.func145, Tryz.ntmps145
 go_wp2_with fail
 refine ((write_ok _ q _ (RatV.of magA magA) K.out (HT.out.later belA)).mono (by rw [Ex.out, res_mk]; exact fun _ _ h => h)).mono ?_
 rintro e v1 ⟨rfl, hc1⟩
 have BR := Box.later (Box.at1 _ _ _ _) hc1; have cBR := BR.cell; have fBR := BR.free; have lBR := BR.lt
 go_wp2_with fail
 refine ret_ct rfl rfl boxA Tryz.underlying36 rfl (by kernel_rfl) ?_
 exact ⟨rfl, belA⟩
set_option maxRecDepth 10000 in
set_option maxHeartbeats 400000 in
theorem apply_add (s t s' t' : ByteArray) (w : World) (p q : Rat) (h : rd ⟨s, t⟩ = some p) (k : rd ⟨s', t'⟩ = some q) :
  Calls Tryz.prog 146 #[.agg #[.string s, .string t], .agg #[.string s', .string t'], .func (.func 147) #[] #[]] w (fun e w' => ∃ v, e = .returned (.tuple #[v, .int .i64 0]) ∧ Below w.heap.size w w' ∧ RatV w' v (p + q)) := by
 have HR := Lib.hid (read_of h)
 have HS := Lib.hid (read_of k)
 have KP := Lib.hid ((okq_sz (of_rd h).2).mono (show 67 ≤ 1000000 by omega))
 have KQ := Lib.hid ((okq_sz (of_rd k).2).mono (show 67 ≤ 1000000 by omega))
 clear h k
 obtain ⟨r, Er⟩ : ∃ y : Rat, Hid (p + q = y) := ⟨_, Lib.hid rfl⟩
 rw [Er.out]
 go_enter Tryz.func146, Tryz.ntmps146
 go_wp2_with fail
 refine (HR.out _).mono ?_
 rintro e v1 ⟨v, rfl, hc1, hv⟩
 obtain ⟨paHp, lHp, caHp, pbHp, mHp, cbHp, rfl, Hp, Hpd⟩ := hv; replace Hp := Lib.hid Hp; replace Hpd := Lib.hid Hpd
 have BR := Box.later (Box.at2 _ _ _ _ _) hc1; have cBR := BR.cell; have fBR := BR.free; have lBR := BR.lt
 have B1 := Box.later (Box.alloc (Box.at1 _ _ _ _) _) hc1; have cB1 := B1.cell; have fB1 := B1.free; have lB1 := B1.lt
 go_wp2_with fail
 refine (HS.out _).mono ?_
 rintro e v2 ⟨v, rfl, hc2, hv⟩
 obtain ⟨paHq, lHq, caHq, pbHq, mHq, cbHq, rfl, Hq, Hqd⟩ := hv; replace Hq := Lib.hid Hq; replace Hqd := Lib.hid Hqd
 replace Hp := Lib.hid (Mag.carry Hp.out magA hc2)
 replace Hpd := Lib.hid (Mag.carry Hpd.out magA hc2)
 replace X1 : Box _ (v1.heap.size) _ _ := Box.later boxA hc2; (try simp only [List.setIfInBounds_toArray, List.set_cons_zero, List.set_cons_succ] at X1); replace cX1 := X1.cell; replace fX1 := X1.free; replace lX1 := X1.lt
 replace BR : Box _ (w.heap.size + 1 + 1) _ _ := Box.later boxA hc2; (try simp only [List.setIfInBounds_toArray, List.set_cons_zero, List.set_cons_succ] at BR); replace cBR := BR.cell; replace fBR := BR.free; replace lBR := BR.lt
 go_wp2_with fail
 refine ((add_ok _ _ p q _ (RatV.of magA magA) (RatV.of magA magA) KP.out KQ.out).mono (by rw [Er.out]; exact fun _ _ h => h)).mono ?_
 rintro e v3 ⟨v, rfl, hc3, hv⟩
 obtain ⟨paHr, lHr, caHr, pbHr, mHr, cbHr, rfl, Hr, Hrd⟩ := hv; replace Hr := Lib.hid Hr; replace Hrd := Lib.hid Hrd
 replace BR : Box _ (w.heap.size + 1 + 1) _ _ := Box.later boxA hc3; (try simp only [List.setIfInBounds_toArray, List.set_cons_zero, List.set_cons_succ] at BR); replace cBR := BR.cell; replace fBR := BR.free; replace lBR := BR.lt
 go_wp2_with fail
 refine ret_ct rfl rfl boxA Tryz.underlying125 rfl (by kernel_rfl) ?_
 exact ⟨_, rfl, belA, RatV.of magA magA⟩
set_option maxRecDepth 10000 in
set_option maxHeartbeats 400000 in
theorem apply_add_bad (s t s' t' : ByteArray) (w : World) (h : rd ⟨s, t⟩ = none ∨ rd ⟨s', t'⟩ = none) :
  Calls Tryz.prog 146 #[.agg #[.string s, .string t], .agg #[.string s', .string t'], .func (.func 147) #[] #[]] w (fun e w' => e = .returned (.tuple #[.agg #[.slice none 0 0, .bool false, .slice none 0 0], .int .i64 20]) ∧ Below w.heap.size w w') := by
 cases h1 : rd ⟨s, t⟩ with
 | none =>
  have HR := Lib.hid (read_not h1)
  cases k : rd ⟨s', t'⟩ with
  | none =>
   have HS := Lib.hid (read_not k)
   clear h k h1
   go_enter Tryz.func146, Tryz.ntmps146
   go_wp2_with fail
   refine (HR.out _).mono ?_
   rintro e v1 ⟨rfl, hc1⟩
   have BR := Box.later (Box.at2 _ _ _ _ _) hc1; have cBR := BR.cell; have fBR := BR.free; have lBR := BR.lt
   have B1 := Box.later (Box.alloc (Box.at1 _ _ _ _) _) hc1; have cB1 := B1.cell; have fB1 := B1.free; have lB1 := B1.lt
   go_wp2_with fail
   refine (HS.out _).mono ?_
   rintro e v2 ⟨rfl, hc2⟩
   replace BR : Box _ (w.heap.size + 1 + 1) _ _ := Box.later boxA hc2; replace cBR := BR.cell; replace fBR := BR.free; replace lBR := BR.lt
   have q1 : w.heap.size + 1 < v2.heap.size := by omega
   go_wp2_with fail
   refine ret_ct rfl rfl boxA Tryz.underlying125 rfl (by kernel_rfl) ?_
   exact ⟨rfl, belA⟩
  | some q =>
   have HS := Lib.hid (read_of k)
   clear h k h1
   go_enter Tryz.func146, Tryz.ntmps146
   go_wp2_with fail
   refine (HR.out _).mono ?_
   rintro e v1 ⟨rfl, hc1⟩
   have BR := Box.later (Box.at2 _ _ _ _ _) hc1; have cBR := BR.cell; have fBR := BR.free; have lBR := BR.lt
   have B1 := Box.later (Box.alloc (Box.at1 _ _ _ _) _) hc1; have cB1 := B1.cell; have fB1 := B1.free; have lB1 := B1.lt
   go_wp2_with fail
   refine (HS.out _).mono ?_
   rintro e v2 ⟨v, rfl, hc2, hv⟩
   obtain ⟨paHq, lHq, caHq, pbHq, mHq, cbHq, rfl, Hq, Hqd⟩ := hv; replace Hq := Lib.hid Hq; replace Hqd := Lib.hid Hqd
   replace BR : Box _ (w.heap.size + 1 + 1) _ _ := Box.later boxA hc2; replace cBR := BR.cell; replace fBR := BR.free; replace lBR := BR.lt
   have q1 : w.heap.size + 1 < v2.heap.size := by omega
   go_wp2_with fail
   refine ret_ct rfl rfl boxA Tryz.underlying125 rfl (by kernel_rfl) ?_
   exact ⟨rfl, belA⟩
 | some p =>
  have HR := Lib.hid (read_of h1)
  cases k : rd ⟨s', t'⟩ with
  | none =>
   have HS := Lib.hid (read_not k)
   clear h k h1
   go_enter Tryz.func146, Tryz.ntmps146
   go_wp2_with fail
   refine (HR.out _).mono ?_
   rintro e v1 ⟨v, rfl, hc1, hv⟩
   obtain ⟨paHp, lHp, caHp, pbHp, mHp, cbHp, rfl, Hp, Hpd⟩ := hv; replace Hp := Lib.hid Hp; replace Hpd := Lib.hid Hpd
   have BR := Box.later (Box.at2 _ _ _ _ _) hc1; have cBR := BR.cell; have fBR := BR.free; have lBR := BR.lt
   have B1 := Box.later (Box.alloc (Box.at1 _ _ _ _) _) hc1; have cB1 := B1.cell; have fB1 := B1.free; have lB1 := B1.lt
   go_wp2_with fail
   refine (HS.out _).mono ?_
   rintro e v2 ⟨rfl, hc2⟩
   replace BR : Box _ (w.heap.size + 1 + 1) _ _ := Box.later boxA hc2; replace cBR := BR.cell; replace fBR := BR.free; replace lBR := BR.lt
   have q1 : w.heap.size + 1 < v2.heap.size := by omega
   go_wp2_with fail
   refine ret_ct rfl rfl boxA Tryz.underlying125 rfl (by kernel_rfl) ?_
   exact ⟨rfl, belA⟩
  | some q => rw [h1, k] at h; simp at h
set_option maxRecDepth 10000 in
theorem Add_ok (a b : Fr) (w : World) (ht : Bld.Pow w) :
  Calls Tryz.prog 89 #[a.v, b.v] w (fun e w' => e = .returned (Fr.res (addF a b)) ∧ Below w.heap.size w w') := by
 obtain ⟨s, t⟩ := a
 obtain ⟨s', t'⟩ := b
 show Calls _ _ #[.agg #[.string s, .string t], .agg #[.string s', .string t']] _ _
 unfold addF
 have HT := Lib.hid ht
 clear ht
 by_cases hbad : rd ⟨s, t⟩ = none ∨ rd ⟨s', t'⟩ = none
 ·have e : ∀ f, bin f ⟨s, t⟩ ⟨s', t'⟩ = (Fr.no, 20) := fun f => by
   rcases hbad with h | h
   ·exact bin_no1 h
   ·exact bin_no2 h
  rw [e]
  have HA := Lib.hid (fun w => apply_add_bad s t s' t' w hbad)
  clear hbad e
  go_enter Tryz.func89, Tryz.ntmps89
  go_wp2_with fail
  refine (HA.out _).mono ?_
  rintro e v1 ⟨rfl, hc1⟩
  have BR := Box.later (Box.at2 _ _ _ _ _) hc1; have cBR := BR.cell; have fBR := BR.free; have lBR := BR.lt
  go_wp2_with fail
  refine (result_bad _).mono ?_
  rintro e v2 ⟨rfl, hc2⟩
  replace BR := Box.later (BR) hc2; replace cBR := BR.cell; replace fBR := BR.free; replace lBR := BR.lt
  go_wp2_with fail
  refine ret_ct rfl rfl boxA Tryz.underlying36 rfl (by kernel_rfl) ?_
  exact ⟨rfl, belA⟩
 ·obtain ⟨p, hp⟩ : ∃ p, rd ⟨s, t⟩ = some p := Option.ne_none_iff_exists'.1 (fun e => hbad (.inl e))
  obtain ⟨q, hq⟩ : ∃ q, rd ⟨s', t'⟩ = some q := Option.ne_none_iff_exists'.1 (fun e => hbad (.inr e))
  rw [bin_some hp hq]
  have KP := Lib.hid (okq_sz (of_rd hp).2)
  have KQ := Lib.hid (okq_sz (of_rd hq).2)
  have HA := Lib.hid (fun w => apply_add s t s' t' w p q hp hq)
  have KR : Hid (szq 1000000 (p + q)) := Lib.hid (szq.mono (k := 135) (szq_add KP.out KQ.out) (by omega))
  clear hp hq hbad KP KQ
  obtain ⟨r, Er⟩ : ∃ y : Rat, Hid (p + q = y) := ⟨_, Lib.hid rfl⟩
  simp only [Er.out] at KR HA ⊢
  obtain ⟨x, Ex⟩ : ∃ y : FrI, Hid (wr r = y) := ⟨_, Lib.hid rfl⟩
  rw [Ex.out]
  obtain ⟨⟨s1, t1⟩, e⟩ := x
  rw [res_mk]
  go_enter Tryz.func89, Tryz.ntmps89
  go_wp2_with fail
  refine (HA.out _).mono ?_
  rintro e v1 ⟨v, rfl, hc1, hv⟩
  obtain ⟨paHr, lHr, caHr, pbHr, mHr, cbHr, rfl, Hr, Hrd⟩ := hv; replace Hr := Lib.hid Hr; replace Hrd := Lib.hid Hrd
  have BR := Box.later (Box.at2 _ _ _ _ _) hc1; have cBR := BR.cell; have fBR := BR.free; have lBR := BR.lt
  go_wp2_with fail
  refine ((result_ok _ r _ (RatV.of magA magA) KR.out (HT.out.later belA)).mono (by rw [Ex.out, res_mk]; exact fun _ _ h => h)).mono ?_
  rintro e v2 ⟨rfl, hc2⟩
  replace BR := Box.later (BR) hc2; replace cBR := BR.cell; replace fBR := BR.free; replace lBR := BR.lt
  go_wp2_with fail
  refine ret_ct rfl rfl boxA Tryz.underlying36 rfl (by kernel_rfl) ?_
  exact ⟨rfl, belA⟩
set_option maxRecDepth 10000 in
set_option maxHeartbeats 400000 in
theorem apply_sub (s t s' t' : ByteArray) (w : World) (p q : Rat) (h : rd ⟨s, t⟩ = some p) (k : rd ⟨s', t'⟩ = some q) :
  Calls Tryz.prog 146 #[.agg #[.string s, .string t], .agg #[.string s', .string t'], .func (.func 148) #[] #[]] w (fun e w' => ∃ v, e = .returned (.tuple #[v, .int .i64 0]) ∧ Below w.heap.size w w' ∧ RatV w' v (p - q)) := by
 have HR := Lib.hid (read_of h)
 have HS := Lib.hid (read_of k)
 have KP := Lib.hid ((okq_sz (of_rd h).2).mono (show 67 ≤ 1000000 by omega))
 have KQ := Lib.hid ((okq_sz (of_rd k).2).mono (show 67 ≤ 1000000 by omega))
 clear h k
 obtain ⟨r, Er⟩ : ∃ y : Rat, Hid (p - q = y) := ⟨_, Lib.hid rfl⟩
 rw [Er.out]
 go_enter Tryz.func146, Tryz.ntmps146
 go_wp2_with fail
 refine (HR.out _).mono ?_
 rintro e v1 ⟨v, rfl, hc1, hv⟩
 obtain ⟨paHp, lHp, caHp, pbHp, mHp, cbHp, rfl, Hp, Hpd⟩ := hv; replace Hp := Lib.hid Hp; replace Hpd := Lib.hid Hpd
 have BR := Box.later (Box.at2 _ _ _ _ _) hc1; have cBR := BR.cell; have fBR := BR.free; have lBR := BR.lt
 have B1 := Box.later (Box.alloc (Box.at1 _ _ _ _) _) hc1; have cB1 := B1.cell; have fB1 := B1.free; have lB1 := B1.lt
 go_wp2_with fail
 refine (HS.out _).mono ?_
 rintro e v2 ⟨v, rfl, hc2, hv⟩
 obtain ⟨paHq, lHq, caHq, pbHq, mHq, cbHq, rfl, Hq, Hqd⟩ := hv; replace Hq := Lib.hid Hq; replace Hqd := Lib.hid Hqd
 replace Hp := Lib.hid (Mag.carry Hp.out magA hc2)
 replace Hpd := Lib.hid (Mag.carry Hpd.out magA hc2)
 replace X1 : Box _ (v1.heap.size) _ _ := Box.later boxA hc2; (try simp only [List.setIfInBounds_toArray, List.set_cons_zero, List.set_cons_succ] at X1); replace cX1 := X1.cell; replace fX1 := X1.free; replace lX1 := X1.lt
 replace BR : Box _ (w.heap.size + 1 + 1) _ _ := Box.later boxA hc2; (try simp only [List.setIfInBounds_toArray, List.set_cons_zero, List.set_cons_succ] at BR); replace cBR := BR.cell; replace fBR := BR.free; replace lBR := BR.lt
 go_wp2_with fail
 refine ((sub_ok _ _ p q _ (RatV.of magA magA) (RatV.of magA magA) KP.out KQ.out).mono (by rw [Er.out]; exact fun _ _ h => h)).mono ?_
 rintro e v3 ⟨v, rfl, hc3, hv⟩
 obtain ⟨paHr, lHr, caHr, pbHr, mHr, cbHr, rfl, Hr, Hrd⟩ := hv; replace Hr := Lib.hid Hr; replace Hrd := Lib.hid Hrd
 replace BR : Box _ (w.heap.size + 1 + 1) _ _ := Box.later boxA hc3; (try simp only [List.setIfInBounds_toArray, List.set_cons_zero, List.set_cons_succ] at BR); replace cBR := BR.cell; replace fBR := BR.free; replace lBR := BR.lt
 go_wp2_with fail
 refine ret_ct rfl rfl boxA Tryz.underlying125 rfl (by kernel_rfl) ?_
 exact ⟨_, rfl, belA, RatV.of magA magA⟩
set_option maxRecDepth 10000 in
set_option maxHeartbeats 400000 in
theorem apply_sub_bad (s t s' t' : ByteArray) (w : World) (h : rd ⟨s, t⟩ = none ∨ rd ⟨s', t'⟩ = none) :
  Calls Tryz.prog 146 #[.agg #[.string s, .string t], .agg #[.string s', .string t'], .func (.func 148) #[] #[]] w (fun e w' => e = .returned (.tuple #[.agg #[.slice none 0 0, .bool false, .slice none 0 0], .int .i64 20]) ∧ Below w.heap.size w w') := by
 cases h1 : rd ⟨s, t⟩ with
 | none =>
  have HR := Lib.hid (read_not h1)
  cases k : rd ⟨s', t'⟩ with
  | none =>
   have HS := Lib.hid (read_not k)
   clear h k h1
   go_enter Tryz.func146, Tryz.ntmps146
   go_wp2_with fail
   refine (HR.out _).mono ?_
   rintro e v1 ⟨rfl, hc1⟩
   have BR := Box.later (Box.at2 _ _ _ _ _) hc1; have cBR := BR.cell; have fBR := BR.free; have lBR := BR.lt
   have B1 := Box.later (Box.alloc (Box.at1 _ _ _ _) _) hc1; have cB1 := B1.cell; have fB1 := B1.free; have lB1 := B1.lt
   go_wp2_with fail
   refine (HS.out _).mono ?_
   rintro e v2 ⟨rfl, hc2⟩
   replace BR : Box _ (w.heap.size + 1 + 1) _ _ := Box.later boxA hc2; replace cBR := BR.cell; replace fBR := BR.free; replace lBR := BR.lt
   have q1 : w.heap.size + 1 < v2.heap.size := by omega
   go_wp2_with fail
   refine ret_ct rfl rfl boxA Tryz.underlying125 rfl (by kernel_rfl) ?_
   exact ⟨rfl, belA⟩
  | some q =>
   have HS := Lib.hid (read_of k)
   clear h k h1
   go_enter Tryz.func146, Tryz.ntmps146
   go_wp2_with fail
   refine (HR.out _).mono ?_
   rintro e v1 ⟨rfl, hc1⟩
   have BR := Box.later (Box.at2 _ _ _ _ _) hc1; have cBR := BR.cell; have fBR := BR.free; have lBR := BR.lt
   have B1 := Box.later (Box.alloc (Box.at1 _ _ _ _) _) hc1; have cB1 := B1.cell; have fB1 := B1.free; have lB1 := B1.lt
   go_wp2_with fail
   refine (HS.out _).mono ?_
   rintro e v2 ⟨v, rfl, hc2, hv⟩
   obtain ⟨paHq, lHq, caHq, pbHq, mHq, cbHq, rfl, Hq, Hqd⟩ := hv; replace Hq := Lib.hid Hq; replace Hqd := Lib.hid Hqd
   replace BR : Box _ (w.heap.size + 1 + 1) _ _ := Box.later boxA hc2; replace cBR := BR.cell; replace fBR := BR.free; replace lBR := BR.lt
   have q1 : w.heap.size + 1 < v2.heap.size := by omega
   go_wp2_with fail
   refine ret_ct rfl rfl boxA Tryz.underlying125 rfl (by kernel_rfl) ?_
   exact ⟨rfl, belA⟩
 | some p =>
  have HR := Lib.hid (read_of h1)
  cases k : rd ⟨s', t'⟩ with
  | none =>
   have HS := Lib.hid (read_not k)
   clear h k h1
   go_enter Tryz.func146, Tryz.ntmps146
   go_wp2_with fail
   refine (HR.out _).mono ?_
   rintro e v1 ⟨v, rfl, hc1, hv⟩
   obtain ⟨paHp, lHp, caHp, pbHp, mHp, cbHp, rfl, Hp, Hpd⟩ := hv; replace Hp := Lib.hid Hp; replace Hpd := Lib.hid Hpd
   have BR := Box.later (Box.at2 _ _ _ _ _) hc1; have cBR := BR.cell; have fBR := BR.free; have lBR := BR.lt
   have B1 := Box.later (Box.alloc (Box.at1 _ _ _ _) _) hc1; have cB1 := B1.cell; have fB1 := B1.free; have lB1 := B1.lt
   go_wp2_with fail
   refine (HS.out _).mono ?_
   rintro e v2 ⟨rfl, hc2⟩
   replace BR : Box _ (w.heap.size + 1 + 1) _ _ := Box.later boxA hc2; replace cBR := BR.cell; replace fBR := BR.free; replace lBR := BR.lt
   have q1 : w.heap.size + 1 < v2.heap.size := by omega
   go_wp2_with fail
   refine ret_ct rfl rfl boxA Tryz.underlying125 rfl (by kernel_rfl) ?_
   exact ⟨rfl, belA⟩
  | some q => rw [h1, k] at h; simp at h
set_option maxRecDepth 10000 in
theorem Sub_ok (a b : Fr) (w : World) (ht : Bld.Pow w) :
  Calls Tryz.prog 90 #[a.v, b.v] w (fun e w' => e = .returned (Fr.res (subF a b)) ∧ Below w.heap.size w w') := by
 obtain ⟨s, t⟩ := a
 obtain ⟨s', t'⟩ := b
 show Calls _ _ #[.agg #[.string s, .string t], .agg #[.string s', .string t']] _ _
 unfold subF
 have HT := Lib.hid ht
 clear ht
 by_cases hbad : rd ⟨s, t⟩ = none ∨ rd ⟨s', t'⟩ = none
 ·have e : ∀ f, bin f ⟨s, t⟩ ⟨s', t'⟩ = (Fr.no, 20) := fun f => by
   rcases hbad with h | h
   ·exact bin_no1 h
   ·exact bin_no2 h
  rw [e]
  have HA := Lib.hid (fun w => apply_sub_bad s t s' t' w hbad)
  clear hbad e
  go_enter Tryz.func90, Tryz.ntmps90
  go_wp2_with fail
  refine (HA.out _).mono ?_
  rintro e v1 ⟨rfl, hc1⟩
  have BR := Box.later (Box.at2 _ _ _ _ _) hc1; have cBR := BR.cell; have fBR := BR.free; have lBR := BR.lt
  go_wp2_with fail
  refine (result_bad _).mono ?_
  rintro e v2 ⟨rfl, hc2⟩
  replace BR := Box.later (BR) hc2; replace cBR := BR.cell; replace fBR := BR.free; replace lBR := BR.lt
  go_wp2_with fail
  refine ret_ct rfl rfl boxA Tryz.underlying36 rfl (by kernel_rfl) ?_
  exact ⟨rfl, belA⟩
 ·obtain ⟨p, hp⟩ : ∃ p, rd ⟨s, t⟩ = some p := Option.ne_none_iff_exists'.1 (fun e => hbad (.inl e))
  obtain ⟨q, hq⟩ : ∃ q, rd ⟨s', t'⟩ = some q := Option.ne_none_iff_exists'.1 (fun e => hbad (.inr e))
  rw [bin_some hp hq]
  have KP := Lib.hid (okq_sz (of_rd hp).2)
  have KQ := Lib.hid (okq_sz (of_rd hq).2)
  have HA := Lib.hid (fun w => apply_sub s t s' t' w p q hp hq)
  have KR : Hid (szq 1000000 (p - q)) := Lib.hid (szq.mono (k := 135) (by rw [Rat.sub_eq_add_neg]; exact szq_add KP.out (szq_neg KQ.out)) (by omega))
  clear hp hq hbad KP KQ
  obtain ⟨r, Er⟩ : ∃ y : Rat, Hid (p - q = y) := ⟨_, Lib.hid rfl⟩
  simp only [Er.out] at KR HA ⊢
  obtain ⟨x, Ex⟩ : ∃ y : FrI, Hid (wr r = y) := ⟨_, Lib.hid rfl⟩
  rw [Ex.out]
  obtain ⟨⟨s1, t1⟩, e⟩ := x
  rw [res_mk]
  go_enter Tryz.func90, Tryz.ntmps90
  go_wp2_with fail
  refine (HA.out _).mono ?_
  rintro e v1 ⟨v, rfl, hc1, hv⟩
  obtain ⟨paHr, lHr, caHr, pbHr, mHr, cbHr, rfl, Hr, Hrd⟩ := hv; replace Hr := Lib.hid Hr; replace Hrd := Lib.hid Hrd
  have BR := Box.later (Box.at2 _ _ _ _ _) hc1; have cBR := BR.cell; have fBR := BR.free; have lBR := BR.lt
  go_wp2_with fail
  refine ((result_ok _ r _ (RatV.of magA magA) KR.out (HT.out.later belA)).mono (by rw [Ex.out, res_mk]; exact fun _ _ h => h)).mono ?_
  rintro e v2 ⟨rfl, hc2⟩
  replace BR := Box.later (BR) hc2; replace cBR := BR.cell; replace fBR := BR.free; replace lBR := BR.lt
  go_wp2_with fail
  refine ret_ct rfl rfl boxA Tryz.underlying36 rfl (by kernel_rfl) ?_
  exact ⟨rfl, belA⟩
set_option maxRecDepth 10000 in
set_option maxHeartbeats 400000 in
theorem apply_mul (s t s' t' : ByteArray) (w : World) (p q : Rat) (h : rd ⟨s, t⟩ = some p) (k : rd ⟨s', t'⟩ = some q) :
  Calls Tryz.prog 146 #[.agg #[.string s, .string t], .agg #[.string s', .string t'], .func (.func 142) #[] #[]] w (fun e w' => ∃ v, e = .returned (.tuple #[v, .int .i64 0]) ∧ Below w.heap.size w w' ∧ RatV w' v (p * q)) := by
 have HR := Lib.hid (read_of h)
 have HS := Lib.hid (read_of k)
 have KP := Lib.hid ((okq_sz (of_rd h).2).mono (show 67 ≤ 1000000 by omega))
 have KQ := Lib.hid ((okq_sz (of_rd k).2).mono (show 67 ≤ 1000000 by omega))
 clear h k
 obtain ⟨r, Er⟩ : ∃ y : Rat, Hid (p * q = y) := ⟨_, Lib.hid rfl⟩
 rw [Er.out]
 go_enter Tryz.func146, Tryz.ntmps146
 go_wp2_with fail
 refine (HR.out _).mono ?_
 rintro e v1 ⟨v, rfl, hc1, hv⟩
 obtain ⟨paHp, lHp, caHp, pbHp, mHp, cbHp, rfl, Hp, Hpd⟩ := hv; replace Hp := Lib.hid Hp; replace Hpd := Lib.hid Hpd
 have BR := Box.later (Box.at2 _ _ _ _ _) hc1; have cBR := BR.cell; have fBR := BR.free; have lBR := BR.lt
 have B1 := Box.later (Box.alloc (Box.at1 _ _ _ _) _) hc1; have cB1 := B1.cell; have fB1 := B1.free; have lB1 := B1.lt
 go_wp2_with fail
 refine (HS.out _).mono ?_
 rintro e v2 ⟨v, rfl, hc2, hv⟩
 obtain ⟨paHq, lHq, caHq, pbHq, mHq, cbHq, rfl, Hq, Hqd⟩ := hv; replace Hq := Lib.hid Hq; replace Hqd := Lib.hid Hqd
 replace Hp := Lib.hid (Mag.carry Hp.out magA hc2)
 replace Hpd := Lib.hid (Mag.carry Hpd.out magA hc2)
 replace X1 : Box _ (v1.heap.size) _ _ := Box.later boxA hc2; (try simp only [List.setIfInBounds_toArray, List.set_cons_zero, List.set_cons_succ] at X1); replace cX1 := X1.cell; replace fX1 := X1.free; replace lX1 := X1.lt
 replace BR : Box _ (w.heap.size + 1 + 1) _ _ := Box.later boxA hc2; (try simp only [List.setIfInBounds_toArray, List.set_cons_zero, List.set_cons_succ] at BR); replace cBR := BR.cell; replace fBR := BR.free; replace lBR := BR.lt
 go_wp2_with fail
 refine ((mul_ok _ _ p q _ (RatV.of magA magA) (RatV.of magA magA) KP.out KQ.out).mono (by rw [Er.out]; exact fun _ _ h => h)).mono ?_
 rintro e v3 ⟨v, rfl, hc3, hv⟩
 obtain ⟨paHr, lHr, caHr, pbHr, mHr, cbHr, rfl, Hr, Hrd⟩ := hv; replace Hr := Lib.hid Hr; replace Hrd := Lib.hid Hrd
 replace BR : Box _ (w.heap.size + 1 + 1) _ _ := Box.later boxA hc3; (try simp only [List.setIfInBounds_toArray, List.set_cons_zero, List.set_cons_succ] at BR); replace cBR := BR.cell; replace fBR := BR.free; replace lBR := BR.lt
 go_wp2_with fail
 refine ret_ct rfl rfl boxA Tryz.underlying125 rfl (by kernel_rfl) ?_
 exact ⟨_, rfl, belA, RatV.of magA magA⟩
set_option maxRecDepth 10000 in
set_option maxHeartbeats 400000 in
theorem apply_mul_bad (s t s' t' : ByteArray) (w : World) (h : rd ⟨s, t⟩ = none ∨ rd ⟨s', t'⟩ = none) :
  Calls Tryz.prog 146 #[.agg #[.string s, .string t], .agg #[.string s', .string t'], .func (.func 142) #[] #[]] w (fun e w' => e = .returned (.tuple #[.agg #[.slice none 0 0, .bool false, .slice none 0 0], .int .i64 20]) ∧ Below w.heap.size w w') := by
 cases h1 : rd ⟨s, t⟩ with
 | none =>
  have HR := Lib.hid (read_not h1)
  cases k : rd ⟨s', t'⟩ with
  | none =>
   have HS := Lib.hid (read_not k)
   clear h k h1
   go_enter Tryz.func146, Tryz.ntmps146
   go_wp2_with fail
   refine (HR.out _).mono ?_
   rintro e v1 ⟨rfl, hc1⟩
   have BR := Box.later (Box.at2 _ _ _ _ _) hc1; have cBR := BR.cell; have fBR := BR.free; have lBR := BR.lt
   have B1 := Box.later (Box.alloc (Box.at1 _ _ _ _) _) hc1; have cB1 := B1.cell; have fB1 := B1.free; have lB1 := B1.lt
   go_wp2_with fail
   refine (HS.out _).mono ?_
   rintro e v2 ⟨rfl, hc2⟩
   replace BR : Box _ (w.heap.size + 1 + 1) _ _ := Box.later boxA hc2; replace cBR := BR.cell; replace fBR := BR.free; replace lBR := BR.lt
   have q1 : w.heap.size + 1 < v2.heap.size := by omega
   go_wp2_with fail
   refine ret_ct rfl rfl boxA Tryz.underlying125 rfl (by kernel_rfl) ?_
   exact ⟨rfl, belA⟩
  | some q =>
   have HS := Lib.hid (read_of k)
   clear h k h1
   go_enter Tryz.func146, Tryz.ntmps146
   go_wp2_with fail
   refine (HR.out _).mono ?_
   rintro e v1 ⟨rfl, hc1⟩
   have BR := Box.later (Box.at2 _ _ _ _ _) hc1; have cBR := BR.cell; have fBR := BR.free; have lBR := BR.lt
   have B1 := Box.later (Box.alloc (Box.at1 _ _ _ _) _) hc1; have cB1 := B1.cell; have fB1 := B1.free; have lB1 := B1.lt
   go_wp2_with fail
   refine (HS.out _).mono ?_
   rintro e v2 ⟨v, rfl, hc2, hv⟩
   obtain ⟨paHq, lHq, caHq, pbHq, mHq, cbHq, rfl, Hq, Hqd⟩ := hv; replace Hq := Lib.hid Hq; replace Hqd := Lib.hid Hqd
   replace BR : Box _ (w.heap.size + 1 + 1) _ _ := Box.later boxA hc2; replace cBR := BR.cell; replace fBR := BR.free; replace lBR := BR.lt
   have q1 : w.heap.size + 1 < v2.heap.size := by omega
   go_wp2_with fail
   refine ret_ct rfl rfl boxA Tryz.underlying125 rfl (by kernel_rfl) ?_
   exact ⟨rfl, belA⟩
 | some p =>
  have HR := Lib.hid (read_of h1)
  cases k : rd ⟨s', t'⟩ with
  | none =>
   have HS := Lib.hid (read_not k)
   clear h k h1
   go_enter Tryz.func146, Tryz.ntmps146
   go_wp2_with fail
   refine (HR.out _).mono ?_
   rintro e v1 ⟨v, rfl, hc1, hv⟩
   obtain ⟨paHp, lHp, caHp, pbHp, mHp, cbHp, rfl, Hp, Hpd⟩ := hv; replace Hp := Lib.hid Hp; replace Hpd := Lib.hid Hpd
   have BR := Box.later (Box.at2 _ _ _ _ _) hc1; have cBR := BR.cell; have fBR := BR.free; have lBR := BR.lt
   have B1 := Box.later (Box.alloc (Box.at1 _ _ _ _) _) hc1; have cB1 := B1.cell; have fB1 := B1.free; have lB1 := B1.lt
   go_wp2_with fail
   refine (HS.out _).mono ?_
   rintro e v2 ⟨rfl, hc2⟩
   replace BR : Box _ (w.heap.size + 1 + 1) _ _ := Box.later boxA hc2; replace cBR := BR.cell; replace fBR := BR.free; replace lBR := BR.lt
   have q1 : w.heap.size + 1 < v2.heap.size := by omega
   go_wp2_with fail
   refine ret_ct rfl rfl boxA Tryz.underlying125 rfl (by kernel_rfl) ?_
   exact ⟨rfl, belA⟩
  | some q => rw [h1, k] at h; simp at h
set_option maxRecDepth 10000 in
theorem Mul_ok (a b : Fr) (w : World) (ht : Bld.Pow w) :
  Calls Tryz.prog 88 #[a.v, b.v] w (fun e w' => e = .returned (Fr.res (mulF a b)) ∧ Below w.heap.size w w') := by
 obtain ⟨s, t⟩ := a
 obtain ⟨s', t'⟩ := b
 show Calls _ _ #[.agg #[.string s, .string t], .agg #[.string s', .string t']] _ _
 unfold mulF
 have HT := Lib.hid ht
 clear ht
 by_cases hbad : rd ⟨s, t⟩ = none ∨ rd ⟨s', t'⟩ = none
 ·have e : ∀ f, bin f ⟨s, t⟩ ⟨s', t'⟩ = (Fr.no, 20) := fun f => by
   rcases hbad with h | h
   ·exact bin_no1 h
   ·exact bin_no2 h
  rw [e]
  have HA := Lib.hid (fun w => apply_mul_bad s t s' t' w hbad)
  clear hbad e
  go_enter Tryz.func88, Tryz.ntmps88
  go_wp2_with fail
  refine (HA.out _).mono ?_
  rintro e v1 ⟨rfl, hc1⟩
  have BR := Box.later (Box.at2 _ _ _ _ _) hc1; have cBR := BR.cell; have fBR := BR.free; have lBR := BR.lt
  go_wp2_with fail
  refine (result_bad _).mono ?_
  rintro e v2 ⟨rfl, hc2⟩
  replace BR := Box.later (BR) hc2; replace cBR := BR.cell; replace fBR := BR.free; replace lBR := BR.lt
  go_wp2_with fail
  refine ret_ct rfl rfl boxA Tryz.underlying36 rfl (by kernel_rfl) ?_
  exact ⟨rfl, belA⟩
 ·obtain ⟨p, hp⟩ : ∃ p, rd ⟨s, t⟩ = some p := Option.ne_none_iff_exists'.1 (fun e => hbad (.inl e))
  obtain ⟨q, hq⟩ : ∃ q, rd ⟨s', t'⟩ = some q := Option.ne_none_iff_exists'.1 (fun e => hbad (.inr e))
  rw [bin_some hp hq]
  have KP := Lib.hid (okq_sz (of_rd hp).2)
  have KQ := Lib.hid (okq_sz (of_rd hq).2)
  have HA := Lib.hid (fun w => apply_mul s t s' t' w p q hp hq)
  have KR : Hid (szq 1000000 (p * q)) := Lib.hid (szq.mono (k := 135) ((szq_mul KP.out KQ.out).mono (by omega)) (by omega))
  clear hp hq hbad KP KQ
  obtain ⟨r, Er⟩ : ∃ y : Rat, Hid (p * q = y) := ⟨_, Lib.hid rfl⟩
  simp only [Er.out] at KR HA ⊢
  obtain ⟨x, Ex⟩ : ∃ y : FrI, Hid (wr r = y) := ⟨_, Lib.hid rfl⟩
  rw [Ex.out]
  obtain ⟨⟨s1, t1⟩, e⟩ := x
  rw [res_mk]
  go_enter Tryz.func88, Tryz.ntmps88
  go_wp2_with fail
  refine (HA.out _).mono ?_
  rintro e v1 ⟨v, rfl, hc1, hv⟩
  obtain ⟨paHr, lHr, caHr, pbHr, mHr, cbHr, rfl, Hr, Hrd⟩ := hv; replace Hr := Lib.hid Hr; replace Hrd := Lib.hid Hrd
  have BR := Box.later (Box.at2 _ _ _ _ _) hc1; have cBR := BR.cell; have fBR := BR.free; have lBR := BR.lt
  go_wp2_with fail
  refine ((result_ok _ r _ (RatV.of magA magA) KR.out (HT.out.later belA)).mono (by rw [Ex.out, res_mk]; exact fun _ _ h => h)).mono ?_
  rintro e v2 ⟨rfl, hc2⟩
  replace BR := Box.later (BR) hc2; replace cBR := BR.cell; replace fBR := BR.free; replace lBR := BR.lt
  go_wp2_with fail
  refine ret_ct rfl rfl boxA Tryz.underlying36 rfl (by kernel_rfl) ?_
  exact ⟨rfl, belA⟩
end Go.Proofs.frac
