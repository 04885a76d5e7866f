/- Lemmas for the proof. No condition. -/
import Derived.Test.YtddblpggomphpaaGreatDoorZB01
import Derived.Test.YtddblpggomphpaaGreatDoorZB02
import Derived.Test.YtddblpggomphpaaGreatDoorZB03
import Derived.Test.YtddblpggomphpaaGreatDoorZB04
import Derived.Test.YtddblpggomphpaaGreatDoorZB05
import Derived.Test.YtddblpggomphpaaGreatDoorZB06
import Derived.Test.YtddblpggomphpaaGreatDoorZB07
import Derived.Test.YtddblpggomphpaaGreatDoorZB08
import Derived.Test.YtddblpggomphpaaGreatDoorZB09
import Derived.Test.YtddblpggomphpaaGreatDoorZB10
import Derived.Test.YtddblpggomphpaaGreatDoorZB11
import Derived.Test.YtddblpggomphpaaGreatDoorZB12
import Derived.Test.YtddblpggomphpaaGreatDoorZB13
import Derived.Test.YtddblpggomphpaaGreatDoorZB14
set_option linter.unusedVariables false
set_option linter.unusedSimpArgs false
namespace Go.Proofs.adapt
open Go Go.Num Go.Fra Go.Proofs.matrix
theorem gn_zero {m : Nat} {s t : Nat → Rat} (i : Nat) : gn m 0 s t i = 1 := by
 unfold gn gainQ
 grind
theorem gn_same {m : Nat} {s : Nat → Rat} {d : Rat} (h : zero3 (resp m s) = false) (i : Nat) (hi : i < 3) : gn m d s s i = 1 := by
 have := zero3_no h i hi
 unfold gn gainQ
 grind
theorem id_fr : (mk3 one3).fr = diagM (List.replicate 3 Fr.one) := by decide +kernel
theorem mG_id {m : Nat} (hm : m < 4) {g : Nat → Rat} (hg : ∀ i, i < 3 → g i = 1) : (mk3 (mG m g)).fr = diagM (List.replicate 3 Fr.one) := by
 rw [← id_fr, mk3_congr fun i hi j hj => mG_one hm hg hi hj]
/-- The gains in part lie between 1 and the whole gains. -/
theorem side (m : Nat) (s t : Nat → Rat) (d : Rat) (d0 : 0 ≤ d) (d1 : d ≤ 1) (i : Nat) : 0 ≤ cmpq (gn m d s t i) 1 * cmpq (gn m 1 s t i) (gn m d s t i) := by
 obtain ⟨g, eg⟩ : ∃ g, gn m 1 s t i = g := ⟨_, rfl⟩
 have e1 : gn m d s t i - 1 = d * (g - 1) := by
  rw [← eg]
  unfold gn gainQ
  grind
 have e2 : g - gn m d s t i = (1 - d) * (g - 1) := by grind
 rw [eg]
 generalize gn m d s t i = p at *
 have d1' : 0 ≤ 1 - d := by grind
 rcases (Rat.le_total : (1 : Rat) ≤ g ∨ g ≤ 1) with h | h
 ·have h' : 0 ≤ g - 1 := by grind
  have k1 := Rat.mul_nonneg d0 h'
  have k2 := Rat.mul_nonneg d1' h'
  rw [← e1] at k1
  rw [← e2] at k2
  have c1 := cmpq_ge (p := p) (q := 1) (by grind)
  have c2 := cmpq_ge (p := g) (q := p) (by grind)
  exact Int.mul_nonneg (by omega) (by omega)
 ·have h' : 0 ≤ 1 - g := by grind
  have k1 := Rat.mul_nonneg d0 h'
  have k2 := Rat.mul_nonneg d1' h'
  have c1 := cmpq_le (p := p) (q := 1) (by grind)
  have c2 := cmpq_le (p := g) (q := p) (by grind)
  exact Int.mul_nonneg_of_nonpos_of_nonpos (by omega) (by omega)
theorem cone4_rows : ∀ i, i < 3 → coneQ 3 i 0 + coneQ 3 i 1 + coneQ 3 i 2 = 1 := by decide +kernel
/-- The fourth cone sees three equal numbers as they are. -/
theorem cone4_same (x : Rat) (i : Nat) (hi : i < 3) : app3 (coneQ 3) (fun _ => x) i = x := by
 have := cone4_rows i hi
 unfold app3
 grind
end Go.Proofs.adapt
namespace Go.Proofs.verdigrisref23
open Go Go.RowKit Go.SW Go.Num Go.Mem Go.Proofs Go.Dec Go.Fra
theorem share_q {n d : Int} (h0 : 0 ≤ n) (h1 : n ≤ d) (hd : 0 < d) (h2 : d ≤ 1000) : ∃ q : Rat, (ofF n d).1 = Fr.of q ∧ 0 ≤ q ∧ q ≤ 1 ∧ adapt.Ht 10 q := by
 have ht : (1000 : Nat) ≤ tenTo 10 := by decide
 have hq : adapt.Ht 10 ((n : Rat) / (d : Rat)) := ⟨n, d, hd, by omega, by omega, rfl⟩
 have hd' : (0 : Rat) < (d : Rat) := Rat.intCast_pos.2 hd
 have hn' : (0 : Rat) ≤ (n : Rat) := Rat.intCast_nonneg.2 h0
 have hnd : (n : Rat) ≤ (d : Rat) := Rat.intCast_le_intCast.2 h1
 refine ⟨(n : Rat) / (d : Rat), ?_, ?_, ?_, hq⟩
 ·unfold ofF wr
  rw [if_neg (by omega), if_pos (hq.ok (by omega))]
 ·rw [Rat.div_def]
  exact Rat.mul_nonneg hn' (Rat.le_of_lt (Rat.inv_pos.2 hd'))
 ·rw [Rat.div_def]
  have h := Rat.mul_le_mul_of_nonneg_right hnd (Rat.le_of_lt (Rat.inv_pos.2 hd'))
  rwa [Rat.mul_inv_cancel _ (fun e => by rw [e] at hd'; exact absurd hd' (by decide))] at h
set_option maxRecDepth 10000 in
set_option maxHeartbeats 800000 in
theorem Share_ok (a b : Int) (ha : -32768 ≤ a ∧ a ≤ 32767) (hb : 0 ≤ b ∧ b ≤ 255) : ∃ q : Rat, 0 ≤ q ∧ q ≤ 1 ∧ adapt.Ht 10 q ∧ ∀ w : World,
  Calls Tryz.prog 14 #[.agg #[.int .i16 a, .int .u8 b]] w (fun e w' => e = .returned (Fr.of q).v ∧ Below w.heap.size w w') := by
 have W0 : ∀ z : Int, -32768 ≤ z ∧ z ≤ 65535 → IntKind.i64.wrap z = z := fun z h => by unfold IntKind.wrap; simp [IntKind.bits, IntKind.signed]; split <;> omega
 have hz : 1 + b + 1 ≠ 0 := by omega
 have e1 := Int.tmod_lt_of_pos a (show 0 < 1 + b + 1 by omega)
 have e2 := Int.lt_tmod_of_pos a (show 0 < 1 + b + 1 by omega)
 obtain ⟨t, Et⟩ : ∃ t, a.tmod (1 + b + 1) = t := ⟨_, rfl⟩
 rw [Et] at e1 e2
 have wa := W0 a (by omega)
 have wb := W0 b (by omega)
 have wb1 := W0 (1 + b) (by omega)
 have wb2 := W0 (1 + b + 1) (by omega)
 have wt := W0 t (by omega)
 have wn := W0 (-t) (by omega)
 obtain ⟨q, eq, q0, q1, qh⟩ := share_q (n := if t < 0 then -t else t) (d := 1 + b) (by split <;> omega) (by split <;> omega) (by omega) (by omega)
 refine ⟨q, q0, q1, qh, fun w => ?_⟩
 have H1 := Lib.hid (fun W => Of_ok (if t < 0 then -t else t) (1 + b) (by split <;> omega) (by split <;> omega) (by omega) (by omega) W)
 rw [eq] at H1
 obtain ⟨⟨s1, s2⟩, E⟩ : ∃ y, Fr.of q = y := ⟨_, rfl⟩
 rw [E] at H1 ⊢
 unfold Fr.v at H1
 clear E eq q0 q1 qh W0 ha hb e1 e2
 by_cases ht : t < 0
 ·rw [if_pos ht] at H1
  go_enter Tryz.func14, Tryz.ntmps14
  go_wp2_with fail
  have hz : Below w.heap.size w ((w.alloc (.cells #[.int .i16 a, .int .u8 b] 31)).alloc (.cells #[.string ⟨#[]⟩, .string ⟨#[]⟩] 36)) := belA
  obtain ⟨wq1, EW⟩ : ∃ y, ((w.alloc (.cells #[.int .i16 a, .int .u8 b] 31)).alloc (.cells #[.string ⟨#[]⟩, .string ⟨#[]⟩] 36)) = y := ⟨_, rfl⟩
  have X2 : Hid (Box wq1 (w.heap.size + 1) #[.string ⟨#[]⟩, .string ⟨#[]⟩] 36) := Lib.hid (by rw [← EW]; exact Box.at1 _ _ _ _)
  rw [EW] at hz ⊢
  have hk2 := Bt (Below.refl _ _) hz
  clear EW hz
  refine (H1.out _).mono ?_
  rintro e wc3 ⟨rfl, hb3⟩
  replace X2 := Lib.hid (X2.out.later hb3)
  have hk5 := Bt hk2 hb3
  clear hk2
  clear hb3
  have cX2 := X2.out.cell; have lX2 := X2.out.lt; have fX2 := X2.out.free
  have hres := X2.out
  have cres := hres.cell
  have fres := hres.free
  go_wp2_with fail
  refine ret_c rfl rfl boxA Tryz.underlying36 rfl (by kernel_rfl) ?_
  exact ⟨rfl, belA⟩
 ·rw [if_neg ht] at H1
  go_enter Tryz.func14, Tryz.ntmps14
  go_wp2_with fail
  have hz : Below w.heap.size w ((w.alloc (.cells #[.int .i16 a, .int .u8 b] 31)).alloc (.cells #[.string ⟨#[]⟩, .string ⟨#[]⟩] 36)) := belA
  obtain ⟨wq1, EW⟩ : ∃ y, ((w.alloc (.cells #[.int .i16 a, .int .u8 b] 31)).alloc (.cells #[.string ⟨#[]⟩, .string ⟨#[]⟩] 36)) = y := ⟨_, rfl⟩
  have X2 : Hid (Box wq1 (w.heap.size + 1) #[.string ⟨#[]⟩, .string ⟨#[]⟩] 36) := Lib.hid (by rw [← EW]; exact Box.at1 _ _ _ _)
  rw [EW] at hz ⊢
  have hk2 := Bt (Below.refl _ _) hz
  clear EW hz
  refine (H1.out _).mono ?_
  rintro e wc3 ⟨rfl, hb3⟩
  replace X2 := Lib.hid (X2.out.later hb3)
  have hk5 := Bt hk2 hb3
  clear hk2
  clear hb3
  have cX2 := X2.out.cell; have lX2 := X2.out.lt; have fX2 := X2.out.free
  have hres := X2.out
  have cres := hres.cell
  have fres := hres.free
  go_wp2_with fail
  refine ret_c rfl rfl boxA Tryz.underlying36 rfl (by kernel_rfl) ?_
  exact ⟨rfl, belA⟩
end Go.Proofs.verdigrisref23
namespace Go.Proofs.verdigrislaw25
open Go Go.RowKit Go.SW Go.Num Go.Mem Go.Proofs Go.Dec Go.Fra
theorem rets_id (w : World) : RetM w 29 #[.int .i64 3] 0 (diagM (List.replicate 3 Fr.one)) := fun W hW => (matrix.Identity_ok 3 W).mono (by
 rw [show idE 3 = 0 by decide]
 exact fun _ _ h => h)
theorem rets_matd {m : Nat} (hm : m < 4) {s t : Nat → Rat} (hs : adapt.Wh s) (ht' : adapt.Wh t) {d : Rat} (d0 : 0 ≤ d) (d1 : d ≤ 1) (hd : adapt.Ht 10 d) (w : World) (ht : Bld.Pow w) (hc : adapt.Cones w) {er : Int} (he : (if adapt.zero3 (adapt.resp m s) then 7 else 0) = er) :
  RetM w 13 #[.int .i64 ((m : Int) + 1), (adapt.tri3 s).v, (adapt.tri3 t).v, (Fr.of d).v] er (matrix.mk3 (adapt.mG m (adapt.gn m d s t))).fr := by
 obtain ⟨h1, h2⟩ := adapt.mat_at hm hs ht' hd d0 d1
 rw [← h2]
 exact ret_matrix _ _ _ _ er (h1.trans he) w ht hc
theorem Fr_zero : Fr.of (q2 0 1) = Fr.of 0 := by decide +kernel
set_option maxRecDepth 100000 in
set_option maxHeartbeats 8000000 in
theorem AdaptStays_a (n a0 a1 a2 b0 b1 b2 e0 e1 : Int) (s t : Nat → Rat) (q : Rat) (m : Nat) (hm : m < 4) (hn : 0 ≤ n ∧ n ≤ 255) (en : 1 + n % 4 = (m : Int) + 1) (hs : adapt.Wh s) (ht' : adapt.Wh t) (q0 : 0 ≤ q) (q1 : q ≤ 1) (hq : adapt.Ht 10 q) (w : World) (ht : Bld.Pow w) (hc : adapt.Cones w)
  (W2 : Ret w 10 #[.agg #[.int .u16 a0, .int .u16 a1, .int .u16 a2]] (adapt.tri3 s).v) (W3 : Ret w 10 #[.agg #[.int .u16 b0, .int .u16 b1, .int .u16 b2]] (adapt.tri3 t).v)
  (SH : Ret w 14 #[.agg #[.int .i16 e0, .int .u8 e1]] (Fr.of q).v) (z1 : adapt.zero3 (adapt.resp m s) = true) :
  Calls Tryz.prog 8 #[.int .u8 n, .agg #[.int .u16 a0, .int .u16 a1, .int .u16 a2], .agg #[.int .u16 b0, .int .u16 b1, .int .u16 b2], .agg #[.int .i16 e0, .int .u8 e1]] w (fun e w' => e = .returned (.bool true) ∧ Below w.heap.size w w') := by
 have W1 : Hid (Ret w 9 #[] (.bool true)) := Lib.hid fun W hW => works_ok W (ht.later hW) (hc.later hW)
 have O0 := Lib.hid (ret_of 0 1 (by decide +kernel) w ht)
 rw [Fr_zero] at O0
 have ID := Lib.hid (rets_id w)
 replace W2 := Lib.hid W2
 replace W3 := Lib.hid W3
 replace SH := Lib.hid SH
 have M1 := Lib.hid (rets_matd hm hs ht' (d := 0) (by decide) (by decide) (adapt.Ht.zero.mono (by omega)) w ht hc (er := 7) (by rw [z1]; rfl))
 have M2 := Lib.hid (rets_matd hm hs hs q0 q1 hq w ht hc (er := 7) (by rw [z1]; rfl))
 obtain ⟨⟨⟨x1, x2⟩, ⟨x3, x4⟩, ⟨x5, x6⟩⟩, E⟩ : ∃ y : light.Tri, adapt.tri3 s = y := ⟨_, rfl⟩
 simp only [E] at W2 M1 M2
 clear E
 obtain ⟨⟨⟨y1, y2⟩, ⟨y3, y4⟩, ⟨y5, y6⟩⟩, E⟩ : ∃ y : light.Tri, adapt.tri3 t = y := ⟨_, rfl⟩
 simp only [E] at W3 M1
 clear E
 obtain ⟨⟨h1, h2⟩, E⟩ : ∃ y : Fr, Fr.of 0 = y := ⟨_, rfl⟩
 simp only [E] at O0 M1
 clear E
 obtain ⟨⟨g1, g2⟩, E⟩ : ∃ y : Fr, Fr.of q = y := ⟨_, rfl⟩
 simp only [E] at SH M2
 clear E
 generalize (matrix.mk3 (adapt.mG m (adapt.gn m 0 s t))).fr = mm at *
 generalize (matrix.mk3 (adapt.mG m (adapt.gn m q s s))).fr = mn at *
 generalize diagM (List.replicate 3 Fr.one) = mi at *
 unfold light.Tri.v light.Tri.cells Fr.v at *
 dsimp only at W2 W3 O0 SH M1 M2
 have wn : IntKind.i64.wrap (n % 4) = n % 4 := by unfold IntKind.wrap; simp [IntKind.bits]; omega
 have wn1 : IntKind.i64.wrap (1 + n % 4) = (m : Int) + 1 := by rw [en]; unfold IntKind.wrap; simp [IntKind.bits]; omega
 have tn : n.tmod 4 = n % 4 := Int.tmod_eq_emod_of_nonneg hn.1
 have wu : IntKind.u8.wrap (n % 4) = n % 4 := by unfold IntKind.wrap; simp [IntKind.bits]; omega
 clear ht hc hs ht' hn en q0 q1 hq
 go_enter Tryz.func8, Tryz.ntmps8
 go_wp2_with fail
 have hz : Below w.heap.size w (((w.alloc (.cells #[.int .u16 a0, .int .u16 a1, .int .u16 a2] 24)).alloc (.cells #[.int .u16 b0, .int .u16 b1, .int .u16 b2] 24)).alloc (.cells #[.int .i16 e0, .int .u8 e1] 31)) := belA
 obtain ⟨wq1, EW⟩ : ∃ y, (((w.alloc (.cells #[.int .u16 a0, .int .u16 a1, .int .u16 a2] 24)).alloc (.cells #[.int .u16 b0, .int .u16 b1, .int .u16 b2] 24)).alloc (.cells #[.int .i16 e0, .int .u8 e1] 31)) = y := ⟨_, rfl⟩
 have X1 : Hid (Box wq1 (w.heap.size) #[.int .u16 a0, .int .u16 a1, .int .u16 a2] 24) := Lib.hid (by rw [← EW]; exact Box.alloc (Box.alloc (Box.new _ _ _) _) _)
 have X2 : Hid (Box wq1 (w.heap.size + 1) #[.int .u16 b0, .int .u16 b1, .int .u16 b2] 24) := Lib.hid (by rw [← EW]; exact Box.alloc (Box.at1 _ _ _ _) _)
 have X3 : Hid (Box wq1 (w.heap.size + 1 + 1) #[.int .i16 e0, .int .u8 e1] 31) := Lib.hid (by rw [← EW]; exact Box.at2 _ _ _ _ _)
 rw [EW] at hz ⊢
 have hk2 := Bt (Below.refl _ _) hz
 clear EW hz
 refine (W1.out _ hk2).mono ?_
 rintro e wc3 ⟨rfl, hb3⟩
 replace X1 := Lib.hid (X1.out.later hb3)
 replace X2 := Lib.hid (X2.out.later hb3)
 replace X3 := Lib.hid (X3.out.later hb3)
 have hk5 := Bt hk2 hb3
 clear hk2
 clear hb3
 go_wp2_with fail
 have cX1 := X1.out.cell; have lX1 := X1.out.lt; have fX1 := X1.out.free
 have cX2 := X2.out.cell; have lX2 := X2.out.lt; have fX2 := X2.out.free
 refine wp_region_walk [(.pure, 0), (.pure, 1), (.pure, 2), (.pure, 3), (.read, 4), (.read, 6), (.ext, 5), (.ext, 7), (.alloc #[.string ⟨#[]⟩, .string ⟨#[]⟩, .string ⟨#[]⟩, .string ⟨#[]⟩, .string ⟨#[]⟩, .string ⟨#[]⟩] 38, 8), (.alloc #[.string ⟨#[]⟩, .string ⟨#[]⟩, .string ⟨#[]⟩, .string ⟨#[]⟩, .string ⟨#[]⟩, .string ⟨#[]⟩] 38, 9), (.fin, 10), (.fin, 11), (.fin, 12)] (by kernel_rfl) (by kernel_rfl) (allocRuns_of (by kernel_rfl)) (fun _ _ _ _ hd h => And.intro (hd.trans (And.left h)) (And.right h)) ?_
 repeat (first | (refine walk_pure0 rfl rfl (fun J hJ => ?_); go_simp; refine hJ _ ?_; clear hJ J) | (refine walk_load rfl rfl rfl rfl (fun J hJ => ?_); go_simp; refine hJ _ ?_; clear hJ J; try go_simp))
 refine walk_ext rfl rfl (fun we6 hb6 J hJ => ?_); go_simp
 have hh6 : Below wc3.heap.size wc3 we6 := belA
 clear hb6
 refine (W2.out _ (Bt hk5 hh6)).mono ?_
 rintro e wc7 ⟨rfl, hb7⟩
 refine hJ _ _ hb7 ?_
 clear hJ J
 have hh7 := Bt hh6 hb7
 clear hh6 hb7
 repeat (first | (refine walk_pure0 rfl rfl (fun J hJ => ?_); go_simp; refine hJ _ ?_; clear hJ J) | (refine walk_load rfl rfl rfl rfl (fun J hJ => ?_); go_simp; refine hJ _ ?_; clear hJ J; try go_simp))
 refine walk_ext rfl rfl (fun we9 hb9 J hJ => ?_); go_simp
 have hh9 : Below wc3.heap.size wc3 we9 := Bt hh7 belA
 clear hb9 hh7
 refine (W3.out _ (Bt hk5 hh9)).mono ?_
 rintro e wc10 ⟨rfl, hb10⟩
 refine hJ _ _ hb10 ?_
 clear hJ J
 have hh10 := Bt hh9 hb10
 clear hh9 hb10
 repeat (first | (refine walk_pure0 rfl rfl (fun J hJ => ?_); go_simp; refine hJ _ ?_; clear hJ J) | (refine walk_load rfl rfl rfl rfl (fun J hJ => ?_); go_simp; refine hJ _ ?_; clear hJ J; try go_simp))
 refine walk_alloc rfl (fun bk12 wa12 hwa12 hNbk12 hltbk12 hAbk12 hxbk12 => ?_); go_simp; replace hxbk12 : Box _ _ _ _ := hxbk12; have hWbk12 : w.heap.size ≤ bk12 := (by first | omega | exact Nat.le_trans (Below.size (B := w.heap.size) belA) hNbk12)
 refine walk_alloc rfl (fun bk13 wa13 hwa13 hNbk13 hltbk13 hAbk13 hxbk13 => ?_); go_simp; replace hxbk13 : Box _ _ _ _ := hxbk13; have hWbk13 : w.heap.size ≤ bk13 := (by first | omega | exact Nat.le_trans (Below.size (B := w.heap.size) belA) hNbk13)
 replace hxbk12 := Box.later hxbk12 hwa13
 have hne : bk12 ≠ bk13 := fun h => hAbk13 (by simp [h])
 have hne2 : bk13 ≠ bk12 := fun h => hne h.symm
 refine walk_fin [_, _, _] rfl (fun wf14 hf14 => ?_)
 have hh14 : Below wc3.heap.size wc3 wf14 := Bt hh10 belA
 have hq0 := hxbk12.later hf14; have cq0 := hq0.cell; have fq0 := hq0.free
 have hq1 := hxbk13.later hf14; have cq1 := hq1.cell; have fq1 := hq1.free
 clear hxbk12 hxbk13 hf14 hh10
 clear cX1 lX1 fX1 cX2 lX2 fX2
 go_wp2_with fail
 obtain ⟨wq15, EW⟩ : ∃ y, ((((((((((((wf14.setCell ⟨bk12, 0, none⟩ (.string x1)).setCell ⟨bk12, 1, none⟩ (.string x2)).setCell ⟨bk12, 2, none⟩ (.string x3)).setCell ⟨bk12, 3, none⟩ (.string x4)).setCell ⟨bk12, 4, none⟩ (.string x5)).setCell ⟨bk12, 5, none⟩ (.string x6)).setCell ⟨bk13, 0, none⟩ (.string y1)).setCell ⟨bk13, 1, none⟩ (.string y2)).setCell ⟨bk13, 2, none⟩ (.string y3)).setCell ⟨bk13, 3, none⟩ (.string y4)).setCell ⟨bk13, 4, none⟩ (.string y5)).setCell ⟨bk13, 5, none⟩ (.string y6)) = y := ⟨_, rfl⟩
 have hz : Below wc3.heap.size wc3 wq15 := by rw [← EW]; exact ((((((((((((hh14.setCell hNbk12 _).setCell hNbk12 _).setCell hNbk12 _).setCell hNbk12 _).setCell hNbk12 _).setCell hNbk12 _).setCell hNbk13 _).setCell hNbk13 _).setCell hNbk13 _).setCell hNbk13 _).setCell hNbk13 _).setCell hNbk13 _)
 have X4 : Hid (Box wq15 bk12 #[.string x1, .string x2, .string x3, .string x4, .string x5, .string x6] 38) := Lib.hid (by rw [← EW]; exact ((((((((((((hq0.set 0 _).set 1 _).set 2 _).set 3 _).set 4 _).set 5 _).setOther _ (by first | exact hne | exact hne2)).setOther _ (by first | exact hne | exact hne2)).setOther _ (by first | exact hne | exact hne2)).setOther _ (by first | exact hne | exact hne2)).setOther _ (by first | exact hne | exact hne2)).setOther _ (by first | exact hne | exact hne2)))
 have X5 : Hid (Box wq15 bk13 #[.string y1, .string y2, .string y3, .string y4, .string y5, .string y6] 38) := Lib.hid (by rw [← EW]; exact ((((((((((((hq1.setOther _ (by first | exact hne | exact hne2)).setOther _ (by first | exact hne | exact hne2)).setOther _ (by first | exact hne | exact hne2)).setOther _ (by first | exact hne | exact hne2)).setOther _ (by first | exact hne | exact hne2)).setOther _ (by first | exact hne | exact hne2)).set 0 _).set 1 _).set 2 _).set 3 _).set 4 _).set 5 _))
 rw [EW]
 clear EW hq0 cq0 fq0 hq1 cq1 fq1 hh14
 replace X1 := Lib.hid (X1.out.later hz)
 replace X2 := Lib.hid (X2.out.later hz)
 replace X3 := Lib.hid (X3.out.later hz)
 have hk16 := Bt hk5 hz
 clear hk5
 clear hz
 clear hwa12 hAbk12 hAbk13 hWbk12 hWbk13 hwa13
 have hlbk12 := hNbk12; have hlbk13 := hNbk13; clear hNbk12 hNbk13 hltbk12 hltbk13
 go_wp2_with fail
 refine (ID.out _ hk16).mono ?_
 rintro e wc17 ⟨hb17, v, rfl, hm, -⟩
 replace hm := hm rfl
 obtain ⟨paD, lD, caD, rfl⟩ := MatV.slice hm
 clear X1
 clear X2
 replace X3 := Lib.hid (X3.out.later hb17)
 replace X4 := Lib.hid (X4.out.later hb17)
 replace X5 := Lib.hid (X5.out.later hb17)
 have hk19 := Bt hk16 hb17
 clear hk16
 clear hb17 hm
 go_wp2_with fail
 have cX4 := X4.out.cell; have lX4 := X4.out.lt; have fX4 := X4.out.free
 have cX5 := X5.out.cell; have lX5 := X5.out.lt; have fX5 := X5.out.free
 refine wp_region_walk [(.pure, 0), (.read, 1), (.read, 2), (.ext, 3), (.ext, 4), (.pure, 5), (.pure, 6), (.pure, 7), (.fin, 8), (.fin, 9)] (by kernel_rfl) (by kernel_rfl) (allocRuns_of (by kernel_rfl)) (fun _ _ _ _ hd h => And.intro (hd.trans (And.left h)) (And.right h)) ?_
 repeat (first | (refine walk_pure0 rfl rfl (fun J hJ => ?_); go_simp; refine hJ _ ?_; clear hJ J) | (refine walk_load rfl rfl rfl rfl (fun J hJ => ?_); go_simp; refine hJ _ ?_; clear hJ J; try go_simp))
 refine walk_ext rfl rfl (fun we20 hb20 J hJ => ?_); go_simp
 have hh20 : Below wc17.heap.size wc17 we20 := belA
 clear hb20
 refine (O0.out _ (Bt hk19 hh20)).mono ?_
 rintro e wc21 ⟨rfl, hb21⟩
 refine hJ _ _ hb21 ?_
 clear hJ J
 have hh21 := Bt hh20 hb21
 clear hh20 hb21
 repeat (first | (refine walk_pure0 rfl rfl (fun J hJ => ?_); go_simp; refine hJ _ ?_; clear hJ J) | (refine walk_load rfl rfl rfl rfl (fun J hJ => ?_); go_simp; refine hJ _ ?_; clear hJ J; try go_simp))
 refine walk_ext rfl rfl (fun we23 hb23 J hJ => ?_); go_simp
 have hh23 : Below wc17.heap.size wc17 we23 := Bt hh21 belA
 clear hb23 hh21
 refine (M1.out _ (Bt hk19 hh23)).mono ?_
 rintro e wc24 ⟨hb24, v, rfl, -, hm⟩
 obtain rfl := hm (by decide)
 refine hJ _ _ hb24 ?_
 clear hJ J
 have hh24 := Bt hh23 hb24
 clear hh23 hb24
 repeat (first | (refine walk_pure0 rfl rfl (fun J hJ => ?_); go_simp; refine hJ _ ?_; clear hJ J) | (refine walk_load rfl rfl rfl rfl (fun J hJ => ?_); go_simp; refine hJ _ ?_; clear hJ J; try go_simp))
 refine walk_fin [_, _] rfl (fun wf26 hf26 => ?_)
 have hh26 : Below wc17.heap.size wc17 wf26 := Bt hh24 belA
 clear hf26 hh24
 clear cX4 lX4 fX4 cX5 lX5 fX5
 replace X3 := Lib.hid (X3.out.later hh26)
 replace X4 := Lib.hid (X4.out.later hh26)
 replace X5 := Lib.hid (X5.out.later hh26)
 have hk27 := Bt hk19 hh26
 clear hk19
 clear hh26
 go_wp2_with fail
 have cX4 := X4.out.cell; have lX4 := X4.out.lt; have fX4 := X4.out.free
 have cX3 := X3.out.cell; have lX3 := X3.out.lt; have fX3 := X3.out.free
 refine wp_region_walk [(.pure, 0), (.read, 1), (.read, 2), (.read, 3), (.ext, 4), (.ext, 5), (.pure, 6), (.pure, 7), (.pure, 8), (.fin, 9), (.fin, 10)] (by kernel_rfl) (by kernel_rfl) (allocRuns_of (by kernel_rfl)) (fun _ _ _ _ hd h => And.intro (hd.trans (And.left h)) (And.right h)) ?_
 repeat (first | (refine walk_pure0 rfl rfl (fun J hJ => ?_); go_simp; refine hJ _ ?_; clear hJ J) | (refine walk_load rfl rfl rfl rfl (fun J hJ => ?_); go_simp; refine hJ _ ?_; clear hJ J; try go_simp))
 refine walk_ext rfl rfl (fun we28 hb28 J hJ => ?_); go_simp
 have hh28 : Below wf26.heap.size wf26 we28 := belA
 clear hb28
 refine (SH.out _ (Bt hk27 hh28)).mono ?_
 rintro e wc29 ⟨rfl, hb29⟩
 refine hJ _ _ hb29 ?_
 clear hJ J
 have hh29 := Bt hh28 hb29
 clear hh28 hb29
 repeat (first | (refine walk_pure0 rfl rfl (fun J hJ => ?_); go_simp; refine hJ _ ?_; clear hJ J) | (refine walk_load rfl rfl rfl rfl (fun J hJ => ?_); go_simp; refine hJ _ ?_; clear hJ J; try go_simp))
 refine walk_ext rfl rfl (fun we31 hb31 J hJ => ?_); go_simp
 have hh31 : Below wf26.heap.size wf26 we31 := Bt hh29 belA
 clear hb31 hh29
 refine (M2.out _ (Bt hk27 hh31)).mono ?_
 rintro e wc32 ⟨hb32, v, rfl, -, hm⟩
 obtain rfl := hm (by decide)
 refine hJ _ _ hb32 ?_
 clear hJ J
 have hh32 := Bt hh31 hb32
 clear hh31 hb32
 repeat (first | (refine walk_pure0 rfl rfl (fun J hJ => ?_); go_simp; refine hJ _ ?_; clear hJ J) | (refine walk_load rfl rfl rfl rfl (fun J hJ => ?_); go_simp; refine hJ _ ?_; clear hJ J; try go_simp))
 refine walk_fin [_, _] rfl (fun wf34 hf34 => ?_)
 have hh34 : Below wf26.heap.size wf26 wf34 := Bt hh32 belA
 clear hf34 hh32
 clear cX4 lX4 fX4 cX3 lX3 fX3
 replace X3 := Lib.hid (X3.out.later hh34)
 replace X4 := Lib.hid (X4.out.later hh34)
 clear X5
 have hk35 := Bt hk27 hh34
 clear hk27
 clear hh34
 go_wp2_with fail
 go_ret
 exact ⟨rfl, hk35⟩
end Go.Proofs.verdigrislaw25
