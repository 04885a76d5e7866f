/- Lemmas for the proof. No condition. -/
import Derived.Test.YtddblpggomphpaaGreatDoorZB14
set_option linter.unusedVariables false
set_option linter.unusedSimpArgs false
namespace Go.Proofs.verdigrislaw25
open Go Go.RowKit Go.SW Go.Num Go.Mem Go.Proofs Go.Dec Go.Fra
set_option maxRecDepth 100000 in
set_option maxHeartbeats 8000000 in
theorem AdaptMeets_a (n a0 a1 a2 b0 b1 b2 : Int) (s t : Nat → Rat) (m : Nat) (hm : m < 4) (hn : 0 ≤ n ∧ n ≤ 255) (en : 1 + n % 4 = (m : Int) + 1) (hs : adapt.Wh s) (ht' : adapt.Wh t) (w : World) (ht : Bld.Pow w) (hc : adapt.Cones w)
  (W2 : Ret w 10 #[.agg #[.int .u16 a0, .int .u16 a1, .int .u16 a2]] (adapt.tri3 s).v) (W3 : Ret w 10 #[.agg #[.int .u16 b0, .int .u16 b1, .int .u16 b2]] (adapt.tri3 t).v)
  (z1 : adapt.zero3 (adapt.resp m s) = true) (z2 : adapt.zero3 (adapt.resp m t) = true) :
  Calls Tryz.prog 5 #[.int .u8 n, .agg #[.int .u16 a0, .int .u16 a1, .int .u16 a2], .agg #[.int .u16 b0, .int .u16 b1, .int .u16 b2]] w (fun e w' => e = .returned (.bool true) ∧ Below w.heap.size w w') := by
 have W1 : Hid (Ret w 9 #[] (.bool true)) := Lib.hid fun W hW => works_ok W (ht.later hW) (hc.later hW)
 have O1 := Lib.hid (ret_of 1 1 (by decide +kernel) w ht)
 rw [Fr_one] at O1
 replace W2 := Lib.hid W2
 replace W3 := Lib.hid W3
 have M1 := Lib.hid (rets_matrix hm hs ht' w ht hc (er := 7) (by rw [z1]; rfl))
 have M2 := Lib.hid (rets_matrix hm ht' hs w ht hc (er := 7) (by rw [z2]; rfl))
 obtain ⟨⟨⟨x1, x2⟩, ⟨x3, x4⟩, ⟨x5, x6⟩⟩, E⟩ : ∃ y : light.Tri, adapt.tri3 s = y := ⟨_, rfl⟩
 simp only [E] at W2 M1 M2
 clear E
 obtain ⟨⟨⟨y1, y2⟩, ⟨y3, y4⟩, ⟨y5, y6⟩⟩, E⟩ : ∃ y : light.Tri, adapt.tri3 t = y := ⟨_, rfl⟩
 simp only [E] at W3 M1 M2
 clear E
 obtain ⟨⟨h1, h2⟩, E⟩ : ∃ y : Fr, Fr.of 1 = y := ⟨_, rfl⟩
 simp only [E] at O1 M1 M2
 clear E
 generalize (matrix.mk3 (adapt.mG m (adapt.gn m 1 s t))).fr = mm at *
 generalize (matrix.mk3 (adapt.mG m (adapt.gn m 1 t s))).fr = mn at *
 unfold light.Tri.v light.Tri.cells Fr.v at *
 dsimp only at W2 W3 O1 M1 M2
 have wn : IntKind.i64.wrap (n % 4) = n % 4 := by unfold IntKind.wrap; simp [IntKind.bits]; omega
 have wn1 : IntKind.i64.wrap (1 + n % 4) = (m : Int) + 1 := by rw [en]; unfold IntKind.wrap; simp [IntKind.bits]; omega
 have tn : n.tmod 4 = n % 4 := Int.tmod_eq_emod_of_nonneg hn.1
 have wu : IntKind.u8.wrap (n % 4) = n % 4 := by unfold IntKind.wrap; simp [IntKind.bits]; omega
 have HEQ := @run_eqTri_same
 clear ht hc hs ht' hn en
 go_enter Tryz.func5, Tryz.ntmps5
 go_wp2_with fail
 have hz : Below w.heap.size w ((w.alloc (.cells #[.int .u16 a0, .int .u16 a1, .int .u16 a2] 24)).alloc (.cells #[.int .u16 b0, .int .u16 b1, .int .u16 b2] 24)) := belA
 obtain ⟨wq1, EW⟩ : ∃ y, ((w.alloc (.cells #[.int .u16 a0, .int .u16 a1, .int .u16 a2] 24)).alloc (.cells #[.int .u16 b0, .int .u16 b1, .int .u16 b2] 24)) = y := ⟨_, rfl⟩
 have X1 : Hid (Box wq1 (w.heap.size) #[.int .u16 a0, .int .u16 a1, .int .u16 a2] 24) := Lib.hid (by rw [← EW]; exact Box.alloc (Box.new _ _ _) _)
 have X2 : Hid (Box wq1 (w.heap.size + 1) #[.int .u16 b0, .int .u16 b1, .int .u16 b2] 24) := Lib.hid (by rw [← EW]; exact Box.at1 _ _ _ _)
 rw [EW] at hz ⊢
 have hk2 := Bt (Below.refl _ _) hz
 clear EW hz
 refine (W1.out _ hk2).mono ?_
 rintro e wc3 ⟨rfl, hb3⟩
 replace X1 := Lib.hid (X1.out.later hb3)
 replace X2 := Lib.hid (X2.out.later hb3)
 have hk5 := Bt hk2 hb3
 clear hk2
 clear hb3
 go_wp2_with fail
 have cX1 := X1.out.cell; have lX1 := X1.out.lt; have fX1 := X1.out.free
 have cX2 := X2.out.cell; have lX2 := X2.out.lt; have fX2 := X2.out.free
 refine wp_region_walk [(.pure, 0), (.pure, 1), (.pure, 2), (.pure, 3), (.read, 4), (.read, 6), (.ext, 5), (.ext, 7), (.alloc #[.string ⟨#[]⟩, .string ⟨#[]⟩, .string ⟨#[]⟩, .string ⟨#[]⟩, .string ⟨#[]⟩, .string ⟨#[]⟩] 38, 8), (.alloc #[.string ⟨#[]⟩, .string ⟨#[]⟩, .string ⟨#[]⟩, .string ⟨#[]⟩, .string ⟨#[]⟩, .string ⟨#[]⟩] 38, 9), (.fin, 10), (.fin, 11), (.fin, 12)] (by kernel_rfl) (by kernel_rfl) (allocRuns_of (by kernel_rfl)) (fun _ _ _ _ hd h => And.intro (hd.trans (And.left h)) (And.right h)) ?_
 repeat (first | (refine walk_pure0 rfl rfl (fun J hJ => ?_); go_simp; refine hJ _ ?_; clear hJ J) | (refine walk_load rfl rfl rfl rfl (fun J hJ => ?_); go_simp; refine hJ _ ?_; clear hJ J; try go_simp))
 refine walk_ext rfl rfl (fun we6 hb6 J hJ => ?_); go_simp
 have hh6 : Below wc3.heap.size wc3 we6 := belA
 clear hb6
 refine (W2.out _ (Bt hk5 hh6)).mono ?_
 rintro e wc7 ⟨rfl, hb7⟩
 refine hJ _ _ hb7 ?_
 clear hJ J
 have hh7 := Bt hh6 hb7
 clear hh6 hb7
 repeat (first | (refine walk_pure0 rfl rfl (fun J hJ => ?_); go_simp; refine hJ _ ?_; clear hJ J) | (refine walk_load rfl rfl rfl rfl (fun J hJ => ?_); go_simp; refine hJ _ ?_; clear hJ J; try go_simp))
 refine walk_ext rfl rfl (fun we9 hb9 J hJ => ?_); go_simp
 have hh9 : Below wc3.heap.size wc3 we9 := Bt hh7 belA
 clear hb9 hh7
 refine (W3.out _ (Bt hk5 hh9)).mono ?_
 rintro e wc10 ⟨rfl, hb10⟩
 refine hJ _ _ hb10 ?_
 clear hJ J
 have hh10 := Bt hh9 hb10
 clear hh9 hb10
 repeat (first | (refine walk_pure0 rfl rfl (fun J hJ => ?_); go_simp; refine hJ _ ?_; clear hJ J) | (refine walk_load rfl rfl rfl rfl (fun J hJ => ?_); go_simp; refine hJ _ ?_; clear hJ J; try go_simp))
 refine walk_alloc rfl (fun bk12 wa12 hwa12 hNbk12 hltbk12 hAbk12 hxbk12 => ?_); go_simp; replace hxbk12 : Box _ _ _ _ := hxbk12; have hWbk12 : w.heap.size ≤ bk12 := (by first | omega | exact Nat.le_trans (Below.size (B := w.heap.size) belA) hNbk12)
 refine walk_alloc rfl (fun bk13 wa13 hwa13 hNbk13 hltbk13 hAbk13 hxbk13 => ?_); go_simp; replace hxbk13 : Box _ _ _ _ := hxbk13; have hWbk13 : w.heap.size ≤ bk13 := (by first | omega | exact Nat.le_trans (Below.size (B := w.heap.size) belA) hNbk13)
 replace hxbk12 := Box.later hxbk12 hwa13
 have hne : bk12 ≠ bk13 := fun h => hAbk13 (by simp [h])
 have hne2 : bk13 ≠ bk12 := fun h => hne h.symm
 refine walk_fin [_, _, _] rfl (fun wf14 hf14 => ?_)
 have hh14 : Below wc3.heap.size wc3 wf14 := Bt hh10 belA
 have hq0 := hxbk12.later hf14; have cq0 := hq0.cell; have fq0 := hq0.free
 have hq1 := hxbk13.later hf14; have cq1 := hq1.cell; have fq1 := hq1.free
 clear hxbk12 hxbk13 hf14 hh10
 clear cX1 lX1 fX1 cX2 lX2 fX2
 go_wp2_with fail
 obtain ⟨wq15, EW⟩ : ∃ y, ((((((((((((wf14.setCell ⟨bk12, 0, none⟩ (.string x1)).setCell ⟨bk12, 1, none⟩ (.string x2)).setCell ⟨bk12, 2, none⟩ (.string x3)).setCell ⟨bk12, 3, none⟩ (.string x4)).setCell ⟨bk12, 4, none⟩ (.string x5)).setCell ⟨bk12, 5, none⟩ (.string x6)).setCell ⟨bk13, 0, none⟩ (.string y1)).setCell ⟨bk13, 1, none⟩ (.string y2)).setCell ⟨bk13, 2, none⟩ (.string y3)).setCell ⟨bk13, 3, none⟩ (.string y4)).setCell ⟨bk13, 4, none⟩ (.string y5)).setCell ⟨bk13, 5, none⟩ (.string y6)) = y := ⟨_, rfl⟩
 have hz : Below wc3.heap.size wc3 wq15 := by rw [← EW]; exact ((((((((((((hh14.setCell hNbk12 _).setCell hNbk12 _).setCell hNbk12 _).setCell hNbk12 _).setCell hNbk12 _).setCell hNbk12 _).setCell hNbk13 _).setCell hNbk13 _).setCell hNbk13 _).setCell hNbk13 _).setCell hNbk13 _).setCell hNbk13 _)
 have X3 : Hid (Box wq15 bk12 #[.string x1, .string x2, .string x3, .string x4, .string x5, .string x6] 38) := Lib.hid (by rw [← EW]; exact ((((((((((((hq0.set 0 _).set 1 _).set 2 _).set 3 _).set 4 _).set 5 _).setOther _ (by first | exact hne | exact hne2)).setOther _ (by first | exact hne | exact hne2)).setOther _ (by first | exact hne | exact hne2)).setOther _ (by first | exact hne | exact hne2)).setOther _ (by first | exact hne | exact hne2)).setOther _ (by first | exact hne | exact hne2)))
 have X4 : Hid (Box wq15 bk13 #[.string y1, .string y2, .string y3, .string y4, .string y5, .string y6] 38) := Lib.hid (by rw [← EW]; exact ((((((((((((hq1.setOther _ (by first | exact hne | exact hne2)).setOther _ (by first | exact hne | exact hne2)).setOther _ (by first | exact hne | exact hne2)).setOther _ (by first | exact hne | exact hne2)).setOther _ (by first | exact hne | exact hne2)).setOther _ (by first | exact hne | exact hne2)).set 0 _).set 1 _).set 2 _).set 3 _).set 4 _).set 5 _))
 rw [EW]
 clear EW hq0 cq0 fq0 hq1 cq1 fq1 hh14
 replace X1 := Lib.hid (X1.out.later hz)
 replace X2 := Lib.hid (X2.out.later hz)
 have hk16 := Bt hk5 hz
 clear hk5
 clear hz
 clear hwa12 hAbk12 hAbk13 hWbk12 hWbk13 hwa13
 have hlbk12 := hNbk12; have hlbk13 := hNbk13; clear hNbk12 hNbk13 hltbk12 hltbk13
 go_wp2_with fail
 have cX3 := X3.out.cell; have lX3 := X3.out.lt; have fX3 := X3.out.free
 have cX4 := X4.out.cell; have lX4 := X4.out.lt; have fX4 := X4.out.free
 refine wp_region_walk [(.pure, 0), (.read, 1), (.read, 2), (.ext, 3), (.ext, 4), (.pure, 5), (.pure, 6), (.pure, 7), (.fin, 8), (.fin, 9)] (by kernel_rfl) (by kernel_rfl) (allocRuns_of (by kernel_rfl)) (fun _ _ _ _ hd h => And.intro (hd.trans (And.left h)) (And.right h)) ?_
 repeat (first | (refine walk_pure0 rfl rfl (fun J hJ => ?_); go_simp; refine hJ _ ?_; clear hJ J) | (refine walk_load rfl rfl rfl rfl (fun J hJ => ?_); go_simp; refine hJ _ ?_; clear hJ J; try go_simp))
 refine walk_ext rfl rfl (fun we17 hb17 J hJ => ?_); go_simp
 have hh17 : Below wq15.heap.size wq15 we17 := belA
 clear hb17
 refine (O1.out _ (Bt hk16 hh17)).mono ?_
 rintro e wc18 ⟨rfl, hb18⟩
 refine hJ _ _ hb18 ?_
 clear hJ J
 have hh18 := Bt hh17 hb18
 clear hh17 hb18
 repeat (first | (refine walk_pure0 rfl rfl (fun J hJ => ?_); go_simp; refine hJ _ ?_; clear hJ J) | (refine walk_load rfl rfl rfl rfl (fun J hJ => ?_); go_simp; refine hJ _ ?_; clear hJ J; try go_simp))
 refine walk_ext rfl rfl (fun we20 hb20 J hJ => ?_); go_simp
 have hh20 : Below wq15.heap.size wq15 we20 := Bt hh18 belA
 clear hb20 hh18
 refine (M1.out _ (Bt hk16 hh20)).mono ?_
 rintro e wc21 ⟨hb21, v, rfl, -, hm⟩
 obtain rfl := hm (by decide)
 refine hJ _ _ hb21 ?_
 clear hJ J
 have hh21 := Bt hh20 hb21
 clear hh20 hb21
 repeat (first | (refine walk_pure0 rfl rfl (fun J hJ => ?_); go_simp; refine hJ _ ?_; clear hJ J) | (refine walk_load rfl rfl rfl rfl (fun J hJ => ?_); go_simp; refine hJ _ ?_; clear hJ J; try go_simp))
 refine walk_fin [_, _] rfl (fun wf23 hf23 => ?_)
 have hh23 : Below wq15.heap.size wq15 wf23 := Bt hh21 belA
 clear hf23 hh21
 clear cX3 lX3 fX3 cX4 lX4 fX4
 clear X1
 clear X2
 replace X3 := Lib.hid (X3.out.later hh23)
 replace X4 := Lib.hid (X4.out.later hh23)
 have hk24 := Bt hk16 hh23
 clear hk16
 clear hh23
 go_wp2_with fail
 have cX4 := X4.out.cell; have lX4 := X4.out.lt; have fX4 := X4.out.free
 have cX3 := X3.out.cell; have lX3 := X3.out.lt; have fX3 := X3.out.free
 refine wp_region_walk [(.pure, 0), (.read, 1), (.read, 2), (.ext, 3), (.ext, 4), (.pure, 5), (.pure, 6), (.pure, 7), (.fin, 8), (.fin, 9)] (by kernel_rfl) (by kernel_rfl) (allocRuns_of (by kernel_rfl)) (fun _ _ _ _ hd h => And.intro (hd.trans (And.left h)) (And.right h)) ?_
 repeat (first | (refine walk_pure0 rfl rfl (fun J hJ => ?_); go_simp; refine hJ _ ?_; clear hJ J) | (refine walk_load rfl rfl rfl rfl (fun J hJ => ?_); go_simp; refine hJ _ ?_; clear hJ J; try go_simp))
 refine walk_ext rfl rfl (fun we25 hb25 J hJ => ?_); go_simp
 have hh25 : Below wf23.heap.size wf23 we25 := belA
 clear hb25
 refine (O1.out _ (Bt hk24 hh25)).mono ?_
 rintro e wc26 ⟨rfl, hb26⟩
 refine hJ _ _ hb26 ?_
 clear hJ J
 have hh26 := Bt hh25 hb26
 clear hh25 hb26
 repeat (first | (refine walk_pure0 rfl rfl (fun J hJ => ?_); go_simp; refine hJ _ ?_; clear hJ J) | (refine walk_load rfl rfl rfl rfl (fun J hJ => ?_); go_simp; refine hJ _ ?_; clear hJ J; try go_simp))
 refine walk_ext rfl rfl (fun we28 hb28 J hJ => ?_); go_simp
 have hh28 : Below wf23.heap.size wf23 we28 := Bt hh26 belA
 clear hb28 hh26
 refine (M2.out _ (Bt hk24 hh28)).mono ?_
 rintro e wc29 ⟨hb29, v, rfl, -, hm⟩
 obtain rfl := hm (by decide)
 refine hJ _ _ hb29 ?_
 clear hJ J
 have hh29 := Bt hh28 hb29
 clear hh28 hb29
 repeat (first | (refine walk_pure0 rfl rfl (fun J hJ => ?_); go_simp; refine hJ _ ?_; clear hJ J) | (refine walk_load rfl rfl rfl rfl (fun J hJ => ?_); go_simp; refine hJ _ ?_; clear hJ J; try go_simp))
 refine walk_fin [_, _] rfl (fun wf31 hf31 => ?_)
 have hh31 : Below wf23.heap.size wf23 wf31 := Bt hh29 belA
 clear hf31 hh29
 clear cX4 lX4 fX4 cX3 lX3 fX3
 replace X3 := Lib.hid (X3.out.later hh31)
 replace X4 := Lib.hid (X4.out.later hh31)
 have hk32 := Bt hk24 hh31
 clear hk24
 clear hh31
 go_wp2_with fail
 go_ret
 exact ⟨rfl, hk32⟩
set_option maxRecDepth 100000 in
set_option maxHeartbeats 8000000 in
theorem AdaptMeets_b (n a0 a1 a2 b0 b1 b2 : Int) (s t : Nat → Rat) (m : Nat) (hm : m < 4) (hn : 0 ≤ n ∧ n ≤ 255) (en : 1 + n % 4 = (m : Int) + 1) (hs : adapt.Wh s) (ht' : adapt.Wh t) (w : World) (ht : Bld.Pow w) (hc : adapt.Cones w)
  (W2 : Ret w 10 #[.agg #[.int .u16 a0, .int .u16 a1, .int .u16 a2]] (adapt.tri3 s).v) (W3 : Ret w 10 #[.agg #[.int .u16 b0, .int .u16 b1, .int .u16 b2]] (adapt.tri3 t).v)
  (z1 : adapt.zero3 (adapt.resp m s) = true) (z2 : adapt.zero3 (adapt.resp m t) = false) :
  Calls Tryz.prog 5 #[.int .u8 n, .agg #[.int .u16 a0, .int .u16 a1, .int .u16 a2], .agg #[.int .u16 b0, .int .u16 b1, .int .u16 b2]] w (fun e w' => e = .returned (.bool true) ∧ Below w.heap.size w w') := by
 have W1 : Hid (Ret w 9 #[] (.bool true)) := Lib.hid fun W hW => works_ok W (ht.later hW) (hc.later hW)
 have O1 := Lib.hid (ret_of 1 1 (by decide +kernel) w ht)
 rw [Fr_one] at O1
 replace W2 := Lib.hid W2
 replace W3 := Lib.hid W3
 have M1 := Lib.hid (rets_matrix hm hs ht' w ht hc (er := 7) (by rw [z1]; rfl))
 have M2 := Lib.hid (rets_matrix hm ht' hs w ht hc (er := 0) (by rw [z2]; rfl))
 obtain ⟨⟨⟨x1, x2⟩, ⟨x3, x4⟩, ⟨x5, x6⟩⟩, E⟩ : ∃ y : light.Tri, adapt.tri3 s = y := ⟨_, rfl⟩
 simp only [E] at W2 M1 M2
 clear E
 obtain ⟨⟨⟨y1, y2⟩, ⟨y3, y4⟩, ⟨y5, y6⟩⟩, E⟩ : ∃ y : light.Tri, adapt.tri3 t = y := ⟨_, rfl⟩
 simp only [E] at W3 M1 M2
 clear E
 obtain ⟨⟨h1, h2⟩, E⟩ : ∃ y : Fr, Fr.of 1 = y := ⟨_, rfl⟩
 simp only [E] at O1 M1 M2
 clear E
 generalize (matrix.mk3 (adapt.mG m (adapt.gn m 1 s t))).fr = mm at *
 generalize (matrix.mk3 (adapt.mG m (adapt.gn m 1 t s))).fr = mn at *
 unfold light.Tri.v light.Tri.cells Fr.v at *
 dsimp only at W2 W3 O1 M1 M2
 have wn : IntKind.i64.wrap (n % 4) = n % 4 := by unfold IntKind.wrap; simp [IntKind.bits]; omega
 have wn1 : IntKind.i64.wrap (1 + n % 4) = (m : Int) + 1 := by rw [en]; unfold IntKind.wrap; simp [IntKind.bits]; omega
 have tn : n.tmod 4 = n % 4 := Int.tmod_eq_emod_of_nonneg hn.1
 have wu : IntKind.u8.wrap (n % 4) = n % 4 := by unfold IntKind.wrap; simp [IntKind.bits]; omega
 have HEQ := @run_eqTri_same
 clear ht hc hs ht' hn en
 go_enter Tryz.func5, Tryz.ntmps5
 go_wp2_with fail
 have hz : Below w.heap.size w ((w.alloc (.cells #[.int .u16 a0, .int .u16 a1, .int .u16 a2] 24)).alloc (.cells #[.int .u16 b0, .int .u16 b1, .int .u16 b2] 24)) := belA
 obtain ⟨wq1, EW⟩ : ∃ y, ((w.alloc (.cells #[.int .u16 a0, .int .u16 a1, .int .u16 a2] 24)).alloc (.cells #[.int .u16 b0, .int .u16 b1, .int .u16 b2] 24)) = y := ⟨_, rfl⟩
 have X1 : Hid (Box wq1 (w.heap.size) #[.int .u16 a0, .int .u16 a1, .int .u16 a2] 24) := Lib.hid (by rw [← EW]; exact Box.alloc (Box.new _ _ _) _)
 have X2 : Hid (Box wq1 (w.heap.size + 1) #[.int .u16 b0, .int .u16 b1, .int .u16 b2] 24) := Lib.hid (by rw [← EW]; exact Box.at1 _ _ _ _)
 rw [EW] at hz ⊢
 have hk2 := Bt (Below.refl _ _) hz
 clear EW hz
 refine (W1.out _ hk2).mono ?_
 rintro e wc3 ⟨rfl, hb3⟩
 replace X1 := Lib.hid (X1.out.later hb3)
 replace X2 := Lib.hid (X2.out.later hb3)
 have hk5 := Bt hk2 hb3
 clear hk2
 clear hb3
 go_wp2_with fail
 have cX1 := X1.out.cell; have lX1 := X1.out.lt; have fX1 := X1.out.free
 have cX2 := X2.out.cell; have lX2 := X2.out.lt; have fX2 := X2.out.free
 refine wp_region_walk [(.pure, 0), (.pure, 1), (.pure, 2), (.pure, 3), (.read, 4), (.read, 6), (.ext, 5), (.ext, 7), (.alloc #[.string ⟨#[]⟩, .string ⟨#[]⟩, .string ⟨#[]⟩, .string ⟨#[]⟩, .string ⟨#[]⟩, .string ⟨#[]⟩] 38, 8), (.alloc #[.string ⟨#[]⟩, .string ⟨#[]⟩, .string ⟨#[]⟩, .string ⟨#[]⟩, .string ⟨#[]⟩, .string ⟨#[]⟩] 38, 9), (.fin, 10), (.fin, 11), (.fin, 12)] (by kernel_rfl) (by kernel_rfl) (allocRuns_of (by kernel_rfl)) (fun _ _ _ _ hd h => And.intro (hd.trans (And.left h)) (And.right h)) ?_
 repeat (first | (refine walk_pure0 rfl rfl (fun J hJ => ?_); go_simp; refine hJ _ ?_; clear hJ J) | (refine walk_load rfl rfl rfl rfl (fun J hJ => ?_); go_simp; refine hJ _ ?_; clear hJ J; try go_simp))
 refine walk_ext rfl rfl (fun we6 hb6 J hJ => ?_); go_simp
 have hh6 : Below wc3.heap.size wc3 we6 := belA
 clear hb6
 refine (W2.out _ (Bt hk5 hh6)).mono ?_
 rintro e wc7 ⟨rfl, hb7⟩
 refine hJ _ _ hb7 ?_
 clear hJ J
 have hh7 := Bt hh6 hb7
 clear hh6 hb7
 repeat (first | (refine walk_pure0 rfl rfl (fun J hJ => ?_); go_simp; refine hJ _ ?_; clear hJ J) | (refine walk_load rfl rfl rfl rfl (fun J hJ => ?_); go_simp; refine hJ _ ?_; clear hJ J; try go_simp))
 refine walk_ext rfl rfl (fun we9 hb9 J hJ => ?_); go_simp
 have hh9 : Below wc3.heap.size wc3 we9 := Bt hh7 belA
 clear hb9 hh7
 refine (W3.out _ (Bt hk5 hh9)).mono ?_
 rintro e wc10 ⟨rfl, hb10⟩
 refine hJ _ _ hb10 ?_
 clear hJ J
 have hh10 := Bt hh9 hb10
 clear hh9 hb10
 repeat (first | (refine walk_pure0 rfl rfl (fun J hJ => ?_); go_simp; refine hJ _ ?_; clear hJ J) | (refine walk_load rfl rfl rfl rfl (fun J hJ => ?_); go_simp; refine hJ _ ?_; clear hJ J; try go_simp))
 refine walk_alloc rfl (fun bk12 wa12 hwa12 hNbk12 hltbk12 hAbk12 hxbk12 => ?_); go_simp; replace hxbk12 : Box _ _ _ _ := hxbk12; have hWbk12 : w.heap.size ≤ bk12 := (by first | omega | exact Nat.le_trans (Below.size (B := w.heap.size) belA) hNbk12)
 refine walk_alloc rfl (fun bk13 wa13 hwa13 hNbk13 hltbk13 hAbk13 hxbk13 => ?_); go_simp; replace hxbk13 : Box _ _ _ _ := hxbk13; have hWbk13 : w.heap.size ≤ bk13 := (by first | omega | exact Nat.le_trans (Below.size (B := w.heap.size) belA) hNbk13)
 replace hxbk12 := Box.later hxbk12 hwa13
 have hne : bk12 ≠ bk13 := fun h => hAbk13 (by simp [h])
 have hne2 : bk13 ≠ bk12 := fun h => hne h.symm
 refine walk_fin [_, _, _] rfl (fun wf14 hf14 => ?_)
 have hh14 : Below wc3.heap.size wc3 wf14 := Bt hh10 belA
 have hq0 := hxbk12.later hf14; have cq0 := hq0.cell; have fq0 := hq0.free
 have hq1 := hxbk13.later hf14; have cq1 := hq1.cell; have fq1 := hq1.free
 clear hxbk12 hxbk13 hf14 hh10
 clear cX1 lX1 fX1 cX2 lX2 fX2
 go_wp2_with fail
 obtain ⟨wq15, EW⟩ : ∃ y, ((((((((((((wf14.setCell ⟨bk12, 0, none⟩ (.string x1)).setCell ⟨bk12, 1, none⟩ (.string x2)).setCell ⟨bk12, 2, none⟩ (.string x3)).setCell ⟨bk12, 3, none⟩ (.string x4)).setCell ⟨bk12, 4, none⟩ (.string x5)).setCell ⟨bk12, 5, none⟩ (.string x6)).setCell ⟨bk13, 0, none⟩ (.string y1)).setCell ⟨bk13, 1, none⟩ (.string y2)).setCell ⟨bk13, 2, none⟩ (.string y3)).setCell ⟨bk13, 3, none⟩ (.string y4)).setCell ⟨bk13, 4, none⟩ (.string y5)).setCell ⟨bk13, 5, none⟩ (.string y6)) = y := ⟨_, rfl⟩
 have hz : Below wc3.heap.size wc3 wq15 := by rw [← EW]; exact ((((((((((((hh14.setCell hNbk12 _).setCell hNbk12 _).setCell hNbk12 _).setCell hNbk12 _).setCell hNbk12 _).setCell hNbk12 _).setCell hNbk13 _).setCell hNbk13 _).setCell hNbk13 _).setCell hNbk13 _).setCell hNbk13 _).setCell hNbk13 _)
 have X3 : Hid (Box wq15 bk12 #[.string x1, .string x2, .string x3, .string x4, .string x5, .string x6] 38) := Lib.hid (by rw [← EW]; exact ((((((((((((hq0.set 0 _).set 1 _).set 2 _).set 3 _).set 4 _).set 5 _).setOther _ (by first | exact hne | exact hne2)).setOther _ (by first | exact hne | exact hne2)).setOther _ (by first | exact hne | exact hne2)).setOther _ (by first | exact hne | exact hne2)).setOther _ (by first | exact hne | exact hne2)).setOther _ (by first | exact hne | exact hne2)))
 have X4 : Hid (Box wq15 bk13 #[.string y1, .string y2, .string y3, .string y4, .string y5, .string y6] 38) := Lib.hid (by rw [← EW]; exact ((((((((((((hq1.setOther _ (by first | exact hne | exact hne2)).setOther _ (by first | exact hne | exact hne2)).setOther _ (by first | exact hne | exact hne2)).setOther _ (by first | exact hne | exact hne2)).setOther _ (by first | exact hne | exact hne2)).setOther _ (by first | exact hne | exact hne2)).set 0 _).set 1 _).set 2 _).set 3 _).set 4 _).set 5 _))
 rw [EW]
 clear EW hq0 cq0 fq0 hq1 cq1 fq1 hh14
 replace X1 := Lib.hid (X1.out.later hz)
 replace X2 := Lib.hid (X2.out.later hz)
 have hk16 := Bt hk5 hz
 clear hk5
 clear hz
 clear hwa12 hAbk12 hAbk13 hWbk12 hWbk13 hwa13
 have hlbk12 := hNbk12; have hlbk13 := hNbk13; clear hNbk12 hNbk13 hltbk12 hltbk13
 go_wp2_with fail
 have cX3 := X3.out.cell; have lX3 := X3.out.lt; have fX3 := X3.out.free
 have cX4 := X4.out.cell; have lX4 := X4.out.lt; have fX4 := X4.out.free
 refine wp_region_walk [(.pure, 0), (.read, 1), (.read, 2), (.ext, 3), (.ext, 4), (.pure, 5), (.pure, 6), (.pure, 7), (.fin, 8), (.fin, 9)] (by kernel_rfl) (by kernel_rfl) (allocRuns_of (by kernel_rfl)) (fun _ _ _ _ hd h => And.intro (hd.trans (And.left h)) (And.right h)) ?_
 repeat (first | (refine walk_pure0 rfl rfl (fun J hJ => ?_); go_simp; refine hJ _ ?_; clear hJ J) | (refine walk_load rfl rfl rfl rfl (fun J hJ => ?_); go_simp; refine hJ _ ?_; clear hJ J; try go_simp))
 refine walk_ext rfl rfl (fun we17 hb17 J hJ => ?_); go_simp
 have hh17 : Below wq15.heap.size wq15 we17 := belA
 clear hb17
 refine (O1.out _ (Bt hk16 hh17)).mono ?_
 rintro e wc18 ⟨rfl, hb18⟩
 refine hJ _ _ hb18 ?_
 clear hJ J
 have hh18 := Bt hh17 hb18
 clear hh17 hb18
 repeat (first | (refine walk_pure0 rfl rfl (fun J hJ => ?_); go_simp; refine hJ _ ?_; clear hJ J) | (refine walk_load rfl rfl rfl rfl (fun J hJ => ?_); go_simp; refine hJ _ ?_; clear hJ J; try go_simp))
 refine walk_ext rfl rfl (fun we20 hb20 J hJ => ?_); go_simp
 have hh20 : Below wq15.heap.size wq15 we20 := Bt hh18 belA
 clear hb20 hh18
 refine (M1.out _ (Bt hk16 hh20)).mono ?_
 rintro e wc21 ⟨hb21, v, rfl, -, hm⟩
 obtain rfl := hm (by decide)
 refine hJ _ _ hb21 ?_
 clear hJ J
 have hh21 := Bt hh20 hb21
 clear hh20 hb21
 repeat (first | (refine walk_pure0 rfl rfl (fun J hJ => ?_); go_simp; refine hJ _ ?_; clear hJ J) | (refine walk_load rfl rfl rfl rfl (fun J hJ => ?_); go_simp; refine hJ _ ?_; clear hJ J; try go_simp))
 refine walk_fin [_, _] rfl (fun wf23 hf23 => ?_)
 have hh23 : Below wq15.heap.size wq15 wf23 := Bt hh21 belA
 clear hf23 hh21
 clear cX3 lX3 fX3 cX4 lX4 fX4
 clear X1
 clear X2
 replace X3 := Lib.hid (X3.out.later hh23)
 replace X4 := Lib.hid (X4.out.later hh23)
 have hk24 := Bt hk16 hh23
 clear hk16
 clear hh23
 go_wp2_with fail
 have cX4 := X4.out.cell; have lX4 := X4.out.lt; have fX4 := X4.out.free
 have cX3 := X3.out.cell; have lX3 := X3.out.lt; have fX3 := X3.out.free
 refine wp_region_walk [(.pure, 0), (.read, 1), (.read, 2), (.ext, 3), (.ext, 4), (.pure, 5), (.pure, 6), (.pure, 7), (.fin, 8), (.fin, 9)] (by kernel_rfl) (by kernel_rfl) (allocRuns_of (by kernel_rfl)) (fun _ _ _ _ hd h => And.intro (hd.trans (And.left h)) (And.right h)) ?_
 repeat (first | (refine walk_pure0 rfl rfl (fun J hJ => ?_); go_simp; refine hJ _ ?_; clear hJ J) | (refine walk_load rfl rfl rfl rfl (fun J hJ => ?_); go_simp; refine hJ _ ?_; clear hJ J; try go_simp))
 refine walk_ext rfl rfl (fun we25 hb25 J hJ => ?_); go_simp
 have hh25 : Below wf23.heap.size wf23 we25 := belA
 clear hb25
 refine (O1.out _ (Bt hk24 hh25)).mono ?_
 rintro e wc26 ⟨rfl, hb26⟩
 refine hJ _ _ hb26 ?_
 clear hJ J
 have hh26 := Bt hh25 hb26
 clear hh25 hb26
 repeat (first | (refine walk_pure0 rfl rfl (fun J hJ => ?_); go_simp; refine hJ _ ?_; clear hJ J) | (refine walk_load rfl rfl rfl rfl (fun J hJ => ?_); go_simp; refine hJ _ ?_; clear hJ J; try go_simp))
 refine walk_ext rfl rfl (fun we28 hb28 J hJ => ?_); go_simp
 have hh28 : Below wf23.heap.size wf23 we28 := Bt hh26 belA
 clear hb28 hh26
 refine (M2.out _ (Bt hk24 hh28)).mono ?_
 rintro e wc29 ⟨hb29, v, rfl, hm, -⟩
 replace hm := hm rfl
 obtain ⟨paN, lN, caN, rfl⟩ := MatV.slice hm
 refine hJ _ _ hb29 ?_
 clear hJ J
 have hh29 := Bt hh28 hb29
 clear hh28 hb29 hm
 repeat (first | (refine walk_pure0 rfl rfl (fun J hJ => ?_); go_simp; refine hJ _ ?_; clear hJ J) | (refine walk_load rfl rfl rfl rfl (fun J hJ => ?_); go_simp; refine hJ _ ?_; clear hJ J; try go_simp))
 refine walk_fin [_, _] rfl (fun wf31 hf31 => ?_)
 have hh31 : Below wf23.heap.size wf23 wf31 := Bt hh29 belA
 clear hf31 hh29
 clear cX4 lX4 fX4 cX3 lX3 fX3
 replace X3 := Lib.hid (X3.out.later hh31)
 replace X4 := Lib.hid (X4.out.later hh31)
 have hk32 := Bt hk24 hh31
 clear hk24
 clear hh31
 go_wp2_with fail
 go_ret
 exact ⟨rfl, hk32⟩
end Go.Proofs.verdigrislaw25
