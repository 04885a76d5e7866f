/- Lemmas for the proof. No condition. -/
import Derived.Test.YtddblpggomphpaaGreatDoorZD02
set_option linter.unusedVariables false
set_option linter.unusedSimpArgs false
namespace Go.Proofs.verdigrislaw25
open Go Go.RowKit Go.SW Go.Num Go.Mem Go.Proofs Go.Dec Go.Fra
set_option maxRecDepth 100000 in
set_option maxHeartbeats 8000000 in
theorem AdaptChains_d (n a0 a1 a2 b0 b1 b2 c0 c1 c2 : Int) (s t u : Nat → Rat) (m : Nat) (hm : m < 4) (hn : 0 ≤ n ∧ n ≤ 255) (en : 1 + n % 4 = (m : Int) + 1) (hs : adapt.Wh s) (ht' : adapt.Wh t) (hu : adapt.Wh u) (w : World) (ht : Bld.Pow w) (hc : adapt.Cones w)
  (W2 : Ret w 10 #[.agg #[.int .u16 a0, .int .u16 a1, .int .u16 a2]] (adapt.tri3 s).v) (W3 : Ret w 10 #[.agg #[.int .u16 b0, .int .u16 b1, .int .u16 b2]] (adapt.tri3 t).v)
  (W4 : Ret w 10 #[.agg #[.int .u16 c0, .int .u16 c1, .int .u16 c2]] (adapt.tri3 u).v) (k1 : adapt.zero3 (adapt.resp m s) = false) (k2 : adapt.zero3 (adapt.resp m t) = false) :
  Calls Tryz.prog 6 #[.int .u8 n, .agg #[.int .u16 a0, .int .u16 a1, .int .u16 a2], .agg #[.int .u16 b0, .int .u16 b1, .int .u16 b2], .agg #[.int .u16 c0, .int .u16 c1, .int .u16 c2]] w (fun e w' => e = .returned (.bool true) ∧ Below w.heap.size w w') := by
 have W1 : Hid (Ret w 9 #[] (.bool true)) := Lib.hid fun W hW => works_ok W (ht.later hW) (hc.later hW)
 have O1 := Lib.hid (ret_of 1 1 (by decide +kernel) w ht)
 rw [Fr_one] at O1
 replace W2 := Lib.hid W2
 replace W3 := Lib.hid W3
 replace W4 := Lib.hid W4
 have M1 := Lib.hid (rets_matrix hm hs ht' w ht hc (er := 0) (by rw [k1]; rfl))
 have M2 := Lib.hid (rets_matrix hm ht' hu w ht hc (er := 0) (by rw [k2]; rfl))
 have M3 := Lib.hid (rets_matrix hm hs hu w ht hc (er := 0) (by rw [k1]; rfl))
 have PR : Hid (∀ va vb W, Below w.heap.size w W → MatV W va (matrix.mk3 (adapt.mG m (adapt.gn m 1 t u))).fr → MatV W vb (matrix.mk3 (adapt.mG m (adapt.gn m 1 s t))).fr → RetM W 25 #[va, vb] 0 (matrix.mk3 (adapt.mG m (adapt.gn m 1 s u))).fr) := Lib.hid fun va vb W hW hv hv2 => rets_mul hm hs ht' hu k1 k2 va vb W hv hv2 (ht.later hW)
 obtain ⟨⟨⟨x1, x2⟩, ⟨x3, x4⟩, ⟨x5, x6⟩⟩, E⟩ : ∃ y : light.Tri, adapt.tri3 s = y := ⟨_, rfl⟩
 simp only [E] at W2 M1 M3
 clear E
 obtain ⟨⟨⟨y1, y2⟩, ⟨y3, y4⟩, ⟨y5, y6⟩⟩, E⟩ : ∃ y : light.Tri, adapt.tri3 t = y := ⟨_, rfl⟩
 simp only [E] at W3 M1 M2
 clear E
 obtain ⟨⟨⟨z1, z2⟩, ⟨z3, z4⟩, ⟨z5, z6⟩⟩, E⟩ : ∃ y : light.Tri, adapt.tri3 u = y := ⟨_, rfl⟩
 simp only [E] at W4 M2 M3
 clear E
 obtain ⟨⟨h1, h2⟩, E⟩ : ∃ y : Fr, Fr.of 1 = y := ⟨_, rfl⟩
 simp only [E] at O1 M1 M2 M3
 clear E
 generalize (matrix.mk3 (adapt.mG m (adapt.gn m 1 s t))).fr = mm at *
 generalize (matrix.mk3 (adapt.mG m (adapt.gn m 1 t u))).fr = mn at *
 generalize (matrix.mk3 (adapt.mG m (adapt.gn m 1 s u))).fr = mp at *
 unfold light.Tri.v light.Tri.cells Fr.v at *
 dsimp only at W2 W3 W4 O1 M1 M2 M3
 have wn : IntKind.i64.wrap (n % 4) = n % 4 := by unfold IntKind.wrap; simp [IntKind.bits]; omega
 have wn1 : IntKind.i64.wrap (1 + n % 4) = (m : Int) + 1 := by rw [en]; unfold IntKind.wrap; simp [IntKind.bits]; omega
 have tn : n.tmod 4 = n % 4 := Int.tmod_eq_emod_of_nonneg hn.1
 have wu : IntKind.u8.wrap (n % 4) = n % 4 := by unfold IntKind.wrap; simp [IntKind.bits]; omega
 clear ht hc hs ht' hu hn en
 go_enter Tryz.func6, Tryz.ntmps6
 go_wp2_with fail
 have hz : Below w.heap.size w (((w.alloc (.cells #[.int .u16 a0, .int .u16 a1, .int .u16 a2] 24)).alloc (.cells #[.int .u16 b0, .int .u16 b1, .int .u16 b2] 24)).alloc (.cells #[.int .u16 c0, .int .u16 c1, .int .u16 c2] 24)) := belA
 obtain ⟨wq1, EW⟩ : ∃ y, (((w.alloc (.cells #[.int .u16 a0, .int .u16 a1, .int .u16 a2] 24)).alloc (.cells #[.int .u16 b0, .int .u16 b1, .int .u16 b2] 24)).alloc (.cells #[.int .u16 c0, .int .u16 c1, .int .u16 c2] 24)) = y := ⟨_, rfl⟩
 have X1 : Hid (Box wq1 (w.heap.size) #[.int .u16 a0, .int .u16 a1, .int .u16 a2] 24) := Lib.hid (by rw [← EW]; exact Box.alloc (Box.alloc (Box.new _ _ _) _) _)
 have X2 : Hid (Box wq1 (w.heap.size + 1) #[.int .u16 b0, .int .u16 b1, .int .u16 b2] 24) := Lib.hid (by rw [← EW]; exact Box.alloc (Box.at1 _ _ _ _) _)
 have X3 : Hid (Box wq1 (w.heap.size + 1 + 1) #[.int .u16 c0, .int .u16 c1, .int .u16 c2] 24) := Lib.hid (by rw [← EW]; exact Box.at2 _ _ _ _ _)
 rw [EW] at hz ⊢
 have hk2 := Bt (Below.refl _ _) hz
 clear EW hz
 refine (W1.out _ hk2).mono ?_
 rintro e wc3 ⟨rfl, hb3⟩
 replace X1 := Lib.hid (X1.out.later hb3)
 replace X2 := Lib.hid (X2.out.later hb3)
 replace X3 := Lib.hid (X3.out.later hb3)
 have hk5 := Bt hk2 hb3
 clear hk2
 clear hb3
 go_wp2_with fail
 refine (O1.out _ hk5).mono ?_
 rintro e wc6 ⟨rfl, hb6⟩
 replace X1 := Lib.hid (X1.out.later hb6)
 replace X2 := Lib.hid (X2.out.later hb6)
 replace X3 := Lib.hid (X3.out.later hb6)
 have hk8 := Bt hk5 hb6
 clear hk5
 clear hb6
 go_wp2_with fail
 have hz : Below wc6.heap.size wc6 (wc6.alloc (.cells #[.string h1, .string h2] 36)) := belA
 obtain ⟨wq9, EW⟩ : ∃ y, (wc6.alloc (.cells #[.string h1, .string h2] 36)) = y := ⟨_, rfl⟩
 have X4 : Hid (Box wq9 (wc6.heap.size) #[.string h1, .string h2] 36) := Lib.hid (by rw [← EW]; exact Box.new _ _ _)
 rw [EW] at hz ⊢
 replace X1 := Lib.hid (X1.out.later hz)
 replace X2 := Lib.hid (X2.out.later hz)
 replace X3 := Lib.hid (X3.out.later hz)
 have hk10 := Bt hk8 hz
 clear hk8
 clear EW hz
 generalize wc6.heap.size = pq9 at *
 have cX1 := X1.out.cell; have lX1 := X1.out.lt; have fX1 := X1.out.free
 have cX2 := X2.out.cell; have lX2 := X2.out.lt; have fX2 := X2.out.free
 have cX4 := X4.out.cell; have lX4 := X4.out.lt; have fX4 := X4.out.free
 refine wp_region_walk [(.pure, 0), (.read, 1), (.read, 3), (.read, 5), (.ext, 2), (.ext, 4), (.ext, 6), (.pure, 7), (.pure, 8), (.pure, 9), (.fin, 10), (.fin, 11)] (by kernel_rfl) (by kernel_rfl) (allocRuns_of (by kernel_rfl)) (fun _ _ _ _ hd h => And.intro (hd.trans (And.left h)) (And.right h)) ?_
 repeat (first | (refine walk_pure0 rfl rfl (fun J hJ => ?_); go_simp; refine hJ _ ?_; clear hJ J) | (refine walk_load rfl rfl rfl rfl (fun J hJ => ?_); go_simp; refine hJ _ ?_; clear hJ J; try go_simp))
 refine walk_ext rfl rfl (fun we11 hb11 J hJ => ?_); go_simp
 have hh11 : Below wq9.heap.size wq9 we11 := belA
 clear hb11
 refine (W2.out _ (Bt hk10 hh11)).mono ?_
 rintro e wc12 ⟨rfl, hb12⟩
 refine hJ _ _ hb12 ?_
 clear hJ J
 have hh12 := Bt hh11 hb12
 clear hh11 hb12
 repeat (first | (refine walk_pure0 rfl rfl (fun J hJ => ?_); go_simp; refine hJ _ ?_; clear hJ J) | (refine walk_load rfl rfl rfl rfl (fun J hJ => ?_); go_simp; refine hJ _ ?_; clear hJ J; try go_simp))
 refine walk_ext rfl rfl (fun we14 hb14 J hJ => ?_); go_simp
 have hh14 : Below wq9.heap.size wq9 we14 := Bt hh12 belA
 clear hb14 hh12
 refine (W3.out _ (Bt hk10 hh14)).mono ?_
 rintro e wc15 ⟨rfl, hb15⟩
 refine hJ _ _ hb15 ?_
 clear hJ J
 have hh15 := Bt hh14 hb15
 clear hh14 hb15
 repeat (first | (refine walk_pure0 rfl rfl (fun J hJ => ?_); go_simp; refine hJ _ ?_; clear hJ J) | (refine walk_load rfl rfl rfl rfl (fun J hJ => ?_); go_simp; refine hJ _ ?_; clear hJ J; try go_simp))
 refine walk_ext rfl rfl (fun we17 hb17 J hJ => ?_); go_simp
 have hh17 : Below wq9.heap.size wq9 we17 := Bt hh15 belA
 clear hb17 hh15
 refine (M1.out _ (Bt hk10 hh17)).mono ?_
 rintro e wc18 ⟨hb18, v, rfl, hm, -⟩
 replace hm := hm rfl
 obtain ⟨paM, lM, caM, rfl⟩ := MatV.slice hm
 refine hJ _ _ hb18 ?_
 clear hJ J
 have hh18 := Bt hh17 hb18
 have NM := Lib.hid hm
 clear hh17 hb18 hm
 repeat (first | (refine walk_pure0 rfl rfl (fun J hJ => ?_); go_simp; refine hJ _ ?_; clear hJ J) | (refine walk_load rfl rfl rfl rfl (fun J hJ => ?_); go_simp; refine hJ _ ?_; clear hJ J; try go_simp))
 refine walk_fin [_, _] rfl (fun wf20 hf20 => ?_)
 replace NM := Lib.hid (NM.out.later (show Below wc18.heap.size wc18 wf20 from belA))
 have hh20 : Below wq9.heap.size wq9 wf20 := Bt hh18 belA
 clear hf20 hh18
 clear cX1 lX1 fX1 cX2 lX2 fX2 cX4 lX4 fX4
 replace X1 := Lib.hid (X1.out.later hh20)
 replace X2 := Lib.hid (X2.out.later hh20)
 replace X3 := Lib.hid (X3.out.later hh20)
 replace X4 := Lib.hid (X4.out.later hh20)
 have hk21 := Bt hk10 hh20
 clear hk10
 clear hh20
 go_wp2_with fail
 have cX2 := X2.out.cell; have lX2 := X2.out.lt; have fX2 := X2.out.free
 have cX3 := X3.out.cell; have lX3 := X3.out.lt; have fX3 := X3.out.free
 have cX4 := X4.out.cell; have lX4 := X4.out.lt; have fX4 := X4.out.free
 refine wp_region_walk [(.pure, 0), (.read, 1), (.read, 3), (.read, 5), (.ext, 2), (.ext, 4), (.ext, 6), (.pure, 7), (.pure, 8), (.pure, 9), (.fin, 10), (.fin, 11)] (by kernel_rfl) (by kernel_rfl) (allocRuns_of (by kernel_rfl)) (fun _ _ _ _ hd h => And.intro (hd.trans (And.left h)) (And.right h)) ?_
 repeat (first | (refine walk_pure0 rfl rfl (fun J hJ => ?_); go_simp; refine hJ _ ?_; clear hJ J) | (refine walk_load rfl rfl rfl rfl (fun J hJ => ?_); go_simp; refine hJ _ ?_; clear hJ J; try go_simp))
 refine walk_ext rfl rfl (fun we22 hb22 J hJ => ?_); go_simp
 have hh22 : Below wf20.heap.size wf20 we22 := belA
 clear hb22
 refine (W3.out _ (Bt hk21 hh22)).mono ?_
 rintro e wc23 ⟨rfl, hb23⟩
 refine hJ _ _ hb23 ?_
 clear hJ J
 have hh23 := Bt hh22 hb23
 clear hh22 hb23
 repeat (first | (refine walk_pure0 rfl rfl (fun J hJ => ?_); go_simp; refine hJ _ ?_; clear hJ J) | (refine walk_load rfl rfl rfl rfl (fun J hJ => ?_); go_simp; refine hJ _ ?_; clear hJ J; try go_simp))
 refine walk_ext rfl rfl (fun we25 hb25 J hJ => ?_); go_simp
 have hh25 : Below wf20.heap.size wf20 we25 := Bt hh23 belA
 clear hb25 hh23
 refine (W4.out _ (Bt hk21 hh25)).mono ?_
 rintro e wc26 ⟨rfl, hb26⟩
 refine hJ _ _ hb26 ?_
 clear hJ J
 have hh26 := Bt hh25 hb26
 clear hh25 hb26
 repeat (first | (refine walk_pure0 rfl rfl (fun J hJ => ?_); go_simp; refine hJ _ ?_; clear hJ J) | (refine walk_load rfl rfl rfl rfl (fun J hJ => ?_); go_simp; refine hJ _ ?_; clear hJ J; try go_simp))
 refine walk_ext rfl rfl (fun we28 hb28 J hJ => ?_); go_simp
 have hh28 : Below wf20.heap.size wf20 we28 := Bt hh26 belA
 clear hb28 hh26
 refine (M2.out _ (Bt hk21 hh28)).mono ?_
 rintro e wc29 ⟨hb29, v, rfl, hm, -⟩
 replace hm := hm rfl
 obtain ⟨paN, lN, caN, rfl⟩ := MatV.slice hm
 refine hJ _ _ hb29 ?_
 clear hJ J
 have hh29 := Bt hh28 hb29
 have NN := Lib.hid hm
 clear hh28 hb29 hm
 repeat (first | (refine walk_pure0 rfl rfl (fun J hJ => ?_); go_simp; refine hJ _ ?_; clear hJ J) | (refine walk_load rfl rfl rfl rfl (fun J hJ => ?_); go_simp; refine hJ _ ?_; clear hJ J; try go_simp))
 refine walk_fin [_, _] rfl (fun wf31 hf31 => ?_)
 replace NN := Lib.hid (NN.out.later (show Below wc29.heap.size wc29 wf31 from belA))
 have hh31 : Below wf20.heap.size wf20 wf31 := Bt hh29 belA
 clear hf31 hh29
 clear cX2 lX2 fX2 cX3 lX3 fX3 cX4 lX4 fX4
 replace X1 := Lib.hid (X1.out.later hh31)
 replace X2 := Lib.hid (X2.out.later hh31)
 replace X3 := Lib.hid (X3.out.later hh31)
 replace X4 := Lib.hid (X4.out.later hh31)
 replace NM := Lib.hid (NM.out.later hh31)
 have hk32 := Bt hk21 hh31
 clear hk21
 clear hh31
 go_wp2_with fail
 have cX1 := X1.out.cell; have lX1 := X1.out.lt; have fX1 := X1.out.free
 have cX3 := X3.out.cell; have lX3 := X3.out.lt; have fX3 := X3.out.free
 have cX4 := X4.out.cell; have lX4 := X4.out.lt; have fX4 := X4.out.free
 refine wp_region_walk [(.pure, 0), (.read, 1), (.read, 3), (.read, 5), (.ext, 2), (.ext, 4), (.ext, 6), (.pure, 7), (.pure, 8), (.pure, 9), (.fin, 10), (.fin, 11)] (by kernel_rfl) (by kernel_rfl) (allocRuns_of (by kernel_rfl)) (fun _ _ _ _ hd h => And.intro (hd.trans (And.left h)) (And.right h)) ?_
 repeat (first | (refine walk_pure0 rfl rfl (fun J hJ => ?_); go_simp; refine hJ _ ?_; clear hJ J) | (refine walk_load rfl rfl rfl rfl (fun J hJ => ?_); go_simp; refine hJ _ ?_; clear hJ J; try go_simp))
 refine walk_ext rfl rfl (fun we33 hb33 J hJ => ?_); go_simp
 have hh33 : Below wf31.heap.size wf31 we33 := belA
 clear hb33
 refine (W2.out _ (Bt hk32 hh33)).mono ?_
 rintro e wc34 ⟨rfl, hb34⟩
 refine hJ _ _ hb34 ?_
 clear hJ J
 have hh34 := Bt hh33 hb34
 clear hh33 hb34
 repeat (first | (refine walk_pure0 rfl rfl (fun J hJ => ?_); go_simp; refine hJ _ ?_; clear hJ J) | (refine walk_load rfl rfl rfl rfl (fun J hJ => ?_); go_simp; refine hJ _ ?_; clear hJ J; try go_simp))
 refine walk_ext rfl rfl (fun we36 hb36 J hJ => ?_); go_simp
 have hh36 : Below wf31.heap.size wf31 we36 := Bt hh34 belA
 clear hb36 hh34
 refine (W4.out _ (Bt hk32 hh36)).mono ?_
 rintro e wc37 ⟨rfl, hb37⟩
 refine hJ _ _ hb37 ?_
 clear hJ J
 have hh37 := Bt hh36 hb37
 clear hh36 hb37
 repeat (first | (refine walk_pure0 rfl rfl (fun J hJ => ?_); go_simp; refine hJ _ ?_; clear hJ J) | (refine walk_load rfl rfl rfl rfl (fun J hJ => ?_); go_simp; refine hJ _ ?_; clear hJ J; try go_simp))
 refine walk_ext rfl rfl (fun we39 hb39 J hJ => ?_); go_simp
 have hh39 : Below wf31.heap.size wf31 we39 := Bt hh37 belA
 clear hb39 hh37
 refine (M3.out _ (Bt hk32 hh39)).mono ?_
 rintro e wc40 ⟨hb40, v, rfl, hm, -⟩
 replace hm := hm rfl
 obtain ⟨paP, lP, caP, rfl⟩ := MatV.slice hm
 refine hJ _ _ hb40 ?_
 clear hJ J
 have hh40 := Bt hh39 hb40
 have NP := Lib.hid hm
 clear hh39 hb40 hm
 repeat (first | (refine walk_pure0 rfl rfl (fun J hJ => ?_); go_simp; refine hJ _ ?_; clear hJ J) | (refine walk_load rfl rfl rfl rfl (fun J hJ => ?_); go_simp; refine hJ _ ?_; clear hJ J; try go_simp))
 refine walk_fin [_, _] rfl (fun wf42 hf42 => ?_)
 replace NP := Lib.hid (NP.out.later (show Below wc40.heap.size wc40 wf42 from belA))
 have hh42 : Below wf31.heap.size wf31 wf42 := Bt hh40 belA
 clear hf42 hh40
 clear cX1 lX1 fX1 cX3 lX3 fX3 cX4 lX4 fX4
 replace X1 := Lib.hid (X1.out.later hh42)
 clear X2
 replace X3 := Lib.hid (X3.out.later hh42)
 replace X4 := Lib.hid (X4.out.later hh42)
 replace NM := Lib.hid (NM.out.later hh42)
 replace NN := Lib.hid (NN.out.later hh42)
 have hk43 := Bt hk32 hh42
 clear hk32
 clear hh42
 go_wp2_with fail
 refine (PR.out _ _ _ hk43 NN.out NM.out _ (Below.refl _ _)).mono ?_
 rintro e wc44 ⟨hb44, v, rfl, hm, -⟩
 replace hm := hm rfl
 obtain ⟨paQ, lQ, caQ, rfl⟩ := MatV.slice hm
 clear X1
 clear X3
 clear X4
 replace NM := Lib.hid (NM.out.later hb44)
 replace NN := Lib.hid (NN.out.later hb44)
 replace NP := Lib.hid (NP.out.later hb44)
 have hk46 := Bt hk43 hb44
 clear hk43
 have NQ := Lib.hid hm
 clear hb44 hm
 go_wp2_with fail
 refine (matrix.Same_ok _ _ _ _ NQ.out NP.out).mono ?_
 rintro e wc47 ⟨rfl, hb47⟩
 clear NM
 clear NN
 replace NP := Lib.hid (NP.out.later hb47)
 replace NQ := Lib.hid (NQ.out.later hb47)
 have hk49 := Bt hk46 hb47
 clear hk46
 clear hb47
 go_wp2_with fail
 go_ret
 exact ⟨rfl, hk49⟩
end Go.Proofs.verdigrislaw25
