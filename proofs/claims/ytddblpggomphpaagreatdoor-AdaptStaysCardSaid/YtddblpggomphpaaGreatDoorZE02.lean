/- verdigrislaw25.AdaptStays returns true. Conditions: those of the given row. -/
import Derived.Test.YtddblpggomphpaaGreatDoorZE01
import Derived.Test.YtddblpggomphpaaGreatDoorCards
import Derived.Test.YtddblpggomphpaaGreatDoorTie
import Derived.ChangeSame
import Derived.ChangeVars
import Derived.JoinedOf
import Derived.SevenTiedAt
set_option linter.unusedVariables false
set_option linter.unusedSimpArgs false
namespace Go.Proofs.verdigrislaw25
open Go Go.RowKit Go.SW Go.Num Go.Mem Go.Proofs Go.Dec Go.Fra
theorem rets_gains {m : Nat} (hm : m < 4) {s t : Nat → Rat} (hs : adapt.Wh s) (ht' : adapt.Wh t) {d : Rat} (d0 : 0 ≤ d) (d1 : d ≤ 1) (hd : adapt.Ht 10 d) (w : World) (ht : Bld.Pow w) (hc : adapt.Cones w) (hz : adapt.zero3 (adapt.resp m s) = false) :
  Ret w 27 #[.int .i64 ((m : Int) + 1), (adapt.tri3 s).v, (adapt.tri3 t).v, (Fr.of d).v] (.tuple #[(adapt.tri3 (adapt.gn m d s t)).v, .int .i64 0]) :=
 ret_gains _ _ _ _ 0 _ (by rw [adapt.gainsE_at hm hs ht' hd d0 d1, hz]; rfl) (by
  rw [if_pos rfl]
  refine adapt.tri3_congr fun i hi => ?_
  unfold adapt.gainsQ adapt.gn
  rw [adapt.qF_fr (hd.ok (by omega)), adapt.respQ_eq hs i hi, adapt.respQ_eq ht' i hi]) w ht hc
theorem cmpq_b (p q : Rat) : -1 ≤ cmpq p q ∧ cmpq p q ≤ 1 := by
 unfold cmpq
 split
 ·omega
 ·split <;> omega
theorem rets_cmp {p q : Rat} (hp : okq p = true) (hq : okq q = true) (w : World) : Ret w 32 #[(Fr.of p).v, (Fr.of q).v] (.tuple #[.int .i64 (cmpq p q), .int .i64 0]) := fun W _ => (frac.Cmp_ok _ _ W).mono (by
 rw [show cmpF (Fr.of p) (Fr.of q) = (cmpq p q, 0) by unfold cmpF; rw [rd_of hp, rd_of hq]]
 exact fun _ _ h => h)
/-- The two comparisons of a gain in part. -/
theorem rets_side {m : Nat} (hm : m < 4) {s t : Nat → Rat} (hs : adapt.Wh s) (ht' : adapt.Wh t) {d : Rat} (d0 : 0 ≤ d) (d1 : d ≤ 1) (hd : adapt.Ht 10 d) (w : World) (i : Nat) (hi : i < 3) :
  ∃ c e : Int, Ret w 32 #[(Fr.of (adapt.gn m d s t i)).v, (Fr.of 1).v] (.tuple #[.int .i64 c, .int .i64 0]) ∧ Ret w 32 #[(Fr.of (adapt.gn m 1 s t i)).v, (Fr.of (adapt.gn m d s t i)).v] (.tuple #[.int .i64 e, .int .i64 0]) ∧ IntKind.i64.wrap (c * e) = c * e ∧ decide (c * e < 0) = false := by
 have k1 := (adapt.gn_ht hm hs ht' hd hi).ok (by omega)
 have k2 := (adapt.gn_ht hm hs ht' (adapt.Ht.one.mono (by omega)) hi).ok (by omega)
 have ks := adapt.side m s t d d0 d1 i
 refine ⟨_, _, rets_cmp k1 (adapt.Ht.one.ok (by omega)) w, rets_cmp k2 k1 w, ?_, decide_eq_false (by omega)⟩
 have b1 := cmpq_b (adapt.gn m d s t i) 1
 have b2 := cmpq_b (adapt.gn m 1 s t i) (adapt.gn m d s t i)
 generalize cmpq (adapt.gn m d s t i) 1 = c at *
 generalize cmpq (adapt.gn m 1 s t i) (adapt.gn m d s t i) = e at *
 have hc : c = -1 ∨ c = 0 ∨ c = 1 := by omega
 rcases hc with rfl | rfl | rfl <;> unfold IntKind.wrap <;> simp [IntKind.bits, IntKind.signed] <;> omega
theorem cone4_list (x : Rat) : ((adapt.coneR 3).map fun r => dotQ r [x, x, x]) = [x, x, x] := by
 have h := fun i hi => (adapt.seen_mk (adapt.coneQ 3) (fun _ => x) i hi).trans (adapt.cone4_same x i hi)
 show [dotQ ((adapt.coneR 3).getD 0 []) [x, x, x], dotQ ((adapt.coneR 3).getD 1 []) [x, x, x], dotQ ((adapt.coneR 3).getD 2 []) [x, x, x]] = _
 rw [show dotQ ((adapt.coneR 3).getD 0 []) [x, x, x] = x from h 0 (by omega), show dotQ ((adapt.coneR 3).getD 1 []) [x, x, x] = x from h 1 (by omega), show dotQ ((adapt.coneR 3).getD 2 []) [x, x, x] = x from h 2 (by omega)]
/-- What the fourth cone makes of three equal numbers. -/
def EvenOk (w : World) (m : List (List Fr)) (f : Fr) : Prop := ∀ va vl T W, Below w.heap.size w W → MatV W va m → Frs W T vl [f, f, f] → Calls Tryz.prog 33 #[va, vl] W (fun e W' => ∃ vo, e = .returned (.tuple #[vo, .int .i64 0]) ∧ Below W.heap.size W W' ∧ Frs W' 36 vo [f, f, f])
theorem rets_even {x : Rat} (hx : okq x = true) (w : World) (ht : Bld.Pow w) : EvenOk w (adapt.coneR 3).fr (Fr.of x) := fun va vl T W hW hm hl => by
 refine (matrix.apply_main va vl (adapt.coneR 3) [x, x, x] T W hm hl (adapt.coneR_ok 3 (by omega)) (fun q hq => ?_) (ht.later hW)).mono ?_
 ·simp only [List.mem_cons, List.not_mem_nil, or_false, or_self] at hq
  rw [hq]; exact hx
 ·rw [cone4_list]
  rintro e W' (⟨-, vo, rfl, hb, hf⟩ | ⟨h, -⟩)
  ·exact ⟨vo, rfl, hb, hf⟩
  ·simp [hx] at h
set_option maxRecDepth 100000 in
set_option maxHeartbeats 8000000 in
theorem AdaptStays_b (n a0 a1 a2 b0 b1 b2 e0 e1 : Int) (s t : Nat → Rat) (q : Rat) (m : Nat) (hm : m < 4) (hn : 0 ≤ n ∧ n ≤ 255) (en : 1 + n % 4 = (m : Int) + 1) (hs : adapt.Wh s) (ht' : adapt.Wh t) (q0 : 0 ≤ q) (q1 : q ≤ 1) (hq : adapt.Ht 10 q) (w : World) (ht : Bld.Pow w) (hc : adapt.Cones w)
  (W2 : Ret w 10 #[.agg #[.int .u16 a0, .int .u16 a1, .int .u16 a2]] (adapt.tri3 s).v) (W3 : Ret w 10 #[.agg #[.int .u16 b0, .int .u16 b1, .int .u16 b2]] (adapt.tri3 t).v)
  (SH : Ret w 14 #[.agg #[.int .i16 e0, .int .u8 e1]] (Fr.of q).v) (z1 : adapt.zero3 (adapt.resp m s) = false) :
  Calls Tryz.prog 8 #[.int .u8 n, .agg #[.int .u16 a0, .int .u16 a1, .int .u16 a2], .agg #[.int .u16 b0, .int .u16 b1, .int .u16 b2], .agg #[.int .i16 e0, .int .u8 e1]] w (fun e w' => e = .returned (.bool true) ∧ Below w.heap.size w w') := by
 have W1 : Hid (Ret w 9 #[] (.bool true)) := Lib.hid fun W hW => works_ok W (ht.later hW) (hc.later hW)
 have O0 := Lib.hid (ret_of 0 1 (by decide +kernel) w ht)
 rw [Fr_zero] at O0
 have ID := Lib.hid (rets_id w)
 replace W2 := Lib.hid W2
 replace W3 := Lib.hid W3
 replace SH := Lib.hid SH
 have M1 := Lib.hid (rets_matd hm hs ht' (d := 0) (by decide) (by decide) (adapt.Ht.zero.mono (by omega)) w ht hc (er := 0) (by rw [z1]; rfl))
 have M2 := Lib.hid (rets_matd hm hs hs q0 q1 hq w ht hc (er := 0) (by rw [z1]; rfl))
 rw [adapt.mG_id hm fun i _ => adapt.gn_zero i] at M1
 rw [adapt.mG_id hm fun i hi => adapt.gn_same z1 i hi] at M2
 have O1 := Lib.hid (ret_of 1 1 (by decide +kernel) w ht)
 rw [Fr_one] at O1
 have G1 := Lib.hid (rets_gains hm hs ht' (d := 1) (by decide) (by decide) (adapt.Ht.one.mono (by omega)) w ht hc z1)
 have G2 := Lib.hid (rets_gains hm hs ht' q0 q1 hq w ht hc z1)
 have CN := Lib.hid (ret_cone 4 0 rfl w ht hc)
 have EV4 : Hid (EvenOk w (adapt.coneR ((4 : Int) - 1).toNat).fr (Fr.of (s 0))) := Lib.hid (rets_even (hs.ok 0 (by omega)) w ht)
 obtain ⟨mc, E⟩ : ∃ y, (adapt.coneR ((4 : Int) - 1).toNat).fr = y := ⟨_, rfl⟩
 rw [E] at CN EV4
 clear E
 obtain ⟨cc0, ee0, CA0, CB0, wz0, dz0⟩ := rets_side hm hs ht' q0 q1 hq w 0 (by omega)
 obtain ⟨cc1, ee1, CA1, CB1, wz1, dz1⟩ := rets_side hm hs ht' q0 q1 hq w 1 (by omega)
 obtain ⟨cc2, ee2, CA2, CB2, wz2, dz2⟩ := rets_side hm hs ht' q0 q1 hq w 2 (by omega)
 obtain ⟨⟨⟨x1, x2⟩, ⟨x3, x4⟩, ⟨x5, x6⟩⟩, E⟩ : ∃ y : light.Tri, adapt.tri3 s = y := ⟨_, rfl⟩
 simp only [E] at W2 M1 M2 G1 G2
 have es : Fr.of (s 0) = ⟨x1, x2⟩ := congrArg light.Tri.x E
 rw [es] at EV4
 clear E es
 obtain ⟨⟨⟨y1, y2⟩, ⟨y3, y4⟩, ⟨y5, y6⟩⟩, E⟩ : ∃ y : light.Tri, adapt.tri3 t = y := ⟨_, rfl⟩
 simp only [E] at W3 M1 G1 G2
 clear E
 obtain ⟨⟨h1, h2⟩, E⟩ : ∃ y : Fr, Fr.of 0 = y := ⟨_, rfl⟩
 simp only [E] at O0 M1
 clear E
 obtain ⟨⟨g1, g2⟩, E⟩ : ∃ y : Fr, Fr.of q = y := ⟨_, rfl⟩
 simp only [E] at SH M2 G2
 clear E
 obtain ⟨⟨k1, k2⟩, E⟩ : ∃ y : Fr, Fr.of 1 = y := ⟨_, rfl⟩
 simp only [E] at O1 G1 CA0 CA1 CA2
 clear E
 obtain ⟨⟨⟨u1, u2⟩, ⟨u3, u4⟩, ⟨u5, u6⟩⟩, EU⟩ : ∃ y : light.Tri, adapt.tri3 (adapt.gn m 1 s t) = y := ⟨_, rfl⟩
 simp only [EU] at G1
 have es : Fr.of (adapt.gn m 1 s t 0) = ⟨u1, u2⟩ := congrArg light.Tri.x EU
 rw [es] at CB0
 clear es
 have es : Fr.of (adapt.gn m 1 s t 1) = ⟨u3, u4⟩ := congrArg light.Tri.y EU
 rw [es] at CB1
 clear es
 have es : Fr.of (adapt.gn m 1 s t 2) = ⟨u5, u6⟩ := congrArg light.Tri.z EU
 rw [es] at CB2
 clear es
 obtain ⟨⟨⟨v1, v2⟩, ⟨v3, v4⟩, ⟨v5, v6⟩⟩, EV⟩ : ∃ y : light.Tri, adapt.tri3 (adapt.gn m q s t) = y := ⟨_, rfl⟩
 simp only [EV] at G2
 have es : Fr.of (adapt.gn m q s t 0) = ⟨v1, v2⟩ := congrArg light.Tri.x EV
 rw [es] at CA0 CB0
 clear es
 have es : Fr.of (adapt.gn m q s t 1) = ⟨v3, v4⟩ := congrArg light.Tri.y EV
 rw [es] at CA1 CB1
 clear es
 have es : Fr.of (adapt.gn m q s t 2) = ⟨v5, v6⟩ := congrArg light.Tri.z EV
 rw [es] at CA2 CB2
 clear es
 clear EU EV
 generalize diagM (List.replicate 3 Fr.one) = mi at *
 unfold light.Tri.v light.Tri.cells Fr.v at *
 dsimp only at W2 W3 O0 O1 SH M1 M2 G1 G2 CA0 CA1 CA2 CB0 CB1 CB2
 replace CA0 := Lib.hid CA0
 replace CB0 := Lib.hid CB0
 replace CA1 := Lib.hid CA1
 replace CB1 := Lib.hid CB1
 replace CA2 := Lib.hid CA2
 replace CB2 := Lib.hid CB2
 have wn : IntKind.i64.wrap (n % 4) = n % 4 := by unfold IntKind.wrap; simp [IntKind.bits]; omega
 have wn1 : IntKind.i64.wrap (1 + n % 4) = (m : Int) + 1 := by rw [en]; unfold IntKind.wrap; simp [IntKind.bits]; omega
 have tn : n.tmod 4 = n % 4 := Int.tmod_eq_emod_of_nonneg hn.1
 have wu : IntKind.u8.wrap (n % 4) = n % 4 := by unfold IntKind.wrap; simp [IntKind.bits]; omega
 clear ht hc hs ht' hn en q0 q1 hq
 go_enter Tryz.func8, Tryz.ntmps8
 go_wp2_with fail
 have hz : Below w.heap.size w (((w.alloc (.cells #[.int .u16 a0, .int .u16 a1, .int .u16 a2] 24)).alloc (.cells #[.int .u16 b0, .int .u16 b1, .int .u16 b2] 24)).alloc (.cells #[.int .i16 e0, .int .u8 e1] 31)) := belA
 obtain ⟨wq1, EW⟩ : ∃ y, (((w.alloc (.cells #[.int .u16 a0, .int .u16 a1, .int .u16 a2] 24)).alloc (.cells #[.int .u16 b0, .int .u16 b1, .int .u16 b2] 24)).alloc (.cells #[.int .i16 e0, .int .u8 e1] 31)) = y := ⟨_, rfl⟩
 have X1 : Hid (Box wq1 (w.heap.size) #[.int .u16 a0, .int .u16 a1, .int .u16 a2] 24) := Lib.hid (by rw [← EW]; exact Box.alloc (Box.alloc (Box.new _ _ _) _) _)
 have X2 : Hid (Box wq1 (w.heap.size + 1) #[.int .u16 b0, .int .u16 b1, .int .u16 b2] 24) := Lib.hid (by rw [← EW]; exact Box.alloc (Box.at1 _ _ _ _) _)
 have X3 : Hid (Box wq1 (w.heap.size + 1 + 1) #[.int .i16 e0, .int .u8 e1] 31) := Lib.hid (by rw [← EW]; exact Box.at2 _ _ _ _ _)
 rw [EW] at hz ⊢
 have hk2 := Bt (Below.refl _ _) hz
 clear EW hz
 refine (W1.out _ hk2).mono ?_
 rintro e wc3 ⟨rfl, hb3⟩
 replace X1 := Lib.hid (X1.out.later hb3)
 replace X2 := Lib.hid (X2.out.later hb3)
 replace X3 := Lib.hid (X3.out.later hb3)
 have hk5 := Bt hk2 hb3
 clear hk2
 clear hb3
 go_wp2_with fail
 have cX1 := X1.out.cell; have lX1 := X1.out.lt; have fX1 := X1.out.free
 have cX2 := X2.out.cell; have lX2 := X2.out.lt; have fX2 := X2.out.free
 refine wp_region_walk [(.pure, 0), (.pure, 1), (.pure, 2), (.pure, 3), (.read, 4), (.read, 6), (.ext, 5), (.ext, 7), (.alloc #[.string ⟨#[]⟩, .string ⟨#[]⟩, .string ⟨#[]⟩, .string ⟨#[]⟩, .string ⟨#[]⟩, .string ⟨#[]⟩] 38, 8), (.alloc #[.string ⟨#[]⟩, .string ⟨#[]⟩, .string ⟨#[]⟩, .string ⟨#[]⟩, .string ⟨#[]⟩, .string ⟨#[]⟩] 38, 9), (.fin, 10), (.fin, 11), (.fin, 12)] (by kernel_rfl) (by kernel_rfl) (allocRuns_of (by kernel_rfl)) (fun _ _ _ _ hd h => And.intro (hd.trans (And.left h)) (And.right h)) ?_
 repeat (first | (refine walk_pure0 rfl rfl (fun J hJ => ?_); go_simp; refine hJ _ ?_; clear hJ J) | (refine walk_load rfl rfl rfl rfl (fun J hJ => ?_); go_simp; refine hJ _ ?_; clear hJ J; try go_simp))
 refine walk_ext rfl rfl (fun we6 hb6 J hJ => ?_); go_simp
 have hh6 : Below wc3.heap.size wc3 we6 := belA
 clear hb6
 refine (W2.out _ (Bt hk5 hh6)).mono ?_
 rintro e wc7 ⟨rfl, hb7⟩
 refine hJ _ _ hb7 ?_
 clear hJ J
 have hh7 := Bt hh6 hb7
 clear hh6 hb7
 repeat (first | (refine walk_pure0 rfl rfl (fun J hJ => ?_); go_simp; refine hJ _ ?_; clear hJ J) | (refine walk_load rfl rfl rfl rfl (fun J hJ => ?_); go_simp; refine hJ _ ?_; clear hJ J; try go_simp))
 refine walk_ext rfl rfl (fun we9 hb9 J hJ => ?_); go_simp
 have hh9 : Below wc3.heap.size wc3 we9 := Bt hh7 belA
 clear hb9 hh7
 refine (W3.out _ (Bt hk5 hh9)).mono ?_
 rintro e wc10 ⟨rfl, hb10⟩
 refine hJ _ _ hb10 ?_
 clear hJ J
 have hh10 := Bt hh9 hb10
 clear hh9 hb10
 repeat (first | (refine walk_pure0 rfl rfl (fun J hJ => ?_); go_simp; refine hJ _ ?_; clear hJ J) | (refine walk_load rfl rfl rfl rfl (fun J hJ => ?_); go_simp; refine hJ _ ?_; clear hJ J; try go_simp))
 refine walk_alloc rfl (fun bk12 wa12 hwa12 hNbk12 hltbk12 hAbk12 hxbk12 => ?_); go_simp; replace hxbk12 : Box _ _ _ _ := hxbk12; have hWbk12 : w.heap.size ≤ bk12 := (by first | omega | exact Nat.le_trans (Below.size (B := w.heap.size) belA) hNbk12)
 refine walk_alloc rfl (fun bk13 wa13 hwa13 hNbk13 hltbk13 hAbk13 hxbk13 => ?_); go_simp; replace hxbk13 : Box _ _ _ _ := hxbk13; have hWbk13 : w.heap.size ≤ bk13 := (by first | omega | exact Nat.le_trans (Below.size (B := w.heap.size) belA) hNbk13)
 replace hxbk12 := Box.later hxbk12 hwa13
 have hne : bk12 ≠ bk13 := fun h => hAbk13 (by simp [h])
 have hne2 : bk13 ≠ bk12 := fun h => hne h.symm
 refine walk_fin [_, _, _] rfl (fun wf14 hf14 => ?_)
 have hh14 : Below wc3.heap.size wc3 wf14 := Bt hh10 belA
 have hq0 := hxbk12.later hf14; have cq0 := hq0.cell; have fq0 := hq0.free
 have hq1 := hxbk13.later hf14; have cq1 := hq1.cell; have fq1 := hq1.free
 clear hxbk12 hxbk13 hf14 hh10
 clear cX1 lX1 fX1 cX2 lX2 fX2
 go_wp2_with fail
 obtain ⟨wq15, EW⟩ : ∃ y, ((((((((((((wf14.setCell ⟨bk12, 0, none⟩ (.string x1)).setCell ⟨bk12, 1, none⟩ (.string x2)).setCell ⟨bk12, 2, none⟩ (.string x3)).setCell ⟨bk12, 3, none⟩ (.string x4)).setCell ⟨bk12, 4, none⟩ (.string x5)).setCell ⟨bk12, 5, none⟩ (.string x6)).setCell ⟨bk13, 0, none⟩ (.string y1)).setCell ⟨bk13, 1, none⟩ (.string y2)).setCell ⟨bk13, 2, none⟩ (.string y3)).setCell ⟨bk13, 3, none⟩ (.string y4)).setCell ⟨bk13, 4, none⟩ (.string y5)).setCell ⟨bk13, 5, none⟩ (.string y6)) = y := ⟨_, rfl⟩
 have hz : Below wc3.heap.size wc3 wq15 := by rw [← EW]; exact ((((((((((((hh14.setCell hNbk12 _).setCell hNbk12 _).setCell hNbk12 _).setCell hNbk12 _).setCell hNbk12 _).setCell hNbk12 _).setCell hNbk13 _).setCell hNbk13 _).setCell hNbk13 _).setCell hNbk13 _).setCell hNbk13 _).setCell hNbk13 _)
 have X4 : Hid (Box wq15 bk12 #[.string x1, .string x2, .string x3, .string x4, .string x5, .string x6] 38) := Lib.hid (by rw [← EW]; exact ((((((((((((hq0.set 0 _).set 1 _).set 2 _).set 3 _).set 4 _).set 5 _).setOther _ (by first | exact hne | exact hne2)).setOther _ (by first | exact hne | exact hne2)).setOther _ (by first | exact hne | exact hne2)).setOther _ (by first | exact hne | exact hne2)).setOther _ (by first | exact hne | exact hne2)).setOther _ (by first | exact hne | exact hne2)))
 have X5 : Hid (Box wq15 bk13 #[.string y1, .string y2, .string y3, .string y4, .string y5, .string y6] 38) := Lib.hid (by rw [← EW]; exact ((((((((((((hq1.setOther _ (by first | exact hne | exact hne2)).setOther _ (by first | exact hne | exact hne2)).setOther _ (by first | exact hne | exact hne2)).setOther _ (by first | exact hne | exact hne2)).setOther _ (by first | exact hne | exact hne2)).setOther _ (by first | exact hne | exact hne2)).set 0 _).set 1 _).set 2 _).set 3 _).set 4 _).set 5 _))
 rw [EW]
 clear EW hq0 cq0 fq0 hq1 cq1 fq1 hh14
 replace X1 := Lib.hid (X1.out.later hz)
 replace X2 := Lib.hid (X2.out.later hz)
 replace X3 := Lib.hid (X3.out.later hz)
 have hk16 := Bt hk5 hz
 clear hk5
 clear hz
 clear hwa12 hAbk12 hAbk13 hWbk12 hWbk13 hwa13
 have hlbk12 := hNbk12; have hlbk13 := hNbk13; clear hNbk12 hNbk13 hltbk12 hltbk13
 go_wp2_with fail
 refine (ID.out _ hk16).mono ?_
 rintro e wc17 ⟨hb17, v, rfl, hm, -⟩
 replace hm := hm rfl
 obtain ⟨paD, lD, caD, rfl⟩ := MatV.slice hm
 clear X1
 clear X2
 replace X3 := Lib.hid (X3.out.later hb17)
 replace X4 := Lib.hid (X4.out.later hb17)
 replace X5 := Lib.hid (X5.out.later hb17)
 have hk19 := Bt hk16 hb17
 clear hk16
 have ND := Lib.hid hm
 clear hb17 hm
 go_wp2_with fail
 have cX4 := X4.out.cell; have lX4 := X4.out.lt; have fX4 := X4.out.free
 have cX5 := X5.out.cell; have lX5 := X5.out.lt; have fX5 := X5.out.free
 refine wp_region_walk [(.pure, 0), (.read, 1), (.read, 2), (.ext, 3), (.ext, 4), (.pure, 5), (.pure, 6), (.pure, 7), (.fin, 8), (.fin, 9)] (by kernel_rfl) (by kernel_rfl) (allocRuns_of (by kernel_rfl)) (fun _ _ _ _ hd h => And.intro (hd.trans (And.left h)) (And.right h)) ?_
 repeat (first | (refine walk_pure0 rfl rfl (fun J hJ => ?_); go_simp; refine hJ _ ?_; clear hJ J) | (refine walk_load rfl rfl rfl rfl (fun J hJ => ?_); go_simp; refine hJ _ ?_; clear hJ J; try go_simp))
 refine walk_ext rfl rfl (fun we20 hb20 J hJ => ?_); go_simp
 have hh20 : Below wc17.heap.size wc17 we20 := belA
 clear hb20
 refine (O0.out _ (Bt hk19 hh20)).mono ?_
 rintro e wc21 ⟨rfl, hb21⟩
 refine hJ _ _ hb21 ?_
 clear hJ J
 have hh21 := Bt hh20 hb21
 clear hh20 hb21
 repeat (first | (refine walk_pure0 rfl rfl (fun J hJ => ?_); go_simp; refine hJ _ ?_; clear hJ J) | (refine walk_load rfl rfl rfl rfl (fun J hJ => ?_); go_simp; refine hJ _ ?_; clear hJ J; try go_simp))
 refine walk_ext rfl rfl (fun we23 hb23 J hJ => ?_); go_simp
 have hh23 : Below wc17.heap.size wc17 we23 := Bt hh21 belA
 clear hb23 hh21
 refine (M1.out _ (Bt hk19 hh23)).mono ?_
 rintro e wc24 ⟨hb24, v, rfl, hm, -⟩
 replace hm := hm rfl
 obtain ⟨paM, lM, caM, rfl⟩ := MatV.slice hm
 refine hJ _ _ hb24 ?_
 clear hJ J
 have hh24 := Bt hh23 hb24
 have NM := Lib.hid hm
 clear hh23 hb24 hm
 repeat (first | (refine walk_pure0 rfl rfl (fun J hJ => ?_); go_simp; refine hJ _ ?_; clear hJ J) | (refine walk_load rfl rfl rfl rfl (fun J hJ => ?_); go_simp; refine hJ _ ?_; clear hJ J; try go_simp))
 refine walk_fin [_, _] rfl (fun wf26 hf26 => ?_)
 replace NM := Lib.hid (NM.out.later (show Below wc24.heap.size wc24 wf26 from belA))
 have hh26 : Below wc17.heap.size wc17 wf26 := Bt hh24 belA
 clear hf26 hh24
 clear cX4 lX4 fX4 cX5 lX5 fX5
 replace X3 := Lib.hid (X3.out.later hh26)
 replace X4 := Lib.hid (X4.out.later hh26)
 replace X5 := Lib.hid (X5.out.later hh26)
 replace ND := Lib.hid (ND.out.later hh26)
 have hk27 := Bt hk19 hh26
 clear hk19
 clear hh26
 go_wp2_with fail
 have cX4 := X4.out.cell; have lX4 := X4.out.lt; have fX4 := X4.out.free
 have cX3 := X3.out.cell; have lX3 := X3.out.lt; have fX3 := X3.out.free
 refine wp_region_walk [(.pure, 0), (.read, 1), (.read, 2), (.read, 3), (.ext, 4), (.ext, 5), (.pure, 6), (.pure, 7), (.pure, 8), (.fin, 9), (.fin, 10)] (by kernel_rfl) (by kernel_rfl) (allocRuns_of (by kernel_rfl)) (fun _ _ _ _ hd h => And.intro (hd.trans (And.left h)) (And.right h)) ?_
 repeat (first | (refine walk_pure0 rfl rfl (fun J hJ => ?_); go_simp; refine hJ _ ?_; clear hJ J) | (refine walk_load rfl rfl rfl rfl (fun J hJ => ?_); go_simp; refine hJ _ ?_; clear hJ J; try go_simp))
 refine walk_ext rfl rfl (fun we28 hb28 J hJ => ?_); go_simp
 have hh28 : Below wf26.heap.size wf26 we28 := belA
 clear hb28
 refine (SH.out _ (Bt hk27 hh28)).mono ?_
 rintro e wc29 ⟨rfl, hb29⟩
 refine hJ _ _ hb29 ?_
 clear hJ J
 have hh29 := Bt hh28 hb29
 clear hh28 hb29
 repeat (first | (refine walk_pure0 rfl rfl (fun J hJ => ?_); go_simp; refine hJ _ ?_; clear hJ J) | (refine walk_load rfl rfl rfl rfl (fun J hJ => ?_); go_simp; refine hJ _ ?_; clear hJ J; try go_simp))
 refine walk_ext rfl rfl (fun we31 hb31 J hJ => ?_); go_simp
 have hh31 : Below wf26.heap.size wf26 we31 := Bt hh29 belA
 clear hb31 hh29
 refine (M2.out _ (Bt hk27 hh31)).mono ?_
 rintro e wc32 ⟨hb32, v, rfl, hm, -⟩
 replace hm := hm rfl
 obtain ⟨paN, lN, caN, rfl⟩ := MatV.slice hm
 refine hJ _ _ hb32 ?_
 clear hJ J
 have hh32 := Bt hh31 hb32
 have NN := Lib.hid hm
 clear hh31 hb32 hm
 repeat (first | (refine walk_pure0 rfl rfl (fun J hJ => ?_); go_simp; refine hJ _ ?_; clear hJ J) | (refine walk_load rfl rfl rfl rfl (fun J hJ => ?_); go_simp; refine hJ _ ?_; clear hJ J; try go_simp))
 refine walk_fin [_, _] rfl (fun wf34 hf34 => ?_)
 replace NN := Lib.hid (NN.out.later (show Below wc32.heap.size wc32 wf34 from belA))
 have hh34 : Below wf26.heap.size wf26 wf34 := Bt hh32 belA
 clear hf34 hh32
 clear cX4 lX4 fX4 cX3 lX3 fX3
 replace X3 := Lib.hid (X3.out.later hh34)
 replace X4 := Lib.hid (X4.out.later hh34)
 replace X5 := Lib.hid (X5.out.later hh34)
 replace ND := Lib.hid (ND.out.later hh34)
 replace NM := Lib.hid (NM.out.later hh34)
 have hk35 := Bt hk27 hh34
 clear hk27
 clear hh34
 go_wp2_with fail
 refine (matrix.Same_ok _ _ _ _ NM.out ND.out).mono ?_
 rintro e wc36 ⟨rfl, hb36⟩
 replace X3 := Lib.hid (X3.out.later hb36)
 replace X4 := Lib.hid (X4.out.later hb36)
 replace X5 := Lib.hid (X5.out.later hb36)
 replace ND := Lib.hid (ND.out.later hb36)
 replace NM := Lib.hid (NM.out.later hb36)
 replace NN := Lib.hid (NN.out.later hb36)
 have hk38 := Bt hk35 hb36
 clear hk35
 clear hb36
 go_wp2_with fail
 refine (matrix.Same_ok _ _ _ _ NN.out ND.out).mono ?_
 rintro e wc39 ⟨rfl, hb39⟩
 replace X3 := Lib.hid (X3.out.later hb39)
 replace X4 := Lib.hid (X4.out.later hb39)
 replace X5 := Lib.hid (X5.out.later hb39)
 replace ND := Lib.hid (ND.out.later hb39)
 replace NM := Lib.hid (NM.out.later hb39)
 replace NN := Lib.hid (NN.out.later hb39)
 have hk41 := Bt hk38 hb39
 clear hk38
 clear hb39
 go_wp2_with fail
 have cX4 := X4.out.cell; have lX4 := X4.out.lt; have fX4 := X4.out.free
 have cX5 := X5.out.cell; have lX5 := X5.out.lt; have fX5 := X5.out.free
 refine wp_region_walk [(.pure, 0), (.read, 1), (.read, 2), (.ext, 3), (.ext, 4), (.pure, 5), (.pure, 6), (.pure, 7), (.alloc #[.string ⟨#[]⟩, .string ⟨#[]⟩, .string ⟨#[]⟩, .string ⟨#[]⟩, .string ⟨#[]⟩, .string ⟨#[]⟩] 37, 8), (.fin, 9), (.fin, 10)] (by kernel_rfl) (by kernel_rfl) (allocRuns_of (by kernel_rfl)) (fun _ _ _ _ hd h => And.intro (hd.trans (And.left h)) (And.right h)) ?_
 repeat (first | (refine walk_pure0 rfl rfl (fun J hJ => ?_); go_simp; refine hJ _ ?_; clear hJ J) | (refine walk_load rfl rfl rfl rfl (fun J hJ => ?_); go_simp; refine hJ _ ?_; clear hJ J; try go_simp))
 refine walk_ext rfl rfl (fun we42 hb42 J hJ => ?_); go_simp
 have hh42 : Below wc39.heap.size wc39 we42 := belA
 clear hb42
 refine (O1.out _ (Bt hk41 hh42)).mono ?_
 rintro e wc43 ⟨rfl, hb43⟩
 refine hJ _ _ hb43 ?_
 clear hJ J
 have hh43 := Bt hh42 hb43
 clear hh42 hb43
 repeat (first | (refine walk_pure0 rfl rfl (fun J hJ => ?_); go_simp; refine hJ _ ?_; clear hJ J) | (refine walk_load rfl rfl rfl rfl (fun J hJ => ?_); go_simp; refine hJ _ ?_; clear hJ J; try go_simp))
 refine walk_ext rfl rfl (fun we45 hb45 J hJ => ?_); go_simp
 have hh45 : Below wc39.heap.size wc39 we45 := Bt hh43 belA
 clear hb45 hh43
 refine (G1.out _ (Bt hk41 hh45)).mono ?_
 rintro e wc46 ⟨rfl, hb46⟩
 refine hJ _ _ hb46 ?_
 clear hJ J
 have hh46 := Bt hh45 hb46
 clear hh45 hb46
 repeat (first | (refine walk_pure0 rfl rfl (fun J hJ => ?_); go_simp; refine hJ _ ?_; clear hJ J) | (refine walk_load rfl rfl rfl rfl (fun J hJ => ?_); go_simp; refine hJ _ ?_; clear hJ J; try go_simp))
 refine walk_alloc rfl (fun bk48 wa48 hwa48 hNbk48 hltbk48 hAbk48 hxbk48 => ?_); go_simp; replace hxbk48 : Box _ _ _ _ := hxbk48; have hWbk48 : w.heap.size ≤ bk48 := (by first | omega | exact Nat.le_trans (Below.size (B := w.heap.size) belA) hNbk48)
 refine walk_fin [_, _] rfl (fun wf49 hf49 => ?_)
 have hh49 : Below wc39.heap.size wc39 wf49 := Bt hh46 belA
 have hq0 := hxbk48.later hf49; have cq0 := hq0.cell; have fq0 := hq0.free
 clear hxbk48 hf49 hh46
 clear cX4 lX4 fX4 cX5 lX5 fX5
 go_wp2_with fail
 obtain ⟨wq50, EW⟩ : ∃ y, ((((((wf49.setCell ⟨bk48, 0, none⟩ (.string u1)).setCell ⟨bk48, 1, none⟩ (.string u2)).setCell ⟨bk48, 2, none⟩ (.string u3)).setCell ⟨bk48, 3, none⟩ (.string u4)).setCell ⟨bk48, 4, none⟩ (.string u5)).setCell ⟨bk48, 5, none⟩ (.string u6)) = y := ⟨_, rfl⟩
 have hz : Below wc39.heap.size wc39 wq50 := by rw [← EW]; exact ((((((hh49.setCell hNbk48 _).setCell hNbk48 _).setCell hNbk48 _).setCell hNbk48 _).setCell hNbk48 _).setCell hNbk48 _)
 have X6 : Hid (Box wq50 bk48 #[.string u1, .string u2, .string u3, .string u4, .string u5, .string u6] 37) := Lib.hid (by rw [← EW]; exact ((((((hq0.set 0 _).set 1 _).set 2 _).set 3 _).set 4 _).set 5 _))
 rw [EW]
 clear EW hq0 cq0 fq0 hh49
 replace X3 := Lib.hid (X3.out.later hz)
 replace X4 := Lib.hid (X4.out.later hz)
 replace X5 := Lib.hid (X5.out.later hz)
 clear ND
 clear NM
 clear NN
 have hk51 := Bt hk41 hz
 clear hk41
 clear hz
 clear hwa48 hNbk48 hltbk48 hAbk48 hWbk48
 go_wp2_with fail
 have cX4 := X4.out.cell; have lX4 := X4.out.lt; have fX4 := X4.out.free
 have cX5 := X5.out.cell; have lX5 := X5.out.lt; have fX5 := X5.out.free
 have cX3 := X3.out.cell; have lX3 := X3.out.lt; have fX3 := X3.out.free
 refine wp_region_walk [(.pure, 0), (.read, 1), (.read, 2), (.read, 3), (.ext, 4), (.ext, 5), (.pure, 6), (.pure, 7), (.pure, 8), (.alloc #[.string ⟨#[]⟩, .string ⟨#[]⟩, .string ⟨#[]⟩, .string ⟨#[]⟩, .string ⟨#[]⟩, .string ⟨#[]⟩] 37, 9), (.fin, 10), (.fin, 11)] (by kernel_rfl) (by kernel_rfl) (allocRuns_of (by kernel_rfl)) (fun _ _ _ _ hd h => And.intro (hd.trans (And.left h)) (And.right h)) ?_
 repeat (first | (refine walk_pure0 rfl rfl (fun J hJ => ?_); go_simp; refine hJ _ ?_; clear hJ J) | (refine walk_load rfl rfl rfl rfl (fun J hJ => ?_); go_simp; refine hJ _ ?_; clear hJ J; try go_simp))
 refine walk_ext rfl rfl (fun we52 hb52 J hJ => ?_); go_simp
 have hh52 : Below wq50.heap.size wq50 we52 := belA
 clear hb52
 refine (SH.out _ (Bt hk51 hh52)).mono ?_
 rintro e wc53 ⟨rfl, hb53⟩
 refine hJ _ _ hb53 ?_
 clear hJ J
 have hh53 := Bt hh52 hb53
 clear hh52 hb53
 repeat (first | (refine walk_pure0 rfl rfl (fun J hJ => ?_); go_simp; refine hJ _ ?_; clear hJ J) | (refine walk_load rfl rfl rfl rfl (fun J hJ => ?_); go_simp; refine hJ _ ?_; clear hJ J; try go_simp))
 refine walk_ext rfl rfl (fun we55 hb55 J hJ => ?_); go_simp
 have hh55 : Below wq50.heap.size wq50 we55 := Bt hh53 belA
 clear hb55 hh53
 refine (G2.out _ (Bt hk51 hh55)).mono ?_
 rintro e wc56 ⟨rfl, hb56⟩
 refine hJ _ _ hb56 ?_
 clear hJ J
 have hh56 := Bt hh55 hb56
 clear hh55 hb56
 repeat (first | (refine walk_pure0 rfl rfl (fun J hJ => ?_); go_simp; refine hJ _ ?_; clear hJ J) | (refine walk_load rfl rfl rfl rfl (fun J hJ => ?_); go_simp; refine hJ _ ?_; clear hJ J; try go_simp))
 refine walk_alloc rfl (fun bk58 wa58 hwa58 hNbk58 hltbk58 hAbk58 hxbk58 => ?_); go_simp; replace hxbk58 : Box _ _ _ _ := hxbk58; have hWbk58 : w.heap.size ≤ bk58 := (by first | omega | exact Nat.le_trans (Below.size (B := w.heap.size) belA) hNbk58)
 refine walk_fin [_, _] rfl (fun wf59 hf59 => ?_)
 have hh59 : Below wq50.heap.size wq50 wf59 := Bt hh56 belA
 have hq0 := hxbk58.later hf59; have cq0 := hq0.cell; have fq0 := hq0.free
 clear hxbk58 hf59 hh56
 clear cX4 lX4 fX4 cX5 lX5 fX5 cX3 lX3 fX3
 go_wp2_with fail
 obtain ⟨wq60, EW⟩ : ∃ y, ((((((wf59.setCell ⟨bk58, 0, none⟩ (.string v1)).setCell ⟨bk58, 1, none⟩ (.string v2)).setCell ⟨bk58, 2, none⟩ (.string v3)).setCell ⟨bk58, 3, none⟩ (.string v4)).setCell ⟨bk58, 4, none⟩ (.string v5)).setCell ⟨bk58, 5, none⟩ (.string v6)) = y := ⟨_, rfl⟩
 have hz : Below wq50.heap.size wq50 wq60 := by rw [← EW]; exact ((((((hh59.setCell hNbk58 _).setCell hNbk58 _).setCell hNbk58 _).setCell hNbk58 _).setCell hNbk58 _).setCell hNbk58 _)
 have X7 : Hid (Box wq60 bk58 #[.string v1, .string v2, .string v3, .string v4, .string v5, .string v6] 37) := Lib.hid (by rw [← EW]; exact ((((((hq0.set 0 _).set 1 _).set 2 _).set 3 _).set 4 _).set 5 _))
 rw [EW]
 clear EW hq0 cq0 fq0 hh59
 replace X3 := Lib.hid (X3.out.later hz)
 replace X4 := Lib.hid (X4.out.later hz)
 replace X5 := Lib.hid (X5.out.later hz)
 replace X6 := Lib.hid (X6.out.later hz)
 have hk61 := Bt hk51 hz
 clear hk51
 clear hz
 clear hwa58 hNbk58 hltbk58 hAbk58 hWbk58
 have HK := Lib.hid hk61
 obtain ⟨wl, Ewl⟩ : ∃ y, y = wq60 := ⟨_, rfl⟩
 subst Ewl
 go_wp2_with fail
 go_loopw [102] (fun iv wr => ∃ k : Nat, iv = .int .i64 (k : Int) ∧ k ≤ 3 ∧ Below wl.heap.size wl wr) (fun iv _ => 3 - (intOf iv).toNat)
 case atStart => exact ⟨0, rfl, by omega, Below.refl _ _⟩
 case round =>
  obtain ⟨k, rfl, hk, hb⟩ := hrel
  have x6 := X6.out.later hb
  have x7 := X7.out.later hb
  have c6 := x6.cell
  have l6 := x6.lt
  have c7 := x7.cell
  have l7 := x7.lt
  rcases Nat.lt_or_ge k 3 with hlt | hge
  ·have hk3 : k = 0 ∨ k = 1 ∨ k = 2 := by omega
   rcases hk3 with rfl | rfl | rfl
   ·go_wp2_with fail
    refine wp_region_walk [(.pure, 0), (.pure, 1), (.read, 2), (.ext, 3), (.ext, 4), (.pure, 5), (.pure, 6), (.pure, 7), (.fin, 8), (.fin, 9)] (by kernel_rfl) (by kernel_rfl) (allocRuns_of (by kernel_rfl)) (fun _ _ _ _ hd h => And.intro (hd.trans (And.left h)) (And.right h)) ?_
    repeat (first | (refine walk_pure0 rfl rfl (fun J hJ => ?_); go_simp; refine hJ _ ?_; clear hJ J) | (refine walk_load rfl rfl rfl rfl (fun J hJ => ?_); go_simp; refine hJ _ ?_; clear hJ J; try go_simp))
    refine walk_ext rfl rfl (fun wa hba J hJ => ?_); go_simp
    have h1 : Below wl.heap.size wl wa := Bt hb belA
    refine (O1.out _ (Bt HK.out h1)).mono ?_
    rintro e wb ⟨rfl, hbb⟩
    refine hJ _ _ hbb ?_
    clear hJ J
    have h2 := Bt h1 hbb
    repeat (first | (refine walk_pure0 rfl rfl (fun J hJ => ?_); go_simp; refine hJ _ ?_; clear hJ J) | (refine walk_load rfl rfl rfl rfl (fun J hJ => ?_); go_simp; refine hJ _ ?_; clear hJ J; try go_simp))
    refine walk_ext rfl rfl (fun wc hbc J hJ => ?_); go_simp
    have h3 : Below wl.heap.size wl wc := Bt h2 belA
    refine (CA0.out _ (Bt HK.out h3)).mono ?_
    rintro e wd ⟨rfl, hbd⟩
    refine hJ _ _ hbd ?_
    clear hJ J
    have h4 := Bt h3 hbd
    repeat (first | (refine walk_pure0 rfl rfl (fun J hJ => ?_); go_simp; refine hJ _ ?_; clear hJ J) | (refine walk_load rfl rfl rfl rfl (fun J hJ => ?_); go_simp; refine hJ _ ?_; clear hJ J; try go_simp))
    refine walk_fin [_, _] rfl (fun we hbe => ?_)
    have h5 : Below wl.heap.size wl we := Bt h4 belA
    clear c6 c7 l6 l7 x6 x7 h1 h2 h3 h4 hba hbb hbc hbd hbe
    have c6 := (X6.out.later h5).cell
    have l6 := (X6.out.later h5).lt
    have c7 := (X7.out.later h5).cell
    have l7 := (X7.out.later h5).lt
    go_wp2_with fail
    refine wp_region_walk [(.pure, 0), (.pure, 1), (.read, 2), (.pure, 3), (.pure, 4), (.read, 5), (.ext, 6), (.pure, 7), (.pure, 8), (.pure, 9), (.fin, 10), (.fin, 11)] (by kernel_rfl) (by kernel_rfl) (allocRuns_of (by kernel_rfl)) (fun _ _ _ _ hd h => And.intro (hd.trans (And.left h)) (And.right h)) ?_
    repeat (first | (refine walk_pure0 rfl rfl (fun J hJ => ?_); go_simp; refine hJ _ ?_; clear hJ J) | (refine walk_load rfl rfl rfl rfl (fun J hJ => ?_); go_simp; refine hJ _ ?_; clear hJ J; try go_simp))
    refine walk_ext rfl rfl (fun wf hbf J hJ => ?_); go_simp
    have h6 : Below wl.heap.size wl wf := Bt h5 belA
    refine (CB0.out _ (Bt HK.out h6)).mono ?_
    rintro e wg ⟨rfl, hbg⟩
    refine hJ _ _ hbg ?_
    clear hJ J
    have h7 := Bt h6 hbg
    repeat (first | (refine walk_pure0 rfl rfl (fun J hJ => ?_); go_simp; refine hJ _ ?_; clear hJ J) | (refine walk_load rfl rfl rfl rfl (fun J hJ => ?_); go_simp; refine hJ _ ?_; clear hJ J; try go_simp))
    refine walk_fin [_, _] rfl (fun wh hbh => ?_)
    have h8 : Below wl.heap.size wl wh := Bt h7 belA
    clear c6 c7 l6 l7 h5 h6 h7 hbf hbg hbh
    go_wp2_with fail
    go_roundw
    case rel => exact ⟨0 + 1, by go_num, by omega, h8⟩
    case measure => simp [intOf]
   ·go_wp2_with fail
    refine wp_region_walk [(.pure, 0), (.pure, 1), (.read, 2), (.ext, 3), (.ext, 4), (.pure, 5), (.pure, 6), (.pure, 7), (.fin, 8), (.fin, 9)] (by kernel_rfl) (by kernel_rfl) (allocRuns_of (by kernel_rfl)) (fun _ _ _ _ hd h => And.intro (hd.trans (And.left h)) (And.right h)) ?_
    repeat (first | (refine walk_pure0 rfl rfl (fun J hJ => ?_); go_simp; refine hJ _ ?_; clear hJ J) | (refine walk_load rfl rfl rfl rfl (fun J hJ => ?_); go_simp; refine hJ _ ?_; clear hJ J; try go_simp))
    refine walk_ext rfl rfl (fun wa hba J hJ => ?_); go_simp
    have h1 : Below wl.heap.size wl wa := Bt hb belA
    refine (O1.out _ (Bt HK.out h1)).mono ?_
    rintro e wb ⟨rfl, hbb⟩
    refine hJ _ _ hbb ?_
    clear hJ J
    have h2 := Bt h1 hbb
    repeat (first | (refine walk_pure0 rfl rfl (fun J hJ => ?_); go_simp; refine hJ _ ?_; clear hJ J) | (refine walk_load rfl rfl rfl rfl (fun J hJ => ?_); go_simp; refine hJ _ ?_; clear hJ J; try go_simp))
    refine walk_ext rfl rfl (fun wc hbc J hJ => ?_); go_simp
    have h3 : Below wl.heap.size wl wc := Bt h2 belA
    refine (CA1.out _ (Bt HK.out h3)).mono ?_
    rintro e wd ⟨rfl, hbd⟩
    refine hJ _ _ hbd ?_
    clear hJ J
    have h4 := Bt h3 hbd
    repeat (first | (refine walk_pure0 rfl rfl (fun J hJ => ?_); go_simp; refine hJ _ ?_; clear hJ J) | (refine walk_load rfl rfl rfl rfl (fun J hJ => ?_); go_simp; refine hJ _ ?_; clear hJ J; try go_simp))
    refine walk_fin [_, _] rfl (fun we hbe => ?_)
    have h5 : Below wl.heap.size wl we := Bt h4 belA
    clear c6 c7 l6 l7 x6 x7 h1 h2 h3 h4 hba hbb hbc hbd hbe
    have c6 := (X6.out.later h5).cell
    have l6 := (X6.out.later h5).lt
    have c7 := (X7.out.later h5).cell
    have l7 := (X7.out.later h5).lt
    go_wp2_with fail
    refine wp_region_walk [(.pure, 0), (.pure, 1), (.read, 2), (.pure, 3), (.pure, 4), (.read, 5), (.ext, 6), (.pure, 7), (.pure, 8), (.pure, 9), (.fin, 10), (.fin, 11)] (by kernel_rfl) (by kernel_rfl) (allocRuns_of (by kernel_rfl)) (fun _ _ _ _ hd h => And.intro (hd.trans (And.left h)) (And.right h)) ?_
    repeat (first | (refine walk_pure0 rfl rfl (fun J hJ => ?_); go_simp; refine hJ _ ?_; clear hJ J) | (refine walk_load rfl rfl rfl rfl (fun J hJ => ?_); go_simp; refine hJ _ ?_; clear hJ J; try go_simp))
    refine walk_ext rfl rfl (fun wf hbf J hJ => ?_); go_simp
    have h6 : Below wl.heap.size wl wf := Bt h5 belA
    refine (CB1.out _ (Bt HK.out h6)).mono ?_
    rintro e wg ⟨rfl, hbg⟩
    refine hJ _ _ hbg ?_
    clear hJ J
    have h7 := Bt h6 hbg
    repeat (first | (refine walk_pure0 rfl rfl (fun J hJ => ?_); go_simp; refine hJ _ ?_; clear hJ J) | (refine walk_load rfl rfl rfl rfl (fun J hJ => ?_); go_simp; refine hJ _ ?_; clear hJ J; try go_simp))
    refine walk_fin [_, _] rfl (fun wh hbh => ?_)
    have h8 : Below wl.heap.size wl wh := Bt h7 belA
    clear c6 c7 l6 l7 h5 h6 h7 hbf hbg hbh
    go_wp2_with fail
    go_roundw
    case rel => exact ⟨1 + 1, by go_num, by omega, h8⟩
    case measure => simp [intOf]
   ·go_wp2_with fail
    refine wp_region_walk [(.pure, 0), (.pure, 1), (.read, 2), (.ext, 3), (.ext, 4), (.pure, 5), (.pure, 6), (.pure, 7), (.fin, 8), (.fin, 9)] (by kernel_rfl) (by kernel_rfl) (allocRuns_of (by kernel_rfl)) (fun _ _ _ _ hd h => And.intro (hd.trans (And.left h)) (And.right h)) ?_
    repeat (first | (refine walk_pure0 rfl rfl (fun J hJ => ?_); go_simp; refine hJ _ ?_; clear hJ J) | (refine walk_load rfl rfl rfl rfl (fun J hJ => ?_); go_simp; refine hJ _ ?_; clear hJ J; try go_simp))
    refine walk_ext rfl rfl (fun wa hba J hJ => ?_); go_simp
    have h1 : Below wl.heap.size wl wa := Bt hb belA
    refine (O1.out _ (Bt HK.out h1)).mono ?_
    rintro e wb ⟨rfl, hbb⟩
    refine hJ _ _ hbb ?_
    clear hJ J
    have h2 := Bt h1 hbb
    repeat (first | (refine walk_pure0 rfl rfl (fun J hJ => ?_); go_simp; refine hJ _ ?_; clear hJ J) | (refine walk_load rfl rfl rfl rfl (fun J hJ => ?_); go_simp; refine hJ _ ?_; clear hJ J; try go_simp))
    refine walk_ext rfl rfl (fun wc hbc J hJ => ?_); go_simp
    have h3 : Below wl.heap.size wl wc := Bt h2 belA
    refine (CA2.out _ (Bt HK.out h3)).mono ?_
    rintro e wd ⟨rfl, hbd⟩
    refine hJ _ _ hbd ?_
    clear hJ J
    have h4 := Bt h3 hbd
    repeat (first | (refine walk_pure0 rfl rfl (fun J hJ => ?_); go_simp; refine hJ _ ?_; clear hJ J) | (refine walk_load rfl rfl rfl rfl (fun J hJ => ?_); go_simp; refine hJ _ ?_; clear hJ J; try go_simp))
    refine walk_fin [_, _] rfl (fun we hbe => ?_)
    have h5 : Below wl.heap.size wl we := Bt h4 belA
    clear c6 c7 l6 l7 x6 x7 h1 h2 h3 h4 hba hbb hbc hbd hbe
    have c6 := (X6.out.later h5).cell
    have l6 := (X6.out.later h5).lt
    have c7 := (X7.out.later h5).cell
    have l7 := (X7.out.later h5).lt
    go_wp2_with fail
    refine wp_region_walk [(.pure, 0), (.pure, 1), (.read, 2), (.pure, 3), (.pure, 4), (.read, 5), (.ext, 6), (.pure, 7), (.pure, 8), (.pure, 9), (.fin, 10), (.fin, 11)] (by kernel_rfl) (by kernel_rfl) (allocRuns_of (by kernel_rfl)) (fun _ _ _ _ hd h => And.intro (hd.trans (And.left h)) (And.right h)) ?_
    repeat (first | (refine walk_pure0 rfl rfl (fun J hJ => ?_); go_simp; refine hJ _ ?_; clear hJ J) | (refine walk_load rfl rfl rfl rfl (fun J hJ => ?_); go_simp; refine hJ _ ?_; clear hJ J; try go_simp))
    refine walk_ext rfl rfl (fun wf hbf J hJ => ?_); go_simp
    have h6 : Below wl.heap.size wl wf := Bt h5 belA
    refine (CB2.out _ (Bt HK.out h6)).mono ?_
    rintro e wg ⟨rfl, hbg⟩
    refine hJ _ _ hbg ?_
    clear hJ J
    have h7 := Bt h6 hbg
    repeat (first | (refine walk_pure0 rfl rfl (fun J hJ => ?_); go_simp; refine hJ _ ?_; clear hJ J) | (refine walk_load rfl rfl rfl rfl (fun J hJ => ?_); go_simp; refine hJ _ ?_; clear hJ J; try go_simp))
    refine walk_fin [_, _] rfl (fun wh hbh => ?_)
    have h8 : Below wl.heap.size wl wh := Bt h7 belA
    clear c6 c7 l6 l7 h5 h6 h7 hbf hbg hbh
    go_wp2_with fail
    go_roundw
    case rel => exact ⟨2 + 1, by go_num, by omega, h8⟩
    case measure => simp [intOf]
  ·have hk3 : k = 3 := by omega
   subst hk3
   clear c6 c7 l6 l7 x6 x7
   go_wp2_with fail
   refine (CN.out _ (Bt HK.out hb)).mono ?_
   rintro e wa ⟨hba, v, rfl, hm, -⟩
   replace hm := hm rfl
   obtain ⟨paC, lC, caC, rfl⟩ := MatV.slice hm
   have HM := Lib.hid hm
   have h1 := Bt hb hba
   clear hm hba hb
   have c4 := (X4.out.later h1).cell
   have l4 := (X4.out.later h1).lt
   go_wp2_with fail
   have hbx : Below wa.heap.size wa (wa.alloc (.cells #[.string x1, .string x2, .string x1, .string x2, .string x1, .string x2] 36)) := belA
   have h2 := Bt h1 hbx
   refine (EV4.out _ _ 36 _ (Bt HK.out h2) (HM.out.later hbx) (light.Tri.frs (t := ⟨⟨x1, x2⟩, ⟨x1, x2⟩, ⟨x1, x2⟩⟩) (Box.new _ _ _))).mono ?_
   rintro e wb ⟨vo, rfl, hbb, hf⟩
   have h3 := Bt h2 hbb
   obtain ⟨ao, co, rfl, -⟩ := hf.read
   obtain ⟨-, bo, off, rfl, lb, hcell⟩ := adapt.Frs.cells hf (by simp)
   have hc0 := hcell 0 (by simp)
   have hc1 := hcell 1 (by simp)
   have hc2 := hcell 2 (by simp)
   simp only [List.getElem_cons_zero, List.getElem_cons_succ, Nat.zero_mul, Nat.add_zero] at hc0 hc1 hc2
   obtain ⟨y1, y2⟩ := hc0
   obtain ⟨y3, y4⟩ := hc1
   obtain ⟨y5, y6⟩ := hc2
   clear hf hcell c4 l4 hbb h1 h2 hbx
   have c4 := (X4.out.later h3).cell
   have l4 := (X4.out.later h3).lt
   go_wp2_with fail
   refine wp_region_walk [(.pure, 0), (.pure, 1), (.pure, 2), (.pure, 3), (.pure, 4), (.pure, 5), (.pure, 6), (.pure, 7), (.pure, 8), (.pure, 9), (.pure, 10), (.pure, 11), (.pure, 12), (.pure, 13), (.pure, 14), (.pure, 15), (.pure, 16), (.pure, 17), (.pure, 18), (.pure, 19), (.pure, 20), (.pure, 21), (.read, 22), (.pure, 23), (.read, 24), (.pure, 25), (.pure, 26), (.pure, 27), (.pure, 28), (.pure, 29), (.read, 30), (.pure, 31), (.read, 32), (.pure, 33), (.pure, 34), (.pure, 35), (.pure, 36), (.pure, 37), (.read, 38), (.pure, 39), (.read, 40), (.pure, 41), (.pure, 42), (.fin, 43)] (by kernel_rfl) (by kernel_rfl) (allocRuns_of (by kernel_rfl)) (fun _ _ _ _ hd h => And.intro (hd.trans (And.left h)) (And.right h)) ?_
   repeat (first | (refine walk_pure0 rfl rfl (fun J hJ => ?_); go_simp; refine hJ _ ?_; clear hJ J) | (refine walk_load rfl rfl rfl rfl (fun J hJ => ?_); go_simp; refine hJ _ ?_; clear hJ J; try go_simp) | (refine walk_pureG rfl rfl (fun J hJ => ?_); go_simp; refine hJ _ ?_; clear hJ J) | (refine walk_loadG rfl rfl rfl rfl (fun J hJ => ?_); go_simp; refine hJ _ ?_; clear hJ J; try go_simp))
   refine walk_fin [_] rfl (fun wc hbc => ?_)
   go_wp2_with fail
   go_ret
   exact ⟨rfl, Bt HK.out (Bt h3 belA)⟩
end Go.Proofs.verdigrislaw25
namespace Go.Proofs.YtddblpggomphpaaGreatDoor
open Go Go.ChangeShapes Go.WideShapes Go.ChangeAt Go.RowKit Go.Proofs
theorem own : ownKnob Tryz.prog.godebug = none := by kernel_rfl
/-- The door's own heap meets the condition. -/
theorem door_met (os : Os) (args : Array Value) : laidMetH Tryz.prog Rows.adaptStaysRow.laid ((World.doorLaid Tryz.prog 4000 os).forCall (fun _ _ => 0) ⟨#[], args, []⟩).memory := by
 rw [MakeChecks.laidMetH_plain _ _ _ (by kernel_rfl)]
 exact laidMet_of_run' 8 (by kernel_rfl) (by kernel_rfl)
def NumV (v : Value) (a b : Int) : Prop := v = .agg #[.int .i16 a, .int .u8 b] ∧ (-32768 ≤ a ∧ a ≤ 32767) ∧ (0 ≤ b ∧ b ≤ 255)
theorem i16_wf {n : Int} (h : (Lit.int .i16 n).wf = true) : -32768 ≤ n ∧ n ≤ 32767 := by
 simp [Lit.wf, IntKind.min, IntKind.max, IntKind.signed, IntKind.bits] at h
 omega
set_option maxRecDepth 100000 in
theorem open_num {H : Type} {enc : TypeId × Value → H} {W : World} {b0 base : Nat} {sp : Nat → Bool} {held : Bool} {v : Value} {d : DataW H} {p : List MemPlace}
  (hval : Value.okWide Tryz.prog W .any b0 31 v) (h : DataW.Trod enc Tryz.prog W base sp held 31 v d p) :
  ∃ a b, NumV v a b ∧ p = [] ∧ ∀ (W' : World) (base' : Nat) (sp' : Nat → Bool) (held' : Bool), DataW.Trod enc Tryz.prog W' base' sp' held' 31 v d [] := by
 have u0 : Tryz.prog.underlying 29 = some (.int .i16) := Tryz.underlying29
 have u1 : Tryz.prog.underlying 5 = some (.int .u8) := Tryz.underlying5
 have ut := Tryz.underlying31
 have c0 : Tryz.prog.cellsOf 29 = 1 := by kernel_rfl
 have c1 : Tryz.prog.cellsOf 5 = 1 := by kernel_rfl
 have ct : Tryz.prog.cellsOf 31 = 2 := by kernel_rfl
 obtain ⟨cs, rfl, hsz, -⟩ : ∃ cs, v = .agg cs ∧ cs.size = Tryz.prog.cellsOf 31 ∧ Row.okWide Tryz.prog W .any b0 31 cs := by
  simpa [Value.okWide, ut] using hval
 rw [ct] at hsz
 obtain ⟨l⟩ := cs
 obtain ⟨x0, x1, rfl⟩ : ∃ x0 x1, l = [x0, x1] := by
  match l, hsz with
  | [x0, x1], _ => exact ⟨x0, x1, rfl⟩
 obtain ⟨fuel, hf⟩ := h
 obtain ⟨y0, y1, m, hx, hl, hy0, hy1⟩ := trod_struct2 ut hf
 simp only [c0, c1] at hy0 hy1
 obtain ⟨z0, e0, rfl, w0⟩ := DataW.trod_int u0 hy0
 obtain ⟨z1, e1, rfl, w1⟩ := DataW.trod_int u1 hy1
 replace e0 : [x0] = [Value.int .i16 z0] := e0
 replace e1 : [x1] = [Value.int .u8 z1] := e1
 simp only [List.cons.injEq, and_true] at e0 e1
 subst e0 e1
 simp only [Prod.mk.injEq] at hx
 obtain ⟨rfl, rfl⟩ := hx
 refine ⟨z0, z1, ⟨rfl, i16_wf w0, u8_wf w1⟩, by simp, fun W' base' sp' held' => ⟨2, ?_⟩⟩
 have := trod_struct2_mk (enc := enc) (w := W') (base := base') (spare := sp') (held := held') (n := 1) (cs := [.int .i16 z0, .int .u8 z1]) (y0 := (.lit (.int .i16 z0), [])) (y1 := (.lit (.int .u8 z1), [])) ut (by simp [ct])
  (by simpa [c0] using trod_int_mk (enc := enc) (w := W') (base := base') (spare := sp') (held := held') 0 u0 w0) (by simpa [c1] using trod_int_mk (enc := enc) (w := W') (base := base') (spare := sp') (held := held') 0 u1 w1)
 simp at this
 exact this
theorem stays_ok {n a0 a1 a2 b0 b1 b2 c0 c1 : Int} {va vb vc : Value} (hn : 0 ≤ n ∧ n ≤ 255) (ca : Col va a0 a1 a2) (cb : Col vb b0 b1 b2) (cc : NumV vc c0 c1) (w : World) (ht : Bld.Pow w) (hc : adapt.Cones w) :
  Calls Tryz.prog 8 #[.int .u8 n, va, vb, vc] w (fun e w' => e = .returned (.bool true) ∧ Below w.heap.size w w') := by
 obtain ⟨rfl, ka, kb, kc⟩ := ca
 obtain ⟨rfl, la, lb, lc⟩ := cb
 obtain ⟨rfl, ma, mb⟩ := cc
 obtain ⟨s, hs, W2⟩ := verdigrislaw25.rets_white a0 a1 a2 ka kb kc w
 obtain ⟨t, ht', W3⟩ := verdigrislaw25.rets_white b0 b1 b2 la lb lc w
 obtain ⟨q, q0, q1, hq, hsh⟩ := verdigrisref23.Share_ok c0 c1 ma mb
 have SH : verdigrislaw25.Ret w 14 #[.agg #[.int .i16 c0, .int .u8 c1]] (Fra.Fr.of q).v := fun W _ => hsh W
 have hm : (n % 4).toNat < 4 := by omega
 have en : 1 + n % 4 = (((n % 4).toNat : Nat) : Int) + 1 := by omega
 cases z1 : adapt.zero3 (adapt.resp (n % 4).toNat s)
 ·exact verdigrislaw25.AdaptStays_b n a0 a1 a2 b0 b1 b2 c0 c1 s t q _ hm hn en hs ht' q0 q1 hq w ht hc W2 W3 SH z1
 ·exact verdigrislaw25.AdaptStays_a n a0 a1 a2 b0 b1 b2 c0 c1 s t q _ hm hn en hs ht' q0 q1 hq w ht hc W2 W3 SH z1
theorem args4 {H : Type} {enc : TypeId × Value → H} {P : Program} {w : World} {base : Nat} {sp : Nat → Bool} {held : Bool} {t t1 t2 t3 : TypeId} {args : Array Value} {ds : List (DataW H)} {ps : List MemPlace} (h : DataW.TrodAll enc P w base sp held [t, t1, t2, t3] args.toList ds ps) :
  ∃ v v1 v2 v3 d d1 d2 d3 p p1 p2 p3, args = #[v, v1, v2, v3] ∧ ds = [d, d1, d2, d3] ∧ ps = p ++ p1 ++ p2 ++ p3 ∧ DataW.Trod enc P w base sp held t v d p ∧ DataW.Trod enc P w base sp held t1 v1 d1 p1 ∧ DataW.Trod enc P w base sp held t2 v2 d2 p2 ∧ DataW.Trod enc P w base sp held t3 v3 d3 p3 := by
 obtain ⟨v, vs, d, ds1, p, q, hargs, rfl, rfl, hd, hrest⟩ := trodAll_cons h
 obtain ⟨v1, vs1, d1, ds2, p1, q1, rfl, rfl, rfl, hd1, hrest1⟩ := trodAll_cons hrest
 obtain ⟨v2, vs2, d2, ds3, p2, q2, rfl, rfl, rfl, hd2, hrest2⟩ := trodAll_cons hrest1
 obtain ⟨v3, vs3, d3, ds4, p3, q3, rfl, rfl, rfl, hd3, hrest3⟩ := trodAll_cons hrest2
 obtain ⟨rfl, rfl, rfl⟩ := trodAll_nil hrest3
 exact ⟨v, v1, v2, v3, d, d1, d2, d3, p, p1, p2, p3, by cases args; simp_all, rfl, by simp, hd, hd1, hd2, hd3⟩
set_option maxRecDepth 100000 in
theorem adaptStays_lifted (os : Os) (started : os.Started) (H : Type) (enc : TypeId × Value → H) :
  ReturnsInHanded {} Tryz.checked os 8 .any (fun w args => (Rows.adaptStaysSpec.pre enc Tryz.prog Tryz.f8 [] false w args ∧ laidMetH Tryz.prog Rows.adaptStaysRow.laid w) ∧ sizedMet enc Tryz.prog Tryz.f8 (OpenSpec.ofChange Rows.adaptStaysSpec) false w args)
   (Rows.adaptStaysSpec.post enc Tryz.prog Tryz.f8 false true false false) := by
 refine returnsInHanded_of_change_and (C := Tryz.checked) (X := fun w _ => laidMetH Tryz.prog Rows.adaptStaysRow.laid w) (fun _ _ _ hh h => h.of_heap hh) own started (by kernel_rfl) Tryz.func8
  (ChangeSpec.witness_shaped (enc := enc) (C := Tryz.checked) (os := os) (X := fun w _ => laidMetH Tryz.prog Rows.adaptStaysRow.laid w) false (World.doorLaid Tryz.prog 4000 os) #[.int .u8 0, .agg #[.int .u16 0, .int .u16 0, .int .u16 0], .agg #[.int .u16 0, .int .u16 0, .int .u16 0], .agg #[.int .i16 0, .int .u8 0]] 8 rfl (World.shaped_of_RefB (by kernel_rfl) (by kernel_rfl)) (by kernel_rfl) (by kernel_rfl) (by kernel_rfl) (door_met os _)) ?_
 intro W base args ds gs before hval0 hW _ _ hL _
 have hW' := hW
 obtain ⟨p, q, hA0, hV, rfl, hfz, hnd⟩ := hW
 have hA : DataW.TrodAll enc Tryz.prog W 0 (fun _ => true) true Tryz.f8.params.toList args.toList ds p := hA0
 rw [Tryz.params8] at hA
 have hval : ∀ (j : Nat) t v, Tryz.f8.params[j]? = some t → args[j]? = some v → Value.okWide Tryz.prog W .any base t v := hval0
 rw [Tryz.params8] at hval
 obtain ⟨v0, v1, v2, v3, d0, d1, d2, d3, p0, p1, p2, p3, rfl, rfl, rfl, h0, h1, h2, h3⟩ := args4 hA
 obtain ⟨rfl, rfl⟩ := trodVars_none hV
 obtain ⟨n, rfl, rfl, rfl, wn⟩ := open_int Tryz.underlying5 (hval 0 5 v0 rfl rfl) h0
 obtain ⟨a0, a1, a2, ca, rfl, ra⟩ := open_colour (hval 1 24 v1 rfl rfl) h1
 obtain ⟨b0, b1, b2, cb, rfl, rb⟩ := open_colour (hval 2 24 v2 rfl rfl) h2
 obtain ⟨c0, c1, cc, rfl, rc⟩ := open_num (hval 3 31 v3 rfl rfl) h3
 obtain ⟨hp, hc⟩ := of_laid hL
 refine (stays_ok (u8_wf wn) ca cb cc W hp hc).mono fun e W' ⟨he, hb⟩ => ?_
 subst he
 refine ⟨_, rfl, _, _, _, [], [], [], hW', ?_, ?_, ?_, hb.frame _, fun h => by cases h⟩
 ·exact trodAll_mk1 (shut_bool Tryz.underlying4 true)
 ·exact ⟨_, _, shut_int Tryz.underlying5 wn, trodAll_mk3 (ra _ _ _ _) (rb _ _ _ _) (rc _ _ _ _), rfl⟩
 ·rfl
theorem adaptStays_holds : Rows.AdaptStaysSaid :=
 OpenClaim.holds_of_wide 8 Tryz.f8 rfl rfl rfl rfl rfl rfl rfl ⟨rfl, rfl, rfl, rfl, rfl⟩ rfl rfl rfl rfl rfl (by kernel_rfl) Tryz.func8 (by kernel_rfl)
  (of_decide_eq_true (by kernel_rfl)) (by unfold Func.isWrapper; first | (rw [if_pos (by decide +kernel)]; kernel_rfl) | (rw [if_neg (by decide +kernel)]; exact ⟨rfl, rfl⟩))
  (fun os started H enc _ => adaptStays_lifted os started H enc)
theorem wants8 : Tryz.prog.wantsStandIn 5 = false := by kernel_rfl
theorem wantsN : Tryz.prog.wantsStandIn 31 = false := by kernel_rfl
theorem wantsC : Tryz.prog.wantsStandIn 24 = false := by kernel_rfl
theorem adaptStays_card : Rows.AdaptStaysCardSaid :=
 Claim7.holds_tied_plain_at .later [] [.data, .data, .data, .data] true (true, "50e1582605f5adda48684425b8549e6e38f1d8943c6eb8551d2394c5aed60ef4") true
  adaptStays_holds (fun _ h => by cases h) (by kernel_rfl) (fun _ h => by cases h) adaptStays_row_tie rfl ⟨rfl, rfl⟩ (by kernel_rfl) rfl
  (fun f fn hf hfn => by
   obtain rfl : f = 8 := Option.some.inj ((show Tryz.prog.funcNamed "verdigris/verdigrislaw25.AdaptStays" = some 8 by kernel_rfl).symm.trans hf) |>.symm
   obtain rfl : fn = Tryz.f8 := (Option.some.inj (Tryz.func8.symm.trans hfn)).symm
   exact ⟨by kernel_rfl, fun j t ht => by
    rw [Tryz.params8] at ht
    have ht' : t = 5 ∨ t = 24 ∨ t = 31 := by
     rcases j with _ | _ | _ | _ | j <;> simp at ht
     ·exact .inl ht.symm
     ·exact .inr (.inl ht.symm)
     ·exact .inr (.inl ht.symm)
     ·exact .inr (.inr ht.symm)
    rcases ht' with rfl | rfl | rfl
    ·exact wants8
    ·exact wantsC
    ·exact wantsN⟩)
  (by kernel_rfl)
end Go.Proofs.YtddblpggomphpaaGreatDoor
