/- verdigrislaw25.AdaptChains returns true. Conditions: those of the given row. -/
import Derived.Test.YtddblpggomphpaaGreatDoorZB11
import Derived.Test.YtddblpggomphpaaGreatDoorZD01
import Derived.Test.YtddblpggomphpaaGreatDoorZD03
import Derived.Test.YtddblpggomphpaaGreatDoorCards
import Derived.Test.YtddblpggomphpaaGreatDoorTie
import Derived.ChangeSame
import Derived.ChangeVars
import Derived.JoinedOf
import Derived.SevenTiedAt
set_option linter.unusedVariables false
set_option linter.unusedSimpArgs false
namespace Go.Proofs.YtddblpggomphpaaGreatDoor
open Go Go.ChangeShapes Go.WideShapes Go.ChangeAt Go.RowKit Go.Proofs
theorem own : ownKnob Tryz.prog.godebug = none := by kernel_rfl
/-- The door's own heap meets the condition. -/
theorem door_met (os : Os) (args : Array Value) : laidMetH Tryz.prog Rows.adaptChainsRow.laid ((World.doorLaid Tryz.prog 4000 os).forCall (fun _ _ => 0) ⟨#[], args, []⟩).memory := by
 rw [MakeChecks.laidMetH_plain _ _ _ (by kernel_rfl)]
 exact laidMet_of_run' 8 (by kernel_rfl) (by kernel_rfl)
theorem chains_ok {n a0 a1 a2 b0 b1 b2 c0 c1 c2 : Int} {va vb vc : Value} (hn : 0 ≤ n ∧ n ≤ 255) (ca : Col va a0 a1 a2) (cb : Col vb b0 b1 b2) (cc : Col vc c0 c1 c2) (w : World) (ht : Bld.Pow w) (hc : adapt.Cones w) :
  Calls Tryz.prog 6 #[.int .u8 n, va, vb, vc] w (fun e w' => e = .returned (.bool true) ∧ Below w.heap.size w w') := by
 obtain ⟨rfl, ka, kb, kc⟩ := ca
 obtain ⟨rfl, la, lb, lc⟩ := cb
 obtain ⟨rfl, ma, mb, mc⟩ := cc
 obtain ⟨s, hs, W2⟩ := verdigrislaw25.rets_white a0 a1 a2 ka kb kc w
 obtain ⟨t, ht', W3⟩ := verdigrislaw25.rets_white b0 b1 b2 la lb lc w
 obtain ⟨u, hu, W4⟩ := verdigrislaw25.rets_white c0 c1 c2 ma mb mc w
 have hm : (n % 4).toNat < 4 := by omega
 have en : 1 + n % 4 = (((n % 4).toNat : Nat) : Int) + 1 := by omega
 cases z1 : adapt.zero3 (adapt.resp (n % 4).toNat s) <;> cases z2 : adapt.zero3 (adapt.resp (n % 4).toNat t)
 ·exact verdigrislaw25.AdaptChains_d n a0 a1 a2 b0 b1 b2 c0 c1 c2 s t u _ hm hn en hs ht' hu w ht hc W2 W3 W4 z1 z2
 ·exact verdigrislaw25.AdaptChains_c n a0 a1 a2 b0 b1 b2 c0 c1 c2 s t u _ hm hn en hs ht' hu w ht hc W2 W3 W4 z1 z2
 ·exact verdigrislaw25.AdaptChains_b n a0 a1 a2 b0 b1 b2 c0 c1 c2 s t u _ hm hn en hs ht' hu w ht hc W2 W3 W4 z1 z2
 ·exact verdigrislaw25.AdaptChains_a n a0 a1 a2 b0 b1 b2 c0 c1 c2 s t u _ hm hn en hs ht' hu w ht hc W2 W3 W4 z1 z2
theorem args4 {H : Type} {enc : TypeId × Value → H} {P : Program} {w : World} {base : Nat} {sp : Nat → Bool} {held : Bool} {t t1 t2 t3 : TypeId} {args : Array Value} {ds : List (DataW H)} {ps : List MemPlace} (h : DataW.TrodAll enc P w base sp held [t, t1, t2, t3] args.toList ds ps) :
  ∃ v v1 v2 v3 d d1 d2 d3 p p1 p2 p3, args = #[v, v1, v2, v3] ∧ ds = [d, d1, d2, d3] ∧ ps = p ++ p1 ++ p2 ++ p3 ∧ DataW.Trod enc P w base sp held t v d p ∧ DataW.Trod enc P w base sp held t1 v1 d1 p1 ∧ DataW.Trod enc P w base sp held t2 v2 d2 p2 ∧ DataW.Trod enc P w base sp held t3 v3 d3 p3 := by
 obtain ⟨v, vs, d, ds1, p, q, hargs, rfl, rfl, hd, hrest⟩ := trodAll_cons h
 obtain ⟨v1, vs1, d1, ds2, p1, q1, rfl, rfl, rfl, hd1, hrest1⟩ := trodAll_cons hrest
 obtain ⟨v2, vs2, d2, ds3, p2, q2, rfl, rfl, rfl, hd2, hrest2⟩ := trodAll_cons hrest1
 obtain ⟨v3, vs3, d3, ds4, p3, q3, rfl, rfl, rfl, hd3, hrest3⟩ := trodAll_cons hrest2
 obtain ⟨rfl, rfl, rfl⟩ := trodAll_nil hrest3
 exact ⟨v, v1, v2, v3, d, d1, d2, d3, p, p1, p2, p3, by cases args; simp_all, rfl, by simp, hd, hd1, hd2, hd3⟩
set_option maxRecDepth 100000 in
theorem adaptChains_lifted (os : Os) (started : os.Started) (H : Type) (enc : TypeId × Value → H) :
  ReturnsInHanded {} Tryz.checked os 6 .any (fun w args => (Rows.adaptChainsSpec.pre enc Tryz.prog Tryz.f6 [] false w args ∧ laidMetH Tryz.prog Rows.adaptChainsRow.laid w) ∧ sizedMet enc Tryz.prog Tryz.f6 (OpenSpec.ofChange Rows.adaptChainsSpec) false w args)
   (Rows.adaptChainsSpec.post enc Tryz.prog Tryz.f6 false true false false) := by
 refine returnsInHanded_of_change_and (C := Tryz.checked) (X := fun w _ => laidMetH Tryz.prog Rows.adaptChainsRow.laid w) (fun _ _ _ hh h => h.of_heap hh) own started (by kernel_rfl) Tryz.func6
  (ChangeSpec.witness_shaped (enc := enc) (C := Tryz.checked) (os := os) (X := fun w _ => laidMetH Tryz.prog Rows.adaptChainsRow.laid w) false (World.doorLaid Tryz.prog 4000 os) #[.int .u8 0, .agg #[.int .u16 0, .int .u16 0, .int .u16 0], .agg #[.int .u16 0, .int .u16 0, .int .u16 0], .agg #[.int .u16 0, .int .u16 0, .int .u16 0]] 8 rfl (World.shaped_of_RefB (by kernel_rfl) (by kernel_rfl)) (by kernel_rfl) (by kernel_rfl) (by kernel_rfl) (door_met os _)) ?_
 intro W base args ds gs before hval0 hW _ _ hL _
 have hW' := hW
 obtain ⟨p, q, hA0, hV, rfl, hfz, hnd⟩ := hW
 have hA : DataW.TrodAll enc Tryz.prog W 0 (fun _ => true) true Tryz.f6.params.toList args.toList ds p := hA0
 rw [Tryz.params6] at hA
 have hval : ∀ (j : Nat) t v, Tryz.f6.params[j]? = some t → args[j]? = some v → Value.okWide Tryz.prog W .any base t v := hval0
 rw [Tryz.params6] at hval
 obtain ⟨v0, v1, v2, v3, d0, d1, d2, d3, p0, p1, p2, p3, rfl, rfl, rfl, h0, h1, h2, h3⟩ := args4 hA
 obtain ⟨rfl, rfl⟩ := trodVars_none hV
 obtain ⟨n, rfl, rfl, rfl, wn⟩ := open_int Tryz.underlying5 (hval 0 5 v0 rfl rfl) h0
 obtain ⟨a0, a1, a2, ca, rfl, ra⟩ := open_colour (hval 1 24 v1 rfl rfl) h1
 obtain ⟨b0, b1, b2, cb, rfl, rb⟩ := open_colour (hval 2 24 v2 rfl rfl) h2
 obtain ⟨c0, c1, c2, cc, rfl, rc⟩ := open_colour (hval 3 24 v3 rfl rfl) h3
 obtain ⟨hp, hc⟩ := of_laid hL
 refine (chains_ok (u8_wf wn) ca cb cc W hp hc).mono fun e W' ⟨he, hb⟩ => ?_
 subst he
 refine ⟨_, rfl, _, _, _, [], [], [], hW', ?_, ?_, ?_, hb.frame _, fun h => by cases h⟩
 ·exact trodAll_mk1 (shut_bool Tryz.underlying4 true)
 ·exact ⟨_, _, shut_int Tryz.underlying5 wn, trodAll_mk3 (ra _ _ _ _) (rb _ _ _ _) (rc _ _ _ _), rfl⟩
 ·rfl
theorem adaptChains_holds : Rows.AdaptChainsSaid :=
 OpenClaim.holds_of_wide 6 Tryz.f6 rfl rfl rfl rfl rfl rfl rfl ⟨rfl, rfl, rfl, rfl, rfl⟩ rfl rfl rfl rfl rfl (by kernel_rfl) Tryz.func6 (by kernel_rfl)
  (of_decide_eq_true (by kernel_rfl)) (by unfold Func.isWrapper; first | (rw [if_pos (by decide +kernel)]; kernel_rfl) | (rw [if_neg (by decide +kernel)]; exact ⟨rfl, rfl⟩))
  (fun os started H enc _ => adaptChains_lifted os started H enc)
theorem wants8 : Tryz.prog.wantsStandIn 5 = false := by kernel_rfl
theorem wantsC : Tryz.prog.wantsStandIn 24 = false := by kernel_rfl
theorem adaptChains_card : Rows.AdaptChainsCardSaid :=
 Claim7.holds_tied_plain_at .later [] [.data, .data, .data, .data] true (true, "50e1582605f5adda48684425b8549e6e38f1d8943c6eb8551d2394c5aed60ef4") true
  adaptChains_holds (fun _ h => by cases h) (by kernel_rfl) (fun _ h => by cases h) adaptChains_row_tie rfl ⟨rfl, rfl⟩ (by kernel_rfl) rfl
  (fun f fn hf hfn => by
   obtain rfl : f = 6 := Option.some.inj ((show Tryz.prog.funcNamed "verdigris/verdigrislaw25.AdaptChains" = some 6 by kernel_rfl).symm.trans hf) |>.symm
   obtain rfl : fn = Tryz.f6 := (Option.some.inj (Tryz.func6.symm.trans hfn)).symm
   exact ⟨by kernel_rfl, fun j t ht => by
    rw [Tryz.params6] at ht
    have ht' : t = 5 ∨ t = 24 := by
     rcases j with _ | _ | _ | _ | j <;> simp at ht
     ·exact .inl ht.symm
     ·exact .inr ht.symm
     ·exact .inr ht.symm
     ·exact .inr ht.symm
    rcases ht' with rfl | rfl
    ·exact wants8
    ·exact wantsC⟩)
  (by kernel_rfl)
end Go.Proofs.YtddblpggomphpaaGreatDoor
