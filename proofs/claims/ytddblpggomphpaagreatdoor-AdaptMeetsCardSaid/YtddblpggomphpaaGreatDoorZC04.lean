/- verdigrislaw25.AdaptMeets returns true. Conditions: those of the given row. -/
import Derived.Test.YtddblpggomphpaaGreatDoorZB11
import Derived.Test.YtddblpggomphpaaGreatDoorZC01
import Derived.Test.YtddblpggomphpaaGreatDoorZC02
import Derived.Test.YtddblpggomphpaaGreatDoorZC03
import Derived.Test.YtddblpggomphpaaGreatDoorCards
import Derived.Test.YtddblpggomphpaaGreatDoorTie
import Derived.ChangeSame
import Derived.ChangeVars
import Derived.JoinedOf
import Derived.SevenTiedAt
set_option linter.unusedVariables false
set_option linter.unusedSimpArgs false
namespace Go.Proofs.YtddblpggomphpaaGreatDoor
open Go Go.ChangeShapes Go.WideShapes Go.ChangeAt Go.RowKit Go.Proofs
theorem own : ownKnob Tryz.prog.godebug = none := by kernel_rfl
/-- The door's own heap meets the condition. -/
theorem door_met (os : Os) (args : Array Value) : laidMetH Tryz.prog Rows.adaptMeetsRow.laid ((World.doorLaid Tryz.prog 4000 os).forCall (fun _ _ => 0) ⟨#[], args, []⟩).memory := by
 rw [MakeChecks.laidMetH_plain _ _ _ (by kernel_rfl)]
 exact laidMet_of_run' 8 (by kernel_rfl) (by kernel_rfl)
theorem meets_ok {n a0 a1 a2 b0 b1 b2 : Int} {va vb : Value} (hn : 0 ≤ n ∧ n ≤ 255) (ca : Col va a0 a1 a2) (cb : Col vb b0 b1 b2) (w : World) (ht : Bld.Pow w) (hc : adapt.Cones w) :
  Calls Tryz.prog 5 #[.int .u8 n, va, vb] w (fun e w' => e = .returned (.bool true) ∧ Below w.heap.size w w') := by
 obtain ⟨rfl, ka, kb, kc⟩ := ca
 obtain ⟨rfl, la, lb, lc⟩ := cb
 obtain ⟨s, hs, W2⟩ := verdigrislaw25.rets_white a0 a1 a2 ka kb kc w
 obtain ⟨t, ht', W3⟩ := verdigrislaw25.rets_white b0 b1 b2 la lb lc w
 have hm : (n % 4).toNat < 4 := by omega
 have en : 1 + n % 4 = (((n % 4).toNat : Nat) : Int) + 1 := by omega
 cases z1 : adapt.zero3 (adapt.resp (n % 4).toNat s) <;> cases z2 : adapt.zero3 (adapt.resp (n % 4).toNat t)
 ·exact verdigrislaw25.AdaptMeets_d n a0 a1 a2 b0 b1 b2 s t _ hm hn en hs ht' w ht hc W2 W3 z1 z2
 ·exact verdigrislaw25.AdaptMeets_c n a0 a1 a2 b0 b1 b2 s t _ hm hn en hs ht' w ht hc W2 W3 z1 z2
 ·exact verdigrislaw25.AdaptMeets_b n a0 a1 a2 b0 b1 b2 s t _ hm hn en hs ht' w ht hc W2 W3 z1 z2
 ·exact verdigrislaw25.AdaptMeets_a n a0 a1 a2 b0 b1 b2 s t _ hm hn en hs ht' w ht hc W2 W3 z1 z2
set_option maxRecDepth 100000 in
theorem adaptMeets_lifted (os : Os) (started : os.Started) (H : Type) (enc : TypeId × Value → H) :
  ReturnsInHanded {} Tryz.checked os 5 .any (fun w args => (Rows.adaptMeetsSpec.pre enc Tryz.prog Tryz.f5 [] false w args ∧ laidMetH Tryz.prog Rows.adaptMeetsRow.laid w) ∧ sizedMet enc Tryz.prog Tryz.f5 (OpenSpec.ofChange Rows.adaptMeetsSpec) false w args)
   (Rows.adaptMeetsSpec.post enc Tryz.prog Tryz.f5 false true false false) := by
 refine returnsInHanded_of_change_and (C := Tryz.checked) (X := fun w _ => laidMetH Tryz.prog Rows.adaptMeetsRow.laid w) (fun _ _ _ hh h => h.of_heap hh) own started (by kernel_rfl) Tryz.func5
  (ChangeSpec.witness_shaped (enc := enc) (C := Tryz.checked) (os := os) (X := fun w _ => laidMetH Tryz.prog Rows.adaptMeetsRow.laid w) false (World.doorLaid Tryz.prog 4000 os) #[.int .u8 0, .agg #[.int .u16 0, .int .u16 0, .int .u16 0], .agg #[.int .u16 0, .int .u16 0, .int .u16 0]] 8 rfl (World.shaped_of_RefB (by kernel_rfl) (by kernel_rfl)) (by kernel_rfl) (by kernel_rfl) (by kernel_rfl) (door_met os _)) ?_
 intro W base args ds gs before hval0 hW _ _ hL _
 have hW' := hW
 obtain ⟨p, q, hA0, hV, rfl, hfz, hnd⟩ := hW
 have hA : DataW.TrodAll enc Tryz.prog W 0 (fun _ => true) true Tryz.f5.params.toList args.toList ds p := hA0
 rw [Tryz.params5] at hA
 have hval : ∀ (j : Nat) t v, Tryz.f5.params[j]? = some t → args[j]? = some v → Value.okWide Tryz.prog W .any base t v := hval0
 rw [Tryz.params5] at hval
 obtain ⟨v0, v1, v2, d0, d1, d2, p0, p1, p2, rfl, rfl, rfl, h0, h1, h2⟩ := trodAll_three hA
 obtain ⟨rfl, rfl⟩ := trodVars_none hV
 obtain ⟨n, rfl, rfl, rfl, wn⟩ := open_int Tryz.underlying5 (hval 0 5 v0 rfl rfl) h0
 obtain ⟨a0, a1, a2, ca, rfl, ra⟩ := open_colour (hval 1 24 v1 rfl rfl) h1
 obtain ⟨b0, b1, b2, cb, rfl, rb⟩ := open_colour (hval 2 24 v2 rfl rfl) h2
 obtain ⟨hp, hc⟩ := of_laid hL
 refine (meets_ok (u8_wf wn) ca cb W hp hc).mono fun e W' ⟨he, hb⟩ => ?_
 subst he
 refine ⟨_, rfl, _, _, _, [], [], [], hW', ?_, ?_, ?_, hb.frame _, fun h => by cases h⟩
 ·exact trodAll_mk1 (shut_bool Tryz.underlying4 true)
 ·exact trodAll_mk3 (shut_int Tryz.underlying5 wn) (ra _ _ _ _) (rb _ _ _ _)
 ·rfl
theorem adaptMeets_holds : Rows.AdaptMeetsSaid :=
 OpenClaim.holds_of_wide 5 Tryz.f5 rfl rfl rfl rfl rfl rfl rfl ⟨rfl, rfl, rfl, rfl, rfl⟩ rfl rfl rfl rfl rfl (by kernel_rfl) Tryz.func5 (by kernel_rfl)
  (of_decide_eq_true (by kernel_rfl)) (by unfold Func.isWrapper; first | (rw [if_pos (by decide +kernel)]; kernel_rfl) | (rw [if_neg (by decide +kernel)]; exact ⟨rfl, rfl⟩))
  (fun os started H enc _ => adaptMeets_lifted os started H enc)
theorem wants8 : Tryz.prog.wantsStandIn 5 = false := by kernel_rfl
theorem wantsC : Tryz.prog.wantsStandIn 24 = false := by kernel_rfl
theorem adaptMeets_card : Rows.AdaptMeetsCardSaid :=
 Claim7.holds_tied_plain_at .later [] [.data, .data, .data, .data] true (true, "50e1582605f5adda48684425b8549e6e38f1d8943c6eb8551d2394c5aed60ef4") true
  adaptMeets_holds (fun _ h => by cases h) (by kernel_rfl) (fun _ h => by cases h) adaptMeets_row_tie rfl ⟨rfl, rfl⟩ (by kernel_rfl) rfl
  (fun f fn hf hfn => by
   obtain rfl : f = 5 := Option.some.inj ((show Tryz.prog.funcNamed "verdigris/verdigrislaw25.AdaptMeets" = some 5 by kernel_rfl).symm.trans hf) |>.symm
   obtain rfl : fn = Tryz.f5 := (Option.some.inj (Tryz.func5.symm.trans hfn)).symm
   exact ⟨by kernel_rfl, fun j t ht => by
    rw [Tryz.params5] at ht
    have ht' : t = 5 ∨ t = 24 := by
     rcases j with _ | _ | _ | j <;> simp at ht
     ·exact .inl ht.symm
     ·exact .inr ht.symm
     ·exact .inr ht.symm
    rcases ht' with rfl | rfl
    ·exact wants8
    ·exact wantsC⟩)
  (by kernel_rfl)
end Go.Proofs.YtddblpggomphpaaGreatDoor
