/- verdigrislaw04.PowerExacts returns true. Conditions: those of the given row. -/
import Derived.Test.YtpoecfpbafpokaaGreatDoorSB01
import Derived.Test.YtpoecfpbafpokaaGreatDoorSB05
import Derived.Test.YtpoecfpbafpokaaGreatDoorSD01
import Derived.Test.YtpoecfpbafpokaaGreatDoorCards
import Derived.Test.YtpoecfpbafpokaaGreatDoorTie
import Derived.ChangeSame
import Derived.ChangeVars
import Derived.JoinedOf
import Derived.SevenTiedAt
import Derived.ChangeMaps5
import Derived.ChangeArms
import Derived.Carry
set_option linter.unusedVariables false
set_option linter.unusedSimpArgs false
set_option maxRecDepth 100000
set_option maxHeartbeats 16000000
namespace Go.Proofs.YtpoecfpbafpokaaGreatDoor
open Go Go.ChangeShapes Go.WideShapes Go.ChangeAt Go.RowKit Go.Proofs
theorem own : ownKnob Tryz.prog.godebug = none := by kernel_rfl
theorem door_met (os : Os) (args : Array Value) : laidMetH Tryz.prog Rows.powerExactsRow.laid ((World.doorLaid Tryz.prog 4000 os).forCall (fun _ _ => 0) ⟨#[], args, []⟩).memory := by
  rw [MakeChecks.laidMetH_plain _ _ _ zk]
  exact laidMet_of_run' 8 zk zk
theorem laidOut5 : laidOutB Tryz.prog = true := by kernel_rfl
theorem powerExacts_lifted (os : Os) (started : os.Started) (H : Type) (enc : TypeId × Value → H) :
    ReturnsInHanded {} Tryz.checked os 4 .any (fun w args => (Rows.powerExactsSpec.pre enc Tryz.prog Tryz.f4 [] false w args ∧ laidMetH Tryz.prog Rows.powerExactsRow.laid w) ∧ sizedMet enc Tryz.prog Tryz.f4 (OpenSpec.ofChange Rows.powerExactsSpec) false w args)
      (Rows.powerExactsSpec.post enc Tryz.prog Tryz.f4 false true false false) := by
  refine returnsInHanded_of_change_and (C := Tryz.checked) (X := fun w _ => laidMetH Tryz.prog Rows.powerExactsRow.laid w) (fun _ _ _ hh h => h.of_heap hh) own started zk Tryz.func4
    (ChangeSpec.witness_shaped (enc := enc) (C := Tryz.checked) (os := os) (X := fun w _ => laidMetH Tryz.prog Rows.powerExactsRow.laid w) false (World.doorLaid Tryz.prog 4000 os) #[.agg #[.string ⟨#[]⟩, .string ⟨#[]⟩], .agg #[.bool false, .slice none 0 0, .int .u16 0, .bool false, .slice none 0 0, .int .u16 0], .int .i64 0, .int .i64 0] 8 rfl (World.shaped_of_RefB zk zk) zk zk zk (door_met os _)) ?_
  intro W base args ds gs before hval0 hW _ _ hL _
  have hW' := hW
  obtain ⟨p, q, hA0, hV, rfl, hfz, hnd⟩ := hW
  have hA : DataW.TrodAll enc Tryz.prog W 0 (fun _ => true) true Tryz.f4.params.toList args.toList ds p := hA0
  rw [Tryz.params4] at hA
  have hval : ∀ (j : Nat) t v, Tryz.f4.params[j]? = some t → args[j]? = some v → Value.okWide Tryz.prog W .any base t v := hval0
  rw [Tryz.params4] at hval
  obtain ⟨v0, vs0, d0, ds0, p0, q0, hargs, rfl, rfl, h0, hr0⟩ := trodAll_cons hA
  obtain ⟨v1, vs1, d1, ds1, p1, q1, rfl, rfl, rfl, h1, hr1⟩ := trodAll_cons hr0
  obtain ⟨v2, vs2, d2, ds2, p2, q2, rfl, rfl, rfl, h2, hr2⟩ := trodAll_cons hr1
  obtain ⟨v3, vs3, d3, ds3, p3, q3, rfl, rfl, rfl, h3, hr3⟩ := trodAll_cons hr2
  obtain ⟨rfl, rfl, rfl⟩ := trodAll_nil hr3
  obtain rfl : args = #[v0, v1, v2, v3] := by cases args; simp_all
  obtain ⟨rfl, rfl⟩ := trodVars_none hV
  obtain ⟨a, b, rfl, rfl, ra⟩ := open_frac (hval 0 40 v0 rfl rfl) h0
  have h1k := h1
  obtain ⟨f1, a1, n1, c1, z1, f2, a2, n2, c2, z2, rfl, w1, w2⟩ := opn_d2 (hval 1 46 v1 rfl rfl) h1
  obtain ⟨m, rfl, rfl, rfl, wm⟩ := open_int Tryz.underlying3 (hval 2 3 v2 rfl rfl) h2
  obtain ⟨n, rfl, rfl, rfl, wn⟩ := open_int Tryz.underlying3 (hval 3 3 v3 rfl rfl) h3
  obtain ⟨hp, hc⟩ := of_laid hL
  simp only [List.nil_append, List.append_nil] at hW'
  have hlt1 : ∀ x ∈ p1, x.block < W.heap.size := fun x hx => hW'.lt x (by simpa using hx)
  refine (verdigrislaw04.PowerExacts_ok a b f1 f2 _ _ z1 z2 m n W w1 w2 hp hc).mono fun e W' ⟨he, hb⟩ => ?_
  subst he
  refine ⟨_, rfl, _, _, _, [], p1, [], (by simpa using hW'), ?_, ?_, ?_, hb.frame _, fun h => by cases h⟩
  · exact trodAll_mk1 (shut_bool Tryz.underlying4 true)
  · exact ⟨[], p1, (ra _ _ _ _), ⟨p1, [], Below.trod laidOut5 zk (of_decide_eq_true zk) h1k hb hlt1, trodAll_mk2 (shut_int Tryz.underlying3 wm) (shut_int Tryz.underlying3 wn), by simp⟩, by simp⟩
  · rfl
theorem powerExacts_holds : Rows.PowerExactsSaid :=
  OpenClaim.holds_of_wide 4 Tryz.f4 rfl rfl rfl rfl rfl rfl rfl ⟨rfl, rfl, rfl, rfl, rfl⟩ rfl rfl rfl rfl rfl zk Tryz.func4 zk
    (of_decide_eq_true zk) (by unfold Func.isWrapper; first | (rw [if_pos (by decide +kernel)]; kernel_rfl) | (rw [if_neg (by decide +kernel)]; exact ⟨rfl, rfl⟩))
    (fun os started H enc _ => powerExacts_lifted os started H enc)
theorem wants0 : Tryz.prog.wantsStandIn 40 = false := by kernel_rfl
theorem wants1 : Tryz.prog.wantsStandIn 46 = false := by kernel_rfl
theorem wants2 : Tryz.prog.wantsStandIn 3 = false := by kernel_rfl
theorem powerExacts_card : Rows.PowerExactsCardSaid :=
  Claim7.holds_tied_plain_at .later [] [.data, .data, .data, .sentinel, .sentinel] true (true, "bc1bf536eb06bf18bc4c231e9aa64150270bda42f4b23e044d7bfc9ab11b0e23") true
    powerExacts_holds (fun _ h => by cases h) zk (fun _ h => by cases h) powerExacts_row_tie rfl ⟨rfl, rfl⟩ zk rfl
    (fun f fn hf hfn => by
      obtain rfl : f = 4 := Option.some.inj ((show Tryz.prog.funcNamed "verdigris/verdigrislaw04.PowerExacts" = some 4 by kernel_rfl).symm.trans hf) |>.symm
      obtain rfl : fn = Tryz.f4 := (Option.some.inj (Tryz.func4.symm.trans hfn)).symm
      exact ⟨by kernel_rfl, fun j t ht => by
        rw [Tryz.params4] at ht
        have ht' : t = 40 ∨ t = 46 ∨ t = 3 := by
          rcases j with _ | _ | _ | _ | j <;> simp at ht
          · exact .inl ht.symm
          · exact .inr (.inl ht.symm)
          · exact .inr (.inr (ht.symm))
          · exact .inr (.inr (ht.symm))
        rcases ht' with rfl | rfl | rfl
        · exact wants0
        · exact wants1
        · exact wants2⟩)
    zk
end Go.Proofs.YtpoecfpbafpokaaGreatDoor
