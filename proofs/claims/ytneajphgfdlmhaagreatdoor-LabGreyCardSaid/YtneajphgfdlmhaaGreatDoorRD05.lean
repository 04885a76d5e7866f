/- verdigrislaw24.LabGrey returns true. Conditions: those of the given row. -/
import Derived.Test.YtneajphgfdlmhaaGreatDoorRB01
import Derived.Test.YtneajphgfdlmhaaGreatDoorRD04
set_option linter.unusedVariables false
set_option linter.unusedSimpArgs false
set_option maxRecDepth 100000
set_option maxHeartbeats 16000000
namespace Go.Proofs.YtneajphgfdlmhaaGreatDoor
open Go Go.ChangeShapes Go.WideShapes Go.ChangeAt Go.RowKit Go.Proofs
theorem az1:Tryz.prog.wantsStandIn 24=false:=by as_aux_lemma=>kernel_rfl
theorem az0:Tryz.prog.wantsStandIn 49=false:=by as_aux_lemma=>kernel_rfl
theorem labGrey_card:Rows.LabGreyCardSaid :=
 Claim7.holds_tied_plain_at .later [] [.data, .data, .data, .sentinel, .sentinel] true (true, "510a37011c72d009ca6c65c1347820d8e80e7bddb0b1d0a1aab1c68e8a5eb302") true
  JN (fun _ h=>by cases h) (by as_aux_lemma=>kernel_rfl) (fun _ h=>by cases h) labGrey_row_tie rfl ⟨rfl,rfl⟩ (by as_aux_lemma=>kernel_rfl) rfl
  (fun f fn hf hfn=>by
   obtain rfl : f = 4 := Option.some.inj ((show Tryz.prog.funcNamed "verdigris/verdigrislaw24.LabGrey" = some 4 by as_aux_lemma => kernel_rfl).symm.trans hf) |>.symm
   obtain rfl:fn=Tryz.f4:=(Option.some.inj (Tryz.func4.symm.trans hfn)).symm
   exact ⟨by as_aux_lemma=>kernel_rfl,fun j t ht=>by
    rw [Tryz.params4] at ht
    have ht':t=24∨t=49:=by
     rcases j with _| _| _|j<;>simp at ht
     ·exact .inl ht.symm
     ·exact .inr (ht.symm)
     ·exact .inr (ht.symm)
    rcases ht' with rfl|rfl
    ·exact az1
    ·exact az0⟩)
  (by as_aux_lemma=>kernel_rfl)
end Go.Proofs.YtneajphgfdlmhaaGreatDoor
