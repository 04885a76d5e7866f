/- verdigrislaw28.ViewSurrounds returns true. Conditions: those of the given row. -/
import Derived.Test.YtbngfhgoeoncmaaGreatDoorWC03
set_option linter.unusedVariables false
set_option linter.unusedSimpArgs false
set_option maxRecDepth 100000
set_option maxHeartbeats 16000000
namespace Go.Proofs.YtbngfhgoeoncmaaGreatDoor
open Go Go.ChangeShapes Go.WideShapes Go.ChangeAt Go.RowKit Go.Proofs
theorem Ol:Tryz.prog.wantsStandIn 35=false:=by as_aux_lemma=>kernel_rfl
theorem Oj:Tryz.prog.wantsStandIn 5=false:=by as_aux_lemma=>kernel_rfl
theorem viewSurrounds_card:Rows.ViewSurroundsCardSaid :=
 Claim7.holds_tied_plain_at .later [] [.data, .data, .data, .sentinel, .sentinel, .data, .data] true (true, "3ee74735aa8d378e4372b6358816111b1d932458d384b8dfcb23030fa0cb5705") true
  xQ (fun _ h=>by cases h) (by as_aux_lemma=>kernel_rfl) (fun _ h=>by cases h) viewSurrounds_row_tie rfl ⟨rfl,rfl⟩ (by as_aux_lemma=>kernel_rfl) rfl
  (fun f fn hf hfn=>by
   obtain rfl : f = 5 := Option.some.inj ((show Tryz.prog.funcNamed "verdigris/verdigrislaw28.ViewSurrounds" = some 5 by as_aux_lemma => kernel_rfl).symm.trans hf) |>.symm
   obtain rfl:fn=Tryz.f5:=(Option.some.inj (Tryz.func5.symm.trans hfn)).symm
   exact ⟨by as_aux_lemma=>kernel_rfl,fun j t ht=>by
    rw [Tryz.params5] at ht
    have ht':t=35∨t=5:=by
     rcases j with _| _|j<;>simp at ht
     ·exact .inl ht.symm
     ·exact .inr (ht.symm)
    rcases ht' with rfl|rfl
    ·exact Ol
    ·exact Oj⟩)
  (by as_aux_lemma=>kernel_rfl)
end Go.Proofs.YtbngfhgoeoncmaaGreatDoor
