/- verdigrislaw28.ViewCompressed returns true. Conditions: those of the given row. -/
import Derived.Test.YtbngfhgoeoncmaaGreatDoorTD03
set_option linter.unusedVariables false
set_option linter.unusedSimpArgs false
set_option maxRecDepth 100000
set_option maxHeartbeats 16000000
namespace Go.Proofs.YtbngfhgoeoncmaaGreatDoor
open Go Go.ChangeShapes Go.WideShapes Go.ChangeAt Go.RowKit Go.Proofs
theorem VT:Tryz.prog.wantsStandIn 22=false:=by as_aux_lemma=>kernel_rfl
theorem VR:Tryz.prog.wantsStandIn 23=false:=by as_aux_lemma=>kernel_rfl
theorem viewCompressed_card:Rows.ViewCompressedCardSaid :=
 Claim7.holds_tied_plain_at .later [] [.data, .data, .data, .sentinel, .sentinel, .data, .data] true (true, "3ee74735aa8d378e4372b6358816111b1d932458d384b8dfcb23030fa0cb5705") true
  qR (fun _ h=>by cases h) (by as_aux_lemma=>kernel_rfl) (fun _ h=>by cases h) viewCompressed_row_tie rfl ⟨rfl,rfl⟩ (by as_aux_lemma=>kernel_rfl) rfl
  (fun f fn hf hfn=>by
   obtain rfl : f = 3 := Option.some.inj ((show Tryz.prog.funcNamed "verdigris/verdigrislaw28.ViewCompressed" = some 3 by as_aux_lemma => kernel_rfl).symm.trans hf) |>.symm
   obtain rfl:fn=Tryz.f3:=(Option.some.inj (Tryz.func3.symm.trans hfn)).symm
   exact ⟨by as_aux_lemma=>kernel_rfl,fun j t ht=>by
    rw [Tryz.params3] at ht
    have ht':t=22∨t=23:=by
     rcases j with _| _| _|j<;>simp at ht
     ·exact .inl ht.symm
     ·exact .inr (ht.symm)
     ·exact .inr (ht.symm)
    rcases ht' with rfl|rfl
    ·exact VT
    ·exact VR⟩)
  (by as_aux_lemma=>kernel_rfl)
end Go.Proofs.YtbngfhgoeoncmaaGreatDoor
