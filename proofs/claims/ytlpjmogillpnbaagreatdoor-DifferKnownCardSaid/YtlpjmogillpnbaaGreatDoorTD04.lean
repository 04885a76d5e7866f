/- verdigrislaw27.DifferKnown returns true. Conditions: those of the given row. -/
import Derived.Test.YtlpjmogillpnbaaGreatDoorTD03
set_option linter.unusedVariables false
set_option linter.unusedSimpArgs false
set_option maxRecDepth 100000
set_option maxHeartbeats 16000000
namespace Go.Proofs.YtlpjmogillpnbaaGreatDoor
open Go Go.ChangeShapes Go.WideShapes Go.ChangeAt Go.RowKit Go.Proofs
theorem differKnown_card:Rows.DifferKnownCardSaid :=
 Claim7.holds_tied_plain_at .later [] [.data, .data, .data, .data, .sentinel, .sentinel, .pinned] true (true, "586144e0bc20ab5cb0de2a6e69f0f3b07196fde3b0319ff92b46ca6486b03662") true
  ug (fun _ h=>by cases h) (by as_aux_lemma=>kernel_rfl) (fun _ h=>by cases h) differKnown_row_tie rfl ⟨rfl,rfl⟩ (by as_aux_lemma=>kernel_rfl) rfl
  (fun f fn hf hfn=>by
   obtain rfl : f = 6 := Option.some.inj ((show Tryz.prog.funcNamed "verdigris/verdigrislaw27.DifferKnown" = some 6 by as_aux_lemma => kernel_rfl).symm.trans hf) |>.symm
   obtain rfl:fn=Tryz.f6:=(Option.some.inj (Tryz.func6.symm.trans hfn)).symm
   exact ⟨by as_aux_lemma=>kernel_rfl,fun j t ht=>by
    rw [Tryz.params6] at ht;simp at ht⟩)
  (by as_aux_lemma=>kernel_rfl)
end Go.Proofs.YtlpjmogillpnbaaGreatDoor
