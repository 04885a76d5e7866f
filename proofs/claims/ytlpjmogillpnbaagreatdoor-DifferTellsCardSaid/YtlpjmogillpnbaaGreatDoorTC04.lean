/- verdigrislaw27.DifferTells returns true. Conditions: those of the given row. -/
import Derived.Test.YtlpjmogillpnbaaGreatDoorTC03
set_option linter.unusedVariables false
set_option linter.unusedSimpArgs false
set_option maxRecDepth 100000
set_option maxHeartbeats 16000000
namespace Go.Proofs.YtlpjmogillpnbaaGreatDoor
open Go Go.ChangeShapes Go.WideShapes Go.ChangeAt Go.RowKit Go.Proofs
theorem Tg:Tryz.prog.wantsStandIn 25=false:=by as_aux_lemma=>kernel_rfl
theorem Tf:Tryz.prog.wantsStandIn 5=false:=by as_aux_lemma=>kernel_rfl
theorem differTells_card:Rows.DifferTellsCardSaid :=
 Claim7.holds_tied_plain_at .later [] [.data, .data, .data, .data, .sentinel, .sentinel, .pinned] true (true, "586144e0bc20ab5cb0de2a6e69f0f3b07196fde3b0319ff92b46ca6486b03662") true
  uf (fun _ h=>by cases h) (by as_aux_lemma=>kernel_rfl) (fun _ h=>by cases h) differTells_row_tie rfl ⟨rfl,rfl⟩ (by as_aux_lemma=>kernel_rfl) rfl
  (fun f fn hf hfn=>by
   obtain rfl : f = 5 := Option.some.inj ((show Tryz.prog.funcNamed "verdigris/verdigrislaw27.DifferTells" = some 5 by as_aux_lemma => kernel_rfl).symm.trans hf) |>.symm
   obtain rfl:fn=Tryz.f5:=(Option.some.inj (Tryz.func5.symm.trans hfn)).symm
   exact ⟨by as_aux_lemma=>kernel_rfl,fun j t ht=>by
    rw [Tryz.params5] at ht
    have ht':t=25∨t=5:=by
     rcases j with _| _| _|j<;>simp at ht
     ·exact .inl ht.symm
     ·exact .inl ht.symm
     ·exact .inr (ht.symm)
    rcases ht' with rfl|rfl
    ·exact Tg
    ·exact Tf⟩)
  (by as_aux_lemma=>kernel_rfl)
end Go.Proofs.YtlpjmogillpnbaaGreatDoor
