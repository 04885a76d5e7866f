/- verdigrislaw27.DifferMetric returns true. Conditions: those of the given row. -/
import Derived.Test.YtlpjmogillpnbaaGreatDoorMK01
import Derived.Test.YtlpjmogillpnbaaGreatDoorMK02
import Derived.Test.YtlpjmogillpnbaaGreatDoorMK03
import Derived.Test.YtlpjmogillpnbaaGreatDoorMK04
set_option linter.unusedVariables false
set_option linter.unusedSimpArgs false
set_option maxRecDepth 100000
set_option maxHeartbeats 16000000
namespace Go.Proofs.YtlpjmogillpnbaaGreatDoor
open Go Go.ChangeShapes Go.WideShapes Go.ChangeAt Go.RowKit Go.Proofs
theorem Tg:Tryz.prog.wantsStandIn 25=false:=by as_aux_lemma=>kernel_rfl
theorem Tf:Tryz.prog.wantsStandIn 5=false:=by as_aux_lemma=>kernel_rfl
theorem differMetric_card:Rows.DifferMetricCardSaid :=
 Claim7.holds_tied_plain_at .later [] [.data, .data, .data, .data, .sentinel, .sentinel, .pinned] true (true, "586144e0bc20ab5cb0de2a6e69f0f3b07196fde3b0319ff92b46ca6486b03662") true
  differMetric_holds (fun _ h=>by cases h) (by as_aux_lemma=>kernel_rfl) (fun _ h=>by cases h) differMetric_row_tie rfl ⟨rfl,rfl⟩ (by as_aux_lemma=>kernel_rfl) rfl
  (fun f fn hf hfn=>by
   obtain rfl : f = 3 := Option.some.inj ((show Tryz.prog.funcNamed "verdigris/verdigrislaw27.DifferMetric" = some 3 by as_aux_lemma => kernel_rfl).symm.trans hf) |>.symm
   obtain rfl:fn=Tryz.f3:=(Option.some.inj (Tryz.func3.symm.trans hfn)).symm
   exact ⟨by as_aux_lemma=>kernel_rfl,fun j t ht=>by
    rw [Tryz.params3] at ht
    have ht':t=25∨t=5:=by
     rcases j with _| _| _| _|j<;>simp at ht
     ·exact .inl ht.symm
     ·exact .inl ht.symm
     ·exact .inl ht.symm
     ·exact .inr (ht.symm)
    rcases ht' with rfl|rfl
    ·exact Tg
    ·exact Tf⟩)
  (by as_aux_lemma=>kernel_rfl)
end Go.Proofs.YtlpjmogillpnbaaGreatDoor
