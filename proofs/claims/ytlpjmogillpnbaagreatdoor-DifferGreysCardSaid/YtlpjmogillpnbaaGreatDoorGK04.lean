/- verdigrislaw27.DifferGreys returns true. Conditions: those of the given row. -/
import Derived.Test.YtlpjmogillpnbaaGreatDoorGK01
import Derived.Test.YtlpjmogillpnbaaGreatDoorGK02
import Derived.Test.YtlpjmogillpnbaaGreatDoorGK03
set_option linter.unusedVariables false
set_option linter.unusedSimpArgs false
set_option maxRecDepth 100000
set_option maxHeartbeats 16000000
namespace Go.Proofs.YtlpjmogillpnbaaGreatDoor
open Go Go.ChangeShapes Go.WideShapes Go.ChangeAt Go.RowKit Go.Proofs
theorem Tg:Tryz.prog.wantsStandIn 22=false:=by as_aux_lemma=>kernel_rfl
theorem Tf:Tryz.prog.wantsStandIn 41=false:=by as_aux_lemma=>kernel_rfl
theorem differGreys_card:Rows.DifferGreysCardSaid :=
 Claim7.holds_tied_plain_at .later [] [.data, .data, .data, .data, .sentinel, .sentinel, .pinned] true (true, "586144e0bc20ab5cb0de2a6e69f0f3b07196fde3b0319ff92b46ca6486b03662") true
  differGreys_holds (fun _ h=>by cases h) (by as_aux_lemma=>kernel_rfl) (fun _ h=>by cases h) differGreys_row_tie rfl ⟨rfl,rfl⟩ (by as_aux_lemma=>kernel_rfl) rfl
  (fun f fn hf hfn=>by
   obtain rfl : f = 7 := Option.some.inj ((show Tryz.prog.funcNamed "verdigris/verdigrislaw27.DifferGreys" = some 7 by as_aux_lemma => kernel_rfl).symm.trans hf) |>.symm
   obtain rfl:fn=Tryz.f7:=(Option.some.inj (Tryz.func7.symm.trans hfn)).symm
   exact ⟨by as_aux_lemma=>kernel_rfl,fun j t ht=>by
    rw [Tryz.params7] at ht
    have ht':t=22∨t=41:=by
     rcases j with _| _| _|j<;>simp at ht
     ·exact .inl ht.symm
     ·exact .inl ht.symm
     ·exact .inr (ht.symm)
    rcases ht' with rfl|rfl
    ·exact Tg
    ·exact Tf⟩)
  (by as_aux_lemma=>kernel_rfl)
end Go.Proofs.YtlpjmogillpnbaaGreatDoor
