/- verdigrislaw27.DifferLess returns true. Conditions: those of the given row. -/
import Derived.Test.YtlpjmogillpnbaaGreatDoorLK01
import Derived.Test.YtlpjmogillpnbaaGreatDoorLK02
import Derived.Test.YtlpjmogillpnbaaGreatDoorLK03
import Derived.Test.YtlpjmogillpnbaaGreatDoorLK04
import Derived.Test.YtlpjmogillpnbaaGreatDoorLK05
set_option linter.unusedVariables false
set_option linter.unusedSimpArgs false
set_option maxRecDepth 100000
set_option maxHeartbeats 16000000
namespace Go.Proofs.YtlpjmogillpnbaaGreatDoor
open Go Go.ChangeShapes Go.WideShapes Go.ChangeAt Go.RowKit Go.Proofs
theorem Tg:Tryz.prog.wantsStandIn 25=false:=by as_aux_lemma=>kernel_rfl
theorem Tf:Tryz.prog.wantsStandIn 41=false:=by as_aux_lemma=>kernel_rfl
theorem wants2:Tryz.prog.wantsStandIn 5=false:=by as_aux_lemma=>kernel_rfl
theorem differLess_card:Rows.DifferLessCardSaid :=
 Claim7.holds_tied_plain_at .later [] [.data, .data, .data, .data, .sentinel, .sentinel, .pinned] true (true, "586144e0bc20ab5cb0de2a6e69f0f3b07196fde3b0319ff92b46ca6486b03662") true
  differLess_holds (fun _ h=>by cases h) (by as_aux_lemma=>kernel_rfl) (fun _ h=>by cases h) differLess_row_tie rfl ⟨rfl,rfl⟩ (by as_aux_lemma=>kernel_rfl) rfl
  (fun f fn hf hfn=>by
   obtain rfl : f = 4 := Option.some.inj ((show Tryz.prog.funcNamed "verdigris/verdigrislaw27.DifferLess" = some 4 by as_aux_lemma => kernel_rfl).symm.trans hf) |>.symm
   obtain rfl:fn=Tryz.f4:=(Option.some.inj (Tryz.func4.symm.trans hfn)).symm
   exact ⟨by as_aux_lemma=>kernel_rfl,fun j t ht=>by
    rw [Tryz.params4] at ht
    have ht':t=25∨t=41∨t=5:=by
     rcases j with _| _| _| _| _|j<;>simp at ht
     ·exact .inl ht.symm
     ·exact .inl ht.symm
     ·exact .inr (.inl ht.symm)
     ·exact .inr (.inl ht.symm)
     ·exact .inr (.inr (ht.symm))
    rcases ht' with rfl|rfl|rfl
    ·exact Tg
    ·exact Tf
    ·exact wants2⟩)
  (by as_aux_lemma=>kernel_rfl)
end Go.Proofs.YtlpjmogillpnbaaGreatDoor
