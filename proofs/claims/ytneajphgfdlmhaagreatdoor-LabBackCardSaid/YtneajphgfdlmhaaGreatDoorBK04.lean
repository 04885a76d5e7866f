/- verdigrislaw24.LabBack returns true. Conditions: those of the given row. -/
import Derived.Test.YtneajphgfdlmhaaGreatDoorBK01
import Derived.Test.YtneajphgfdlmhaaGreatDoorBK02
import Derived.Test.YtneajphgfdlmhaaGreatDoorBK03
set_option linter.unusedVariables false
set_option linter.unusedSimpArgs false
set_option maxRecDepth 100000
set_option maxHeartbeats 16000000
namespace Go.Proofs.YtneajphgfdlmhaaGreatDoor
open Go Go.ChangeShapes Go.WideShapes Go.ChangeAt Go.RowKit Go.Proofs
theorem Tq:Tryz.prog.wantsStandIn 60=false:=by as_aux_lemma=>kernel_rfl
theorem Tp:Tryz.prog.wantsStandIn 24=false:=by as_aux_lemma=>kernel_rfl
theorem labBack_card:Rows.LabBackCardSaid :=
 Claim7.holds_tied_plain_at .later [] [.data, .data, .data, .sentinel, .sentinel] true (true, "510a37011c72d009ca6c65c1347820d8e80e7bddb0b1d0a1aab1c68e8a5eb302") true
  JQ (fun _ h=>by cases h) (by as_aux_lemma=>kernel_rfl) (fun _ h=>by cases h) labBack_row_tie rfl ⟨rfl,rfl⟩ (by as_aux_lemma=>kernel_rfl) rfl
  (fun f fn hf hfn=>by
   obtain rfl : f = 8 := Option.some.inj ((show Tryz.prog.funcNamed "verdigris/verdigrislaw24.LabBack" = some 8 by as_aux_lemma => kernel_rfl).symm.trans hf) |>.symm
   obtain rfl:fn=Tryz.f8:=(Option.some.inj (Tryz.func8.symm.trans hfn)).symm
   exact ⟨by as_aux_lemma=>kernel_rfl,fun j t ht=>by
    rw [Tryz.params8] at ht
    have ht':t=60∨t=24:=by
     rcases j with _| _|j<;>simp at ht
     ·exact .inl ht.symm
     ·exact .inr (ht.symm)
    rcases ht' with rfl|rfl
    ·exact Tq
    ·exact Tp⟩)
  (by as_aux_lemma=>kernel_rfl)
end Go.Proofs.YtneajphgfdlmhaaGreatDoor
