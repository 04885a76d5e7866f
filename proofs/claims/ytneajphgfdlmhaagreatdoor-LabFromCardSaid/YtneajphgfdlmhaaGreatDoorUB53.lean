/- verdigrislaw24.LabFrom returns true. Conditions: those of the given row. -/
import Derived.Test.YtneajphgfdlmhaaGreatDoorUB52
set_option linter.unusedVariables false
set_option linter.unusedSimpArgs false
set_option maxRecDepth 100000
set_option maxHeartbeats 16000000
namespace Go.Proofs.YtneajphgfdlmhaaGreatDoor
open Go Go.ChangeShapes Go.WideShapes Go.ChangeAt Go.RowKit Go.Proofs
theorem ae9:Tryz.prog.wantsStandIn 60=false:=by as_aux_lemma=>kernel_rfl
theorem ae8:Tryz.prog.wantsStandIn 64=false:=by as_aux_lemma=>kernel_rfl
theorem ae7:Tryz.prog.wantsStandIn 24=false:=by as_aux_lemma=>kernel_rfl
theorem ae6:Tryz.prog.wantsStandIn 28=false:=by as_aux_lemma=>kernel_rfl
theorem ae5:Tryz.prog.wantsStandIn 66=false:=by as_aux_lemma=>kernel_rfl
theorem labFrom_card:Rows.LabFromCardSaid :=
 Claim7.holds_tied_plain_at .later [] [.data, .data, .data, .sentinel, .sentinel] true (true, "510a37011c72d009ca6c65c1347820d8e80e7bddb0b1d0a1aab1c68e8a5eb302") true
  FH (fun _ h=>by cases h) (by as_aux_lemma=>kernel_rfl) (fun _ h=>by cases h) labFrom_row_tie rfl ⟨rfl,rfl⟩ (by as_aux_lemma=>kernel_rfl) rfl
  (fun f fn hf hfn=>by
   obtain rfl : f = 7 := Option.some.inj ((show Tryz.prog.funcNamed "verdigris/verdigrislaw24.LabFrom" = some 7 by as_aux_lemma => kernel_rfl).symm.trans hf) |>.symm
   obtain rfl:fn=Tryz.f7:=(Option.some.inj (Tryz.func7.symm.trans hfn)).symm
   exact ⟨by as_aux_lemma=>kernel_rfl,fun j t ht=>by
    rw [Tryz.params7] at ht
    have ht':t=60∨t=64∨t=24∨t=28∨t=66:=by
     rcases j with _| _| _| _| _|j<;>simp at ht
     ·exact .inl ht.symm
     ·exact .inr (.inl ht.symm)
     ·exact .inr (.inr (.inl ht.symm))
     ·exact .inr (.inr (.inr (.inl ht.symm)))
     ·exact .inr (.inr (.inr (.inr (ht.symm))))
    rcases ht' with rfl|rfl|rfl|rfl|rfl
    ·exact ae9
    ·exact ae8
    ·exact ae7
    ·exact ae6
    ·exact ae5⟩)
  (by as_aux_lemma=>kernel_rfl)
end Go.Proofs.YtneajphgfdlmhaaGreatDoor
