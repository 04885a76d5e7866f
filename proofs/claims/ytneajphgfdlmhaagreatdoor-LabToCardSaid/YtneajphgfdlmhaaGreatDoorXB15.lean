/- verdigrislaw24.LabTo returns true. Conditions: those of the given row. -/
import Derived.Test.YtneajphgfdlmhaaGreatDoorXB14
set_option maxRecDepth 100000
set_option maxHeartbeats 16000000
namespace Go.Proofs.YtneajphgfdlmhaaGreatDoor
open Go Go.ChangeShapes Go.WideShapes Go.ChangeAt Go.RowKit Go.Proofs
theorem au3:Tryz.prog.wantsStandIn 24=false:=by as_aux_lemma=>kernel_rfl
theorem au2:Tryz.prog.wantsStandIn 28=false:=by as_aux_lemma=>kernel_rfl
theorem labTo_card:Rows.LabToCardSaid :=
 Claim7.holds_tied_plain_at .later [] [.data, .data, .data, .sentinel, .sentinel] true (true, "510a37011c72d009ca6c65c1347820d8e80e7bddb0b1d0a1aab1c68e8a5eb302") true
  Nj (fun _ h=>by cases h) (by as_aux_lemma=>kernel_rfl) (fun _ h=>by cases h) labTo_row_tie rfl ⟨rfl,rfl⟩ (by as_aux_lemma=>kernel_rfl) rfl
  (fun f fn hf hfn=>by
   obtain rfl : f = 3 := Option.some.inj ((show Tryz.prog.funcNamed "verdigris/verdigrislaw24.LabTo" = some 3 by as_aux_lemma => kernel_rfl).symm.trans hf) |>.symm
   obtain rfl:fn=Tryz.f3:=(Option.some.inj (Tryz.func3.symm.trans hfn)).symm
   exact ⟨by as_aux_lemma=>kernel_rfl,fun j t ht=>by
    rw [Tryz.params3] at ht
    have ht':t=24∨t=28:=by
     rcases j with _| _| _|j<;>simp at ht
     ·exact .inl ht.symm
     ·exact .inl ht.symm
     ·exact .inr (ht.symm)
    rcases ht' with rfl|rfl
    ·exact au3
    ·exact au2⟩)
  (by as_aux_lemma=>kernel_rfl)
end Go.Proofs.YtneajphgfdlmhaaGreatDoor
