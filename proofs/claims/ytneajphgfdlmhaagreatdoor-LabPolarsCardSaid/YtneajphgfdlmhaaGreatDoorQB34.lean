/- verdigrislaw24.LabPolars returns true. Conditions: those of the given row. -/
import Derived.Test.YtneajphgfdlmhaaGreatDoorQB33
set_option linter.unusedVariables false
set_option linter.unusedSimpArgs false
set_option maxRecDepth 100000
set_option maxHeartbeats 16000000
namespace Go.Proofs.YtneajphgfdlmhaaGreatDoor
open Go Go.ChangeShapes Go.WideShapes Go.ChangeAt Go.RowKit Go.Proofs
theorem Zp:Tryz.prog.wantsStandIn 60=false:=by as_aux_lemma=>kernel_rfl
theorem Zo:Tryz.prog.wantsStandIn 64=false:=by as_aux_lemma=>kernel_rfl
theorem Zn:Tryz.prog.wantsStandIn 28=false:=by as_aux_lemma=>kernel_rfl
theorem Zm:Tryz.prog.wantsStandIn 66=false:=by as_aux_lemma=>kernel_rfl
theorem labPolars_card:Rows.LabPolarsCardSaid :=
 Claim7.holds_tied_plain_at .later [] [.data, .data, .data, .sentinel, .sentinel] true (true, "510a37011c72d009ca6c65c1347820d8e80e7bddb0b1d0a1aab1c68e8a5eb302") true
  Aw (fun _ h=>by cases h) (by as_aux_lemma=>kernel_rfl) (fun _ h=>by cases h) labPolars_row_tie rfl ⟨rfl,rfl⟩ (by as_aux_lemma=>kernel_rfl) rfl
  (fun f fn hf hfn=>by
   obtain rfl : f = 5 := Option.some.inj ((show Tryz.prog.funcNamed "verdigris/verdigrislaw24.LabPolars" = some 5 by as_aux_lemma => kernel_rfl).symm.trans hf) |>.symm
   obtain rfl:fn=Tryz.f5:=(Option.some.inj (Tryz.func5.symm.trans hfn)).symm
   exact ⟨by as_aux_lemma=>kernel_rfl,fun j t ht=>by
    rw [Tryz.params5] at ht
    have ht':t=60∨t=64∨t=28∨t=66:=by
     rcases j with _| _| _| _| _|j<;>simp at ht
     ·exact .inl ht.symm
     ·exact .inr (.inl ht.symm)
     ·exact .inr (.inr (.inl ht.symm))
     ·exact .inr (.inr (.inr (ht.symm)))
     ·exact .inr (.inr (.inr (ht.symm)))
    rcases ht' with rfl|rfl|rfl|rfl
    ·exact Zp
    ·exact Zo
    ·exact Zn
    ·exact Zm⟩)
  (by as_aux_lemma=>kernel_rfl)
end Go.Proofs.YtneajphgfdlmhaaGreatDoor
