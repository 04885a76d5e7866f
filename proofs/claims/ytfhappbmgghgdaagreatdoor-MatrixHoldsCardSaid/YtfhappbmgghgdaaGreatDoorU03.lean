/- verdigrislaw05.MatrixHolds returns true. Conditions: those of the given row. -/
import Derived.Test.YtfhappbmgghgdaaGreatDoorU01
import Derived.Test.YtfhappbmgghgdaaGreatDoorU02
import Derived.Test.YtfhappbmgghgdaaGreatDoorCards
import Derived.Test.YtfhappbmgghgdaaGreatDoorTie
import Derived.ChangeSame
import Derived.ChangeVars
import Derived.JoinedOf
import Derived.SevenTiedAt
import Derived.ChangeMaps5
import Derived.ChangeArms
import Derived.Carry
set_option linter.unusedVariables false
set_option linter.unusedSimpArgs false
set_option maxRecDepth 100000
set_option maxHeartbeats 16000000
namespace Go.Proofs.YtfhappbmgghgdaaGreatDoor
open Go Go.ChangeShapes Go.WideShapes Go.ChangeAt Go.RowKit Go.Proofs
theorem own:ownKnob Tryz.prog.godebug=none:=by kernel_rfl
theorem door_met (os:Os) (args:Array Value):laidMetH Tryz.prog Rows.matrixHoldsRow.laid ((World.doorLaid Tryz.prog 4000 os).forCall (fun _ _=>0) ⟨#[],args,[]⟩).memory:=by
 rw [MakeChecks.laidMetH_plain _ _ _ zk];exact laidMet_of_run' 8 zk zk
theorem laidOut5:laidOutB Tryz.prog=true:=by kernel_rfl
theorem matrixHolds_lifted (os:Os) (started:os.Started) (H:Type) (enc:TypeId × Value→H) :
  ReturnsInHanded {} Tryz.checked os 10 .any (fun w args=>(Rows.matrixHoldsSpec.pre enc Tryz.prog Tryz.f10 [] false w args∧laidMetH Tryz.prog Rows.matrixHoldsRow.laid w)∧sizedMet enc Tryz.prog Tryz.f10 (OpenSpec.ofChange Rows.matrixHoldsSpec) false w args)
   (Rows.matrixHoldsSpec.post enc Tryz.prog Tryz.f10 false true false false):=by
 refine returnsInHanded_of_change_and (C:=Tryz.checked) (X:=fun w _=>laidMetH Tryz.prog Rows.matrixHoldsRow.laid w) (fun _ _ _ hh h=>h.of_heap hh) own started zk Tryz.func10
  (ChangeSpec.witness_shaped (enc:=enc) (C:=Tryz.checked) (os:=os) (X:=fun w _=>laidMetH Tryz.prog Rows.matrixHoldsRow.laid w) false (World.doorLaid Tryz.prog 4000 os) #[.agg #[.int .u8 0,.int .u8 0,.slice none 0 0],.slice none 0 0] 8 rfl (World.shaped_of_RefB zk zk) zk zk zk (door_met os _)) ?_
 intro W base args ds gs before hval0 hW _ _ hL _;have hW':=hW;obtain ⟨p,q,hA0,hV,rfl,hfz,hnd⟩:=hW;have hA:DataW.TrodAll enc Tryz.prog W 0 (fun _=>true) true Tryz.f10.params.toList args.toList ds p:=hA0;rw [Tryz.params10] at hA;have hval:∀ (j:Nat) t v,Tryz.f10.params[j]? =some t→args[j]? =some v→Value.okWide Tryz.prog W .any base t v:=hval0;rw [Tryz.params10] at hval;obtain ⟨v0,vs0,d0,ds0,p0,q0,hargs,rfl,rfl,h0,hr0⟩:=trodAll_cons hA;obtain ⟨v1,vs1,d1,ds1,p1,q1,rfl,rfl,rfl,h1,hr1⟩:=trodAll_cons hr0;obtain ⟨rfl,rfl,rfl⟩:=trodAll_nil hr1;obtain rfl:args=#[v0,v1]:=by cases args;simp_all
 obtain ⟨rfl,rfl⟩:=trodVars_none hV;have h0k:=h0;obtain ⟨r0,c0,al0,ll0,cl0,rfl,hr0_,hc0_,hd0⟩:=opn_draft (hval 0 26 v0 rfl rfl) h0;have h1k:=h1;obtain ⟨l1,w1⟩:=open_drafts (hval 1 64 v1 rfl rfl) h1;obtain ⟨hp,hc⟩:=of_laid hL;simp only [List.nil_append,List.append_nil] at hW';have hlt0:∀ x∈p0,x.block<W.heap.size:=fun x hx=>hW'.lt x (by simp [hx]);have hlt1:∀ x∈p1,x.block<W.heap.size:=fun x hx=>hW'.lt x (by simp [hx]);refine (verdigrislaw05.holds_ok r0 c0 _ _ l1 W hr0_ hc0_ hp hc hd0 w1).mono fun e W' ⟨he,hb⟩=>?_;subst he;refine ⟨_,rfl,_,_,_,[],p0++p1,[],(by simpa using hW'),?_,?_,?_,hb.frame _,fun h=>by cases h⟩
 ·exact trodAll_mk1 (shut_bool Tryz.underlying4 true)
 ·exact ⟨p0,p1,Below.trod laidOut5 zk (of_decide_eq_true zk) h0k hb hlt0,trodAll_mk1 (Below.trod laidOut5 zk (of_decide_eq_true zk) h1k hb hlt1),by simp⟩
 ·rfl
theorem matrixHolds_holds:Rows.MatrixHoldsSaid :=
 OpenClaim.holds_of_wide 10 Tryz.f10 rfl rfl rfl rfl rfl rfl rfl ⟨rfl,rfl,rfl,rfl,rfl⟩ rfl rfl rfl rfl rfl zk Tryz.func10 (by unfold joinedFacts;simp only [Bool.and_eq_true];and_intros<;>(as_aux_lemma=>kernel_rfl))
  (of_decide_eq_true zk) (by unfold Func.isWrapper;first|(rw [if_pos (by decide+kernel)];kernel_rfl)|(rw [if_neg (by decide+kernel)];exact ⟨rfl,rfl⟩))
  (fun os started H enc _=>matrixHolds_lifted os started H enc)
theorem wants0:Tryz.prog.wantsStandIn 26=false:=by kernel_rfl
theorem wants1:Tryz.prog.wantsStandIn 64=false:=by kernel_rfl
theorem matrixHolds_card:Rows.MatrixHoldsCardSaid :=
 Claim7.holds_tied_plain_at .later [] [.data, .data, .data, .sentinel, .sentinel] true (true, "884288cd6187cd34840763c0a1bac9146cd11b6622726d83bc9cd5a3870446e9") true
  matrixHolds_holds (fun _ h=>by cases h) zk (fun _ h=>by cases h) matrixHolds_row_tie rfl ⟨rfl,rfl⟩ zk rfl
  (fun f fn hf hfn=>by
   obtain rfl : f = 10 := Option.some.inj ((show Tryz.prog.funcNamed "verdigris/verdigrislaw05.MatrixHolds" = some 10 by kernel_rfl).symm.trans hf) |>.symm
   obtain rfl:fn=Tryz.f10:=(Option.some.inj (Tryz.func10.symm.trans hfn)).symm
   exact ⟨by kernel_rfl,fun j t ht=>by
    rw [Tryz.params10] at ht
    have ht':t=26∨t=64:=by
     rcases j with _| _|j<;>simp at ht
     ·exact .inl ht.symm
     ·exact .inr (ht.symm)
    rcases ht' with rfl|rfl
    ·exact wants0
    ·exact wants1⟩)
  zk
end Go.Proofs.YtfhappbmgghgdaaGreatDoor
