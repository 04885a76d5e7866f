/- verdigrislaw05.MatrixInverses returns true. Conditions: those of the given row. -/
import Derived.Test.YtfhappbmgghgdaaGreatDoorH01
import Derived.Test.YtfhappbmgghgdaaGreatDoorH02
import Derived.Test.YtfhappbmgghgdaaGreatDoorH03
import Derived.Test.YtfhappbmgghgdaaGreatDoorCards
import Derived.Test.YtfhappbmgghgdaaGreatDoorTie
import Derived.ChangeSame
import Derived.ChangeVars
import Derived.JoinedOf
import Derived.SevenTiedAt
import Derived.ChangeMaps5
import Derived.ChangeArms
import Derived.Carry
set_option linter.unusedVariables false
set_option linter.unusedSimpArgs false
set_option maxRecDepth 100000
set_option maxHeartbeats 16000000
namespace Go.Proofs.YtfhappbmgghgdaaGreatDoor
open Go Go.ChangeShapes Go.WideShapes Go.ChangeAt Go.RowKit Go.Proofs
theorem own:ownKnob Tryz.prog.godebug=none:=by kernel_rfl
theorem door_met (os:Os) (args:Array Value):laidMetH Tryz.prog Rows.matrixInversesRow.laid ((World.doorLaid Tryz.prog 4000 os).forCall (fun _ _=>0) ⟨#[],args,[]⟩).memory:=by
 rw [MakeChecks.laidMetH_plain _ _ _ zk]
 exact laidMet_of_run' 8 zk zk
theorem laidOut5:laidOutB Tryz.prog=true:=by kernel_rfl
theorem matrixInverses_lifted (os:Os) (started:os.Started) (H:Type) (enc:TypeId × Value→H) :
  ReturnsInHanded {} Tryz.checked os 5 .any (fun w args=>(Rows.matrixInversesSpec.pre enc Tryz.prog Tryz.f5 [] false w args∧laidMetH Tryz.prog Rows.matrixInversesRow.laid w)∧sizedMet enc Tryz.prog Tryz.f5 (OpenSpec.ofChange Rows.matrixInversesSpec) false w args)
   (Rows.matrixInversesSpec.post enc Tryz.prog Tryz.f5 false true false false):=by
 refine returnsInHanded_of_change_and (C:=Tryz.checked) (X:=fun w _=>laidMetH Tryz.prog Rows.matrixInversesRow.laid w) (fun _ _ _ hh h=>h.of_heap hh) own started zk Tryz.func5
  (ChangeSpec.witness_shaped (enc:=enc) (C:=Tryz.checked) (os:=os) (X:=fun w _=>laidMetH Tryz.prog Rows.matrixInversesRow.laid w) false (World.doorLaid Tryz.prog 4000 os) #[.agg #[.slice none 0 0,.slice none 0 0,.int .u8 0,.int .u8 0,.slice none 0 0,.int .u8 0,.int .u8 0,.slice none 0 0]] 8 rfl (World.shaped_of_RefB zk zk) zk zk zk (door_met os _)) ?_
 intro W base args ds gs before hval0 hW _ _ hL _
 have hW':=hW
 obtain ⟨p,q,hA0,hV,rfl,hfz,hnd⟩:=hW
 have hA:DataW.TrodAll enc Tryz.prog W 0 (fun _=>true) true Tryz.f5.params.toList args.toList ds p:=hA0
 rw [Tryz.params5] at hA
 have hval:∀ (j:Nat) t v,Tryz.f5.params[j]? =some t→args[j]? =some v→Value.okWide Tryz.prog W .any base t v:=hval0
 rw [Tryz.params5] at hval
 obtain ⟨v0,vs0,d0,ds0,p0,q0,hargs,rfl,rfl,h0,hr0⟩:=trodAll_cons hA
 obtain ⟨rfl,rfl,rfl⟩:=trodAll_nil hr0
 obtain rfl:args=#[v0]:=by cases args;simp_all
 obtain ⟨rfl,rfl⟩:=trodVars_none hV
 have h0k:=h0
 obtain ⟨A,B,r,c,v1,r1,c1,v2,mA,mB,rfl,hA,hB,hr_,hc_,hr1_,hc1_,hd,hd1⟩:=opn_two (hval 0 28 v0 rfl rfl) h0
 obtain ⟨hp,hc⟩:=of_laid hL
 simp only [List.nil_append,List.append_nil] at hW'
 have hlt0:∀ x∈p0,x.block<W.heap.size:=fun x hx=>hW'.lt x (by simp [hx])
 refine (verdigrislaw05.inverses_ok r c r1 c1 A B v1 v2 mA W hr_ hc_ hr1_ hp hc hA (MaR.sl hB) hd hd1).mono fun e W' ⟨he,hb⟩=>?_
 subst he
 refine ⟨_,rfl,_,_,_,[],p0,[],(by simpa using hW'),?_,?_,?_,hb.frame _,fun h=>by cases h⟩
 ·exact trodAll_mk1 (shut_bool Tryz.underlying4 true)
 ·exact trodAll_mk1 (Below.trod laidOut5 zk (of_decide_eq_true zk) h0k hb hlt0)
 ·rfl
theorem matrixInverses_holds:Rows.MatrixInversesSaid :=
 OpenClaim.holds_of_wide 5 Tryz.f5 rfl rfl rfl rfl rfl rfl rfl ⟨rfl,rfl,rfl,rfl,rfl⟩ rfl rfl rfl rfl rfl zk Tryz.func5 (by unfold joinedFacts;simp only [Bool.and_eq_true];and_intros<;>(as_aux_lemma=>kernel_rfl))
  (of_decide_eq_true zk) (by unfold Func.isWrapper;first|(rw [if_pos (by decide+kernel)];kernel_rfl)|(rw [if_neg (by decide+kernel)];exact ⟨rfl,rfl⟩))
  (fun os started H enc _=>matrixInverses_lifted os started H enc)
theorem wants0:Tryz.prog.wantsStandIn 28=false:=by kernel_rfl
theorem matrixInverses_card:Rows.MatrixInversesCardSaid :=
 Claim7.holds_tied_plain_at .later [] [.data, .data, .data, .sentinel, .sentinel] true (true, "884288cd6187cd34840763c0a1bac9146cd11b6622726d83bc9cd5a3870446e9") true
  matrixInverses_holds (fun _ h=>by cases h) zk (fun _ h=>by cases h) matrixInverses_row_tie rfl ⟨rfl,rfl⟩ zk rfl
  (fun f fn hf hfn=>by
   obtain rfl : f = 5 := Option.some.inj ((show Tryz.prog.funcNamed "verdigris/verdigrislaw05.MatrixInverses" = some 5 by kernel_rfl).symm.trans hf) |>.symm
   obtain rfl:fn=Tryz.f5:=(Option.some.inj (Tryz.func5.symm.trans hfn)).symm
   exact ⟨by kernel_rfl,fun j t ht=>by
    rw [Tryz.params5] at ht
    have ht':t=28:=by
     rcases j with _|j<;>simp at ht
     ·exact ht.symm
    subst ht'
    exact wants0⟩)
  zk
end Go.Proofs.YtfhappbmgghgdaaGreatDoor
