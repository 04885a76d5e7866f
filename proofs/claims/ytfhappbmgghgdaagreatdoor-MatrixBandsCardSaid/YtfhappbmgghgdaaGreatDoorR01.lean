/- verdigrislaw05.MatrixBands returns true. Conditions: those of the given row. -/
import Derived.Test.YtfhappbmgghgdaaGreatDoorWB01
import Derived.Test.YtfhappbmgghgdaaGreatDoorWB02
import Derived.Test.YtfhappbmgghgdaaGreatDoorWB03
import Derived.Test.YtfhappbmgghgdaaGreatDoorWB04
import Derived.Test.YtfhappbmgghgdaaGreatDoorWB05
import Derived.Test.YtfhappbmgghgdaaGreatDoorWB06
import Derived.Test.YtfhappbmgghgdaaGreatDoorWB07
import Derived.Test.YtfhappbmgghgdaaGreatDoorWB08
import Derived.Test.YtfhappbmgghgdaaGreatDoorWB09
import Derived.Test.YtfhappbmgghgdaaGreatDoorWB10
import Derived.Test.YtfhappbmgghgdaaGreatDoorWB11
import Derived.Test.YtfhappbmgghgdaaGreatDoorWB12
import Derived.Test.YtfhappbmgghgdaaGreatDoorWB13
import Derived.Test.YtfhappbmgghgdaaGreatDoorWB14
import Derived.Test.YtfhappbmgghgdaaGreatDoorWB15
import Derived.Test.YtfhappbmgghgdaaGreatDoorWB16
import Derived.Test.YtfhappbmgghgdaaGreatDoorWB17
import Derived.Test.YtfhappbmgghgdaaGreatDoorWB18
import Derived.Test.YtfhappbmgghgdaaGreatDoorWB19
import Derived.Test.YtfhappbmgghgdaaGreatDoorCards
import Derived.Test.YtfhappbmgghgdaaGreatDoorTie
import Derived.ChangeSame
import Derived.ChangeVars
import Derived.JoinedOf
import Derived.SevenTiedAt
import Derived.ChangeMaps5
import Derived.ChangeArms
import Derived.Carry
set_option linter.unusedVariables false
set_option linter.unusedSimpArgs false
set_option maxRecDepth 100000
set_option maxHeartbeats 16000000
namespace Go.Proofs.YtfhappbmgghgdaaGreatDoor
open Go Go.ChangeShapes Go.WideShapes Go.ChangeAt Go.RowKit Go.Proofs
theorem own:ownKnob Tryz.prog.godebug=none:=by kernel_rfl
theorem door_met (os:Os) (args:Array Value):laidMetH Tryz.prog Rows.matrixBandsRow.laid ((World.doorLaid Tryz.prog 4000 os).forCall (fun _ _=>0) ⟨#[],args,[]⟩).memory:=by
 rw [MakeChecks.laidMetH_plain _ _ _ zk];exact laidMet_of_run' 8 zk zk
theorem laidOut5:laidOutB Tryz.prog=true:=by kernel_rfl
theorem matrixBands_lifted (os:Os) (started:os.Started) (H:Type) (enc:TypeId × Value→H) :
  ReturnsInHanded {} Tryz.checked os 6 .any (fun w args=>(Rows.matrixBandsSpec.pre enc Tryz.prog Tryz.f6 [] false w args∧laidMetH Tryz.prog Rows.matrixBandsRow.laid w)∧sizedMet enc Tryz.prog Tryz.f6 (OpenSpec.ofChange Rows.matrixBandsSpec) false w args)
   (Rows.matrixBandsSpec.post enc Tryz.prog Tryz.f6 false true false false):=by
 refine returnsInHanded_of_change_and (C:=Tryz.checked) (X:=fun w _=>laidMetH Tryz.prog Rows.matrixBandsRow.laid w) (fun _ _ _ hh h=>h.of_heap hh) own started zk Tryz.func6
  (ChangeSpec.witness_shaped (enc:=enc) (C:=Tryz.checked) (os:=os) (X:=fun w _=>laidMetH Tryz.prog Rows.matrixBandsRow.laid w) false (World.doorLaid Tryz.prog 4000 os) #[.agg #[.slice none 0 0,.slice none 0 0,.int .u8 0,.int .u8 0,.slice none 0 0,.int .u8 0,.int .u8 0,.slice none 0 0],.slice none 0 0,.slice none 0 0] 8 rfl (World.shaped_of_RefB zk zk) zk zk zk (door_met os _)) ?_
 intro W base args ds gs before hval0 hW _ _ hL _;have hW':=hW;obtain ⟨p,q,hA0,hV,rfl,hfz,hnd⟩:=hW;have hA:DataW.TrodAll enc Tryz.prog W 0 (fun _=>true) true Tryz.f6.params.toList args.toList ds p:=hA0;rw [Tryz.params6] at hA;have hval:∀ (j:Nat) t v,Tryz.f6.params[j]? =some t→args[j]? =some v→Value.okWide Tryz.prog W .any base t v:=hval0;rw [Tryz.params6] at hval;obtain ⟨v0,vs0,d0,ds0,p0,q0,hargs,rfl,rfl,h0,hr0⟩:=trodAll_cons hA;obtain ⟨v1,vs1,d1,ds1,p1,q1,rfl,rfl,rfl,h1,hr1⟩:=trodAll_cons hr0;obtain ⟨v2,vs2,d2,ds2,p2,q2,rfl,rfl,rfl,h2,hr2⟩:=trodAll_cons hr1;obtain ⟨rfl,rfl,rfl⟩:=trodAll_nil hr2;obtain rfl:args=#[v0,v1,v2]:=by cases args;simp_all
 obtain ⟨rfl,rfl⟩:=trodVars_none hV;have h0k:=h0;obtain ⟨A,B,r,c,vX,r1,c1,vY,mA,mB,rfl,kA,kB,hr_,hc_,hr1_,hc1_,hd,hd1⟩:=opn_two (hval 0 28 v0 rfl rfl) h0;have h1k:=h1;obtain ⟨l1,w1⟩:=open_bands (hval 1 63 v1 rfl rfl) h1;have h2k:=h2;obtain ⟨l2,w2⟩:=open_drafts (hval 2 64 v2 rfl rfl) h2;obtain ⟨hp,hc⟩:=of_laid hL;simp only [List.nil_append,List.append_nil] at hW';have hlt0:∀ x∈p0,x.block<W.heap.size:=fun x hx=>hW'.lt x (by simp [hx]);have hlt1:∀ x∈p1,x.block<W.heap.size:=fun x hx=>hW'.lt x (by simp [hx]);have hlt2:∀ x∈p2,x.block<W.heap.size:=fun x hx=>hW'.lt x (by simp [hx]);refine (verdigrislaw05.bands_ok r c r1 c1 A B vX vY _ _ mA l1 l2 W hr_ hc_ hp hc kA (TN.sl kB) hd hd1 w1 w2).mono fun e W' ⟨he,hb⟩=>?_;subst he;refine ⟨_,rfl,_,_,_,[],p0++p1++p2,[],(by simpa using hW'),?_,?_,?_,hb.frame _,fun h=>by cases h⟩
 ·exact trodAll_mk1 (shut_bool Tryz.underlying4 true)
 ·exact ⟨p0,p1++p2,Below.trod laidOut5 zk (of_decide_eq_true zk) h0k hb hlt0,⟨p1,p2,Below.trod laidOut5 zk (of_decide_eq_true zk) h1k hb hlt1,trodAll_mk1 (Below.trod laidOut5 zk (of_decide_eq_true zk) h2k hb hlt2),by simp⟩,by simp⟩
 ·rfl
theorem matrixBands_holds:Rows.MatrixBandsSaid :=
 OpenClaim.holds_of_wide 6 Tryz.f6 rfl rfl rfl rfl rfl rfl rfl ⟨rfl,rfl,rfl,rfl,rfl⟩ rfl rfl rfl rfl rfl zk Tryz.func6 (by unfold joinedFacts;simp only [Bool.and_eq_true];and_intros<;>(as_aux_lemma=>kernel_rfl))
  (of_decide_eq_true zk) (by unfold Func.isWrapper;first|(rw [if_pos (by decide+kernel)];kernel_rfl)|(rw [if_neg (by decide+kernel)];exact ⟨rfl,rfl⟩))
  (fun os started H enc _=>matrixBands_lifted os started H enc)
theorem wants0:Tryz.prog.wantsStandIn 28=false:=by kernel_rfl
theorem wants1:Tryz.prog.wantsStandIn 63=false:=by kernel_rfl
theorem wants2:Tryz.prog.wantsStandIn 64=false:=by kernel_rfl
theorem matrixBands_card:Rows.MatrixBandsCardSaid :=
 Claim7.holds_tied_plain_at .later [] [.data, .data, .data, .sentinel, .sentinel] true (true, "884288cd6187cd34840763c0a1bac9146cd11b6622726d83bc9cd5a3870446e9") true
  matrixBands_holds (fun _ h=>by cases h) zk (fun _ h=>by cases h) matrixBands_row_tie rfl ⟨rfl,rfl⟩ zk rfl
  (fun f fn hf hfn=>by
   obtain rfl : f = 6 := Option.some.inj ((show Tryz.prog.funcNamed "verdigris/verdigrislaw05.MatrixBands" = some 6 by kernel_rfl).symm.trans hf) |>.symm
   obtain rfl:fn=Tryz.f6:=(Option.some.inj (Tryz.func6.symm.trans hfn)).symm
   exact ⟨by kernel_rfl,fun j t ht=>by
    rw [Tryz.params6] at ht
    have ht':t=28∨t=63∨t=64:=by
     rcases j with _| _| _|j<;>simp at ht
     ·exact .inl ht.symm
     ·exact .inr (.inl ht.symm)
     ·exact .inr (.inr (ht.symm))
    rcases ht' with rfl|rfl|rfl
    ·exact wants0
    ·exact wants1
    ·exact wants2⟩)
  zk
end Go.Proofs.YtfhappbmgghgdaaGreatDoor
