import Derived.Test.YtneajphgfdlmhaaGreatDoorXB12
import Derived.Test.YtneajphgfdlmhaaGreatDoorCards
import Derived.Test.YtneajphgfdlmhaaGreatDoorTie
import Derived.ChangeSame
import Derived.ChangeVars
import Derived.JoinedOf
import Derived.SevenTiedAt
import Derived.ChangeMaps5
import Derived.ChangeArms
import Derived.Carry
set_option linter.unusedVariables false
set_option linter.unusedSimpArgs false
set_option maxRecDepth 100000
set_option maxHeartbeats 16000000
namespace Go.Proofs.YtneajphgfdlmhaaGreatDoor
open Go Go.ChangeShapes Go.WideShapes Go.ChangeAt Go.RowKit Go.Proofs
theorem own:ownKnob Tryz.prog.godebug=none:=by kernel_rfl
theorem ab4 (os:Os) (args:Array Value):laidMetH Tryz.prog Rows.labToRow.laid ((World.doorLaid Tryz.prog 4000 os).forCall (fun _ _=>0) ⟨#[],args,[]⟩).memory:=by
 rw [MakeChecks.laidMetH_plain _ _ _ zk];exact laidMet_of_run' 8 zk zk
theorem Kh (os:Os) (started:os.Started) (H:Type) (enc:TypeId × Value→H) :
  ReturnsInHanded {} Tryz.checked os 3 .any (fun w args=>(Rows.labToSpec.pre enc Tryz.prog Tryz.f3 [] false w args∧laidMetH Tryz.prog Rows.labToRow.laid w)∧sizedMet enc Tryz.prog Tryz.f3 (OpenSpec.ofChange Rows.labToSpec) false w args)
   (Rows.labToSpec.post enc Tryz.prog Tryz.f3 false true false false):=by
 refine returnsInHanded_of_change_and (C:=Tryz.checked) (X:=fun w _=>laidMetH Tryz.prog Rows.labToRow.laid w) (fun _ _ _ hh h=>h.of_heap hh) own started zk Tryz.func3
  (ChangeSpec.witness_shaped (enc:=enc) (C:=Tryz.checked) (os:=os) (X:=fun w _=>laidMetH Tryz.prog Rows.labToRow.laid w) false (World.doorLaid Tryz.prog 4000 os) #[.agg #[.int .u16 0,.int .u16 0,.int .u16 0],.agg #[.int .u16 0,.int .u16 0,.int .u16 0],.agg #[.int .u8 0,.string ⟨#[]⟩,.string ⟨#[]⟩]] 8 rfl (World.shaped_of_RefB zk zk) zk zk zk (ab4 os _)) ?_
 intro W base args ds gs before hval0 hW _ _ hL _;have hW':=hW;obtain ⟨p,q,hA0,hV,rfl,hfz,hnd⟩:=hW;have hA:DataW.TrodAll enc Tryz.prog W 0 (fun _=>true) true Tryz.f3.params.toList args.toList ds p:=hA0;rw [Tryz.params3] at hA;have hval:∀ (j:Nat) t v,Tryz.f3.params[j]? =some t→args[j]? =some v→Value.okWide Tryz.prog W .any base t v:=hval0;rw [Tryz.params3] at hval;obtain ⟨v0,vs0,d0,ds0,p0,q0,hargs,rfl,rfl,h0,hr0⟩:=trodAll_cons hA;obtain ⟨v1,vs1,d1,ds1,p1,q1,rfl,rfl,rfl,h1,hr1⟩:=trodAll_cons hr0;obtain ⟨v2,vs2,d2,ds2,p2,q2,rfl,rfl,rfl,h2,hr2⟩:=trodAll_cons hr1;obtain ⟨rfl,rfl,rfl⟩:=trodAll_nil hr2;obtain rfl:args=#[v0,v1,v2]:=by cases args;simp_all
 obtain ⟨rfl,rfl⟩:=trodVars_none hV;have h0k:=h0;obtain ⟨l0,rfl,hl0,hc0⟩:=Ak (ts:=[22,22,22]) (n:=3) Tryz.underlying24 rfl zk zk rfl (hval 0 24 v0 rfl rfl);obtain ⟨be8,be7,be6,rfl⟩:=Zr hl0;obtain ⟨aT4,rfl,aC8⟩:=oW Tryz.underlying22 (hc0 0 _ _ rfl rfl);replace aC8:=vQ aC8;obtain ⟨aT3,rfl,aC7⟩:=oW Tryz.underlying22 (hc0 1 _ _ rfl rfl);replace aC7:=vQ aC7;obtain ⟨aT2,rfl,aC6⟩:=oW Tryz.underlying22 (hc0 2 _ _ rfl rfl);replace aC6:=vQ aC6;clear hc0 hl0;have h1k:=h1;obtain ⟨l1,rfl,hl1,hc1⟩:=Ak (ts:=[22,22,22]) (n:=3) Tryz.underlying24 rfl zk zk rfl (hval 1 24 v1 rfl rfl);obtain ⟨be5,be4,be3,rfl⟩:=Zr hl1;obtain ⟨aT1,rfl,aC5⟩:=oW Tryz.underlying22 (hc1 0 _ _ rfl rfl);replace aC5:=vQ aC5;obtain ⟨aT0,rfl,aC4⟩:=oW Tryz.underlying22 (hc1 1 _ _ rfl rfl);replace aC4:=vQ aC4
 obtain ⟨aS9,rfl,aC3⟩:=oW Tryz.underlying22 (hc1 2 _ _ rfl rfl);replace aC3:=vQ aC3;clear hc1 hl1;have h2k:=h2;obtain ⟨l2,rfl,hl2,hc2⟩:=Ak (ts:=[5,9,9]) (n:=3) Tryz.underlying28 rfl zk zk rfl (hval 2 28 v2 rfl rfl);obtain ⟨be2,be1,be0,rfl⟩:=Zr hl2;obtain ⟨aS8,rfl,aC2⟩:=oW Tryz.underlying5 (hc2 0 _ _ rfl rfl);replace aC2:=az7 aC2;obtain ⟨aS7,rfl,bn3⟩:=Jf Tryz.underlying9 (hc2 1 _ _ rfl rfl);obtain ⟨aS6,rfl,bn2⟩:=Jf Tryz.underlying9 (hc2 2 _ _ rfl rfl);clear hc2 hl2;obtain ⟨hp,hc⟩:=aj3 hL;simp only [List.nil_append,List.append_nil] at hW';have aU7:∀ x∈p0,x.block<W.heap.size:=fun x hx=>hW'.lt x (by simp [hx]);have hlt1:∀ x∈p1,x.block<W.heap.size:=fun x hx=>hW'.lt x (by simp [hx]);have hlt2:∀ x∈p2,x.block<W.heap.size:=fun x hx=>hW'.lt x (by simp [hx])
 refine (verdigrislaw24.Zv aT4 aT3 aT2 aT1 aT0 aS9 aS8 aS7 aS6 aC8 aC7 aC6 aC5 aC4 aC3 aC2 W hp hc).mono fun e W' ⟨he,hb⟩=>?_;subst he;refine ⟨_,rfl,_,_,_,[],p0++p1++p2,[],(by simpa using hW'),?_,?_,?_,hb.frame _,fun h=>by cases h⟩
 ·exact trodAll_mk1 (shut_bool Tryz.underlying4 true)
 ·exact ⟨p0,p1++p2,Below.trod Dx zk (of_decide_eq_true zk) h0k hb aU7,⟨p1,p2,Below.trod Dx zk (of_decide_eq_true zk) h1k hb hlt1,trodAll_mk1 (Below.trod Dx zk (of_decide_eq_true zk) h2k hb hlt2),by simp⟩,by simp⟩
 ·rfl
end Go.Proofs.YtneajphgfdlmhaaGreatDoor
