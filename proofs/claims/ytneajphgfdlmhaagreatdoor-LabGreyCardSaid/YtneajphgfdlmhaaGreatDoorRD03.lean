/- Lemmas for the proof. No condition. -/
import Derived.Test.YtneajphgfdlmhaaGreatDoorRB01
import Derived.Test.YtneajphgfdlmhaaGreatDoorRB05
import Derived.Test.YtneajphgfdlmhaaGreatDoorRD02
import Derived.Test.YtneajphgfdlmhaaGreatDoorCards
import Derived.Test.YtneajphgfdlmhaaGreatDoorTie
import Derived.ChangeSame
import Derived.ChangeVars
import Derived.JoinedOf
import Derived.SevenTiedAt
import Derived.ChangeMaps5
import Derived.ChangeArms
import Derived.Carry
set_option linter.unusedVariables false
set_option linter.unusedSimpArgs false
set_option maxRecDepth 100000
set_option maxHeartbeats 16000000
namespace Go.Proofs.YtneajphgfdlmhaaGreatDoor
open Go Go.ChangeShapes Go.WideShapes Go.ChangeAt Go.RowKit Go.Proofs
theorem own:ownKnob Tryz.prog.godebug=none:=by kernel_rfl
theorem IK (os:Os) (args:Array Value):laidMetH Tryz.prog Rows.labGreyRow.laid ((World.doorLaid Tryz.prog 4000 os).forCall (fun _ _=>0) ⟨#[],args,[]⟩).memory:=by
 rw [MakeChecks.laidMetH_plain _ _ _ zk];exact laidMet_of_run' 8 zk zk
theorem Ia (os:Os) (started:os.Started) (H:Type) (enc:TypeId × Value→H) :
  ReturnsInHanded {} Tryz.checked os 4 .any (fun w args=>(Rows.labGreySpec.pre enc Tryz.prog Tryz.f4 [] false w args∧laidMetH Tryz.prog Rows.labGreyRow.laid w)∧sizedMet enc Tryz.prog Tryz.f4 (OpenSpec.ofChange Rows.labGreySpec) false w args)
   (Rows.labGreySpec.post enc Tryz.prog Tryz.f4 false true false false):=by
 refine returnsInHanded_of_change_and (C:=Tryz.checked) (X:=fun w _=>laidMetH Tryz.prog Rows.labGreyRow.laid w) (fun _ _ _ hh h=>h.of_heap hh) own started zk Tryz.func4
  (ChangeSpec.witness_shaped (enc:=enc) (C:=Tryz.checked) (os:=os) (X:=fun w _=>laidMetH Tryz.prog Rows.labGreyRow.laid w) false (World.doorLaid Tryz.prog 4000 os) #[.agg #[.int .u16 0,.int .u16 0,.int .u16 0],.agg #[.int .i16 0,.int .u8 0],.agg #[.int .i16 0,.int .u8 0]] 8 rfl (World.shaped_of_RefB zk zk) zk zk zk (IK os _)) ?_
 intro W base args ds gs before hval0 hW _ _ hL _;have hW':=hW;obtain ⟨p,q,hA0,hV,rfl,hfz,hnd⟩:=hW;have hA:DataW.TrodAll enc Tryz.prog W 0 (fun _=>true) true Tryz.f4.params.toList args.toList ds p:=hA0;rw [Tryz.params4] at hA;have hval:∀ (j:Nat) t v,Tryz.f4.params[j]? =some t→args[j]? =some v→Value.okWide Tryz.prog W .any base t v:=hval0;rw [Tryz.params4] at hval;obtain ⟨v0,vs0,d0,ds0,p0,q0,hargs,rfl,rfl,h0,hr0⟩:=trodAll_cons hA;obtain ⟨v1,vs1,d1,ds1,p1,q1,rfl,rfl,rfl,h1,hr1⟩:=trodAll_cons hr0;obtain ⟨v2,vs2,d2,ds2,p2,q2,rfl,rfl,rfl,h2,hr2⟩:=trodAll_cons hr1;obtain ⟨rfl,rfl,rfl⟩:=trodAll_nil hr2;obtain rfl:args=#[v0,v1,v2]:=by cases args;simp_all
 obtain ⟨rfl,rfl⟩:=trodVars_none hV;have h0k:=h0;obtain ⟨l0,rfl,hl0,hc0⟩:=BM (ts:=[22,22,22]) (n:=3) Tryz.underlying24 rfl zk zk rfl (hval 0 24 v0 rfl rfl);obtain ⟨bE7,bE6,bE5,rfl⟩:=aX2 hl0;obtain ⟨bq0,rfl,aJ0⟩:=sM Tryz.underlying22 (hc0 0 _ _ rfl rfl);replace aJ0:=Nt aJ0;obtain ⟨bp9,rfl,aI9⟩:=sM Tryz.underlying22 (hc0 1 _ _ rfl rfl);replace aI9:=Nt aI9;obtain ⟨bp8,rfl,aI8⟩:=sM Tryz.underlying22 (hc0 2 _ _ rfl rfl);replace aI8:=Nt aI8;clear hc0 hl0;have h1k:=h1;obtain ⟨l1,rfl,hl1,hc1⟩:=BM (ts:=[47,5]) (n:=2) Tryz.underlying49 rfl zk zk rfl (hval 1 49 v1 rfl rfl);obtain ⟨bE4,bE3,rfl⟩:=aw8 hl1;obtain ⟨bp7,rfl,aI7⟩:=sM Tryz.underlying47 (hc1 0 _ _ rfl rfl);replace aI7:=VG aI7;obtain ⟨bp6,rfl,aI6⟩:=sM Tryz.underlying5 (hc1 1 _ _ rfl rfl);replace aI6:=ac7 aI6;clear hc1 hl1;have h2k:=h2
 obtain ⟨l2,rfl,hl2,hc2⟩:=BM (ts:=[47,5]) (n:=2) Tryz.underlying49 rfl zk zk rfl (hval 2 49 v2 rfl rfl);obtain ⟨bE2,bE1,rfl⟩:=aw8 hl2;obtain ⟨bp5,rfl,aI5⟩:=sM Tryz.underlying47 (hc2 0 _ _ rfl rfl);replace aI5:=VG aI5;obtain ⟨bp4,rfl,aI4⟩:=sM Tryz.underlying5 (hc2 1 _ _ rfl rfl);replace aI4:=ac7 aI4;clear hc2 hl2;obtain ⟨hp,hc⟩:=Vq hL;simp only [List.nil_append,List.append_nil] at hW';have bs1:∀ x∈p0,x.block<W.heap.size:=fun x hx=>hW'.lt x (by simp [hx]);have hlt1:∀ x∈p1,x.block<W.heap.size:=fun x hx=>hW'.lt x (by simp [hx]);have hlt2:∀ x∈p2,x.block<W.heap.size:=fun x hx=>hW'.lt x (by simp [hx]);refine (verdigrislaw24.Ti bq0 bp9 bp8 bp7 bp6 bp5 bp4 aJ0 aI9 aI8 aI7 aI6 aI5 aI4 W hp hc).mono fun e W' ⟨he,hb⟩=>?_;subst he;refine ⟨_,rfl,_,_,_,[],p0++p1++p2,[],(by simpa using hW'),?_,?_,?_,hb.frame _,fun h=>by cases h⟩
 ·exact trodAll_mk1 (shut_bool Tryz.underlying4 true)
 ·exact ⟨p0,p1++p2,Below.trod Hw zk (of_decide_eq_true zk) h0k hb bs1,⟨p1,p2,Below.trod Hw zk (of_decide_eq_true zk) h1k hb hlt1,trodAll_mk1 (Below.trod Hw zk (of_decide_eq_true zk) h2k hb hlt2),by simp⟩,by simp⟩
 ·rfl
end Go.Proofs.YtneajphgfdlmhaaGreatDoor
