/- Lemmas for the proof. No condition. -/
import Derived.Test.YtneajphgfdlmhaaGreatDoorBK01
import Derived.Test.YtneajphgfdlmhaaGreatDoorCards
import Derived.Test.YtneajphgfdlmhaaGreatDoorTie
import Derived.ChangeSame
import Derived.ChangeVars
import Derived.JoinedOf
import Derived.SevenTiedAt
import Derived.ChangeMaps5
import Derived.ChangeArms
import Derived.Carry
set_option linter.unusedVariables false
set_option linter.unusedSimpArgs false
set_option maxRecDepth 100000
set_option maxHeartbeats 16000000
namespace Go.Proofs.YtneajphgfdlmhaaGreatDoor
open Go Go.ChangeShapes Go.WideShapes Go.ChangeAt Go.RowKit Go.Proofs
theorem own:ownKnob Tryz.prog.godebug=none:=by kernel_rfl
theorem Jb (os:Os) (args:Array Value):laidMetH Tryz.prog Rows.labBackRow.laid ((World.doorLaid Tryz.prog 4000 os).forCall (fun _ _=>0) ⟨#[],args,[]⟩).memory:=by
 rw [MakeChecks.laidMetH_plain _ _ _ zk];exact laidMet_of_run' 8 zk zk
theorem Im (os:Os) (started:os.Started) (H:Type) (enc:TypeId × Value→H) :
  ReturnsInHanded {} Tryz.checked os 8 .any (fun w args=>(Rows.labBackSpec.pre enc Tryz.prog Tryz.f8 [] false w args∧laidMetH Tryz.prog Rows.labBackRow.laid w)∧sizedMet enc Tryz.prog Tryz.f8 (OpenSpec.ofChange Rows.labBackSpec) false w args)
   (Rows.labBackSpec.post enc Tryz.prog Tryz.f8 false true false false):=by
 refine returnsInHanded_of_change_and (C:=Tryz.checked) (X:=fun w _=>laidMetH Tryz.prog Rows.labBackRow.laid w) (fun _ _ _ hh h=>h.of_heap hh) own started zk Tryz.func8
  (ChangeSpec.witness_shaped (enc:=enc) (C:=Tryz.checked) (os:=os) (X:=fun w _=>laidMetH Tryz.prog Rows.labBackRow.laid w) false (World.doorLaid Tryz.prog 4000 os) #[.agg #[.int .u16 0,.int .i16 0,.int .i16 0],.agg #[.int .u16 0,.int .u16 0,.int .u16 0]] 8 rfl (World.shaped_of_RefB zk zk) zk zk zk (Jb os _)) ?_
 intro W base args ds gs before hval0 hW _ _ hL _;have hW':=hW;obtain ⟨p,q,hA0,hV,rfl,hfz,hnd⟩:=hW;have hA:DataW.TrodAll enc Tryz.prog W 0 (fun _=>true) true Tryz.f8.params.toList args.toList ds p:=hA0;rw [Tryz.params8] at hA;have hval:∀ (j:Nat) t v,Tryz.f8.params[j]? =some t→args[j]? =some v→Value.okWide Tryz.prog W .any base t v:=hval0;rw [Tryz.params8] at hval;obtain ⟨v0,vs0,d0,ds0,p0,q0,hargs,rfl,rfl,h0,hr0⟩:=trodAll_cons hA;obtain ⟨v1,vs1,d1,ds1,p1,q1,rfl,rfl,rfl,h1,hr1⟩:=trodAll_cons hr0;obtain ⟨rfl,rfl,rfl⟩:=trodAll_nil hr1;obtain rfl:args=#[v0,v1]:=by cases args;simp_all
 obtain ⟨rfl,rfl⟩:=trodVars_none hV;have h0k:=h0;obtain ⟨l0,rfl,hl0,hc0⟩:=uf (ts:=[22,47,47]) (n:=3) Tryz.underlying60 rfl zk zk rfl (hval 0 60 v0 rfl rfl);obtain ⟨bh9,bh8,bh7,rfl⟩:=Qu hl0;obtain ⟨aJ8,rfl,VG⟩:=jd Tryz.underlying22 (hc0 0 _ _ rfl rfl);replace VG:=nT VG;obtain ⟨aJ7,rfl,VF⟩:=jd Tryz.underlying47 (hc0 1 _ _ rfl rfl);replace VF:=XZ VF;obtain ⟨aJ6,rfl,VE⟩:=jd Tryz.underlying47 (hc0 2 _ _ rfl rfl);replace VE:=XZ VE;clear hc0 hl0;have h1k:=h1;obtain ⟨l1,rfl,hl1,hc1⟩:=uf (ts:=[22,22,22]) (n:=3) Tryz.underlying24 rfl zk zk rfl (hval 1 24 v1 rfl rfl);obtain ⟨bh6,bh5,bh4,rfl⟩:=Qu hl1;obtain ⟨aJ5,rfl,VD⟩:=jd Tryz.underlying22 (hc1 0 _ _ rfl rfl);replace VD:=nT VD;obtain ⟨aJ4,rfl,VB⟩:=jd Tryz.underlying22 (hc1 1 _ _ rfl rfl);replace VB:=nT VB
 obtain ⟨aJ3,rfl,Vz⟩:=jd Tryz.underlying22 (hc1 2 _ _ rfl rfl);replace Vz:=nT Vz;clear hc1 hl1;obtain ⟨hp,hc⟩:=Xw hL;simp only [List.nil_append,List.append_nil] at hW';have aM0:∀ x∈p0,x.block<W.heap.size:=fun x hx=>hW'.lt x (by simp [hx]);have hlt1:∀ x∈p1,x.block<W.heap.size:=fun x hx=>hW'.lt x (by simp [hx]);refine (verdigrislaw24.UK aJ8 aJ7 aJ6 aJ5 aJ4 aJ3 VG VF VE VD VB Vz W hp hc).mono fun e W' ⟨he,hb⟩=>?_;subst he;refine ⟨_,rfl,_,_,_,[],p0++p1,[],(by simpa using hW'),?_,?_,?_,hb.frame _,fun h=>by cases h⟩
 ·exact trodAll_mk1 (shut_bool Tryz.underlying4 true)
 ·exact ⟨p0,p1,Below.trod wH zk (of_decide_eq_true zk) h0k hb aM0,trodAll_mk1 (Below.trod wH zk (of_decide_eq_true zk) h1k hb hlt1),by simp⟩
 ·rfl
end Go.Proofs.YtneajphgfdlmhaaGreatDoor
