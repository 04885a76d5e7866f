/- Lemmas for the proof. No condition. -/
import Derived.Test.YtneajphgfdlmhaaGreatDoorHK01
import Derived.Test.YtneajphgfdlmhaaGreatDoorCards
import Derived.Test.YtneajphgfdlmhaaGreatDoorTie
import Derived.ChangeSame
import Derived.ChangeVars
import Derived.JoinedOf
import Derived.SevenTiedAt
import Derived.ChangeMaps5
import Derived.ChangeArms
import Derived.Carry
set_option linter.unusedVariables false
set_option linter.unusedSimpArgs false
set_option maxRecDepth 100000
set_option maxHeartbeats 16000000
namespace Go.Proofs.YtneajphgfdlmhaaGreatDoor
open Go Go.ChangeShapes Go.WideShapes Go.ChangeAt Go.RowKit Go.Proofs
theorem own:ownKnob Tryz.prog.godebug=none:=by kernel_rfl
theorem Jb (os:Os) (args:Array Value):laidMetH Tryz.prog Rows.labHuesRow.laid ((World.doorLaid Tryz.prog 4000 os).forCall (fun _ _=>0) ⟨#[],args,[]⟩).memory:=by
 rw [MakeChecks.laidMetH_plain _ _ _ zk];exact laidMet_of_run' 8 zk zk
theorem labHues_lifted (os:Os) (started:os.Started) (H:Type) (enc:TypeId × Value→H) :
  ReturnsInHanded {} Tryz.checked os 6 .any (fun w args=>(Rows.labHuesSpec.pre enc Tryz.prog Tryz.f6 [] false w args∧laidMetH Tryz.prog Rows.labHuesRow.laid w)∧sizedMet enc Tryz.prog Tryz.f6 (OpenSpec.ofChange Rows.labHuesSpec) false w args)
   (Rows.labHuesSpec.post enc Tryz.prog Tryz.f6 false true false false):=by
 refine returnsInHanded_of_change_and (C:=Tryz.checked) (X:=fun w _=>laidMetH Tryz.prog Rows.labHuesRow.laid w) (fun _ _ _ hh h=>h.of_heap hh) own started zk Tryz.func6
  (ChangeSpec.witness_shaped (enc:=enc) (C:=Tryz.checked) (os:=os) (X:=fun w _=>laidMetH Tryz.prog Rows.labHuesRow.laid w) false (World.doorLaid Tryz.prog 4000 os) #[.agg #[.int .u16 0,.int .i16 0,.int .i16 0,.int .u32 0,.int .u32 0,.int .u32 0]] 8 rfl (World.shaped_of_RefB zk zk) zk zk zk (Jb os _)) ?_
 intro W base args ds gs before hval0 hW _ _ hL _;have hW':=hW;obtain ⟨p,q,hA0,hV,rfl,hfz,hnd⟩:=hW;have hA:DataW.TrodAll enc Tryz.prog W 0 (fun _=>true) true Tryz.f6.params.toList args.toList ds p:=hA0;rw [Tryz.params6] at hA;have hval:∀ (j:Nat) t v,Tryz.f6.params[j]? =some t→args[j]? =some v→Value.okWide Tryz.prog W .any base t v:=hval0;rw [Tryz.params6] at hval;obtain ⟨v0,vs0,d0,ds0,p0,q0,hargs,rfl,rfl,h0,hr0⟩:=trodAll_cons hA;obtain ⟨rfl,rfl,rfl⟩:=trodAll_nil hr0;obtain rfl:args=#[v0]:=by cases args;simp_all
 obtain ⟨rfl,rfl⟩:=trodVars_none hV;have h0k:=h0;obtain ⟨l0,rfl,hl0,hc0⟩:=uf (ts:=[22,47,47,61,61,61]) (n:=6) Tryz.underlying64 rfl zk zk rfl (hval 0 64 v0 rfl rfl);obtain ⟨bh9,bh8,bh7,x0_3,x0_4,x0_5,rfl⟩:=list6 hl0;obtain ⟨aJ8,rfl,VG⟩:=jd Tryz.underlying22 (hc0 0 _ _ rfl rfl);replace VG:=nT VG;obtain ⟨aJ7,rfl,VF⟩:=jd Tryz.underlying47 (hc0 1 _ _ rfl rfl);replace VF:=XZ VF;obtain ⟨aJ6,rfl,VE⟩:=jd Tryz.underlying47 (hc0 2 _ _ rfl rfl);replace VE:=XZ VE;obtain ⟨n0_3,rfl,b0_3⟩:=jd Tryz.underlying61 (hc0 3 _ _ rfl rfl);replace b0_3:=has_u32 b0_3;obtain ⟨n0_4,rfl,b0_4⟩:=jd Tryz.underlying61 (hc0 4 _ _ rfl rfl);replace b0_4:=has_u32 b0_4;obtain ⟨n0_5,rfl,b0_5⟩:=jd Tryz.underlying61 (hc0 5 _ _ rfl rfl);replace b0_5:=has_u32 b0_5;clear hc0 hl0;obtain ⟨hp,hc⟩:=Xw hL
 simp only [List.nil_append,List.append_nil] at hW';have aM0:∀ x∈p0,x.block<W.heap.size:=fun x hx=>hW'.lt x (by simp [hx]);refine (verdigrislaw24.labHues_ok aJ8 aJ7 aJ6 n0_3 n0_4 n0_5 VG VF VE b0_3 b0_4 b0_5 W hp hc).mono fun e W' ⟨he,hb⟩=>?_;subst he;refine ⟨_,rfl,_,_,_,[],p0,[],(by simpa using hW'),?_,?_,?_,hb.frame _,fun h=>by cases h⟩
 ·exact trodAll_mk1 (shut_bool Tryz.underlying4 true)
 ·exact trodAll_mk1 (Below.trod wH zk (of_decide_eq_true zk) h0k hb aM0)
 ·rfl
end Go.Proofs.YtneajphgfdlmhaaGreatDoor
