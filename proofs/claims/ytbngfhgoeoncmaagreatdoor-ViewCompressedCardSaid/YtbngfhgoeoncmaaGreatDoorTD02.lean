/- Lemmas for the proof. No condition. -/
import Derived.Test.YtbngfhgoeoncmaaGreatDoorTD01
import Derived.Test.YtbngfhgoeoncmaaGreatDoorCards
import Derived.Test.YtbngfhgoeoncmaaGreatDoorTie
import Derived.JoinedOf
import Derived.SevenTiedAt
import Derived.ChangeMaps5
import Derived.ChangeArms
import Derived.Carry
set_option linter.unusedVariables false
set_option linter.unusedSimpArgs false
set_option maxRecDepth 100000
set_option maxHeartbeats 16000000
open Go.Value renaming agg → aB, int → Z
namespace Go.Proofs.YtbngfhgoeoncmaaGreatDoor
open Go Go.ChangeShapes Go.WideShapes Go.ChangeAt Go.RowKit Go.Proofs
theorem own:ownKnob Tryz.prog.godebug=none:=by kernel_rfl
theorem Ai (os:Os) (args:Array Value):laidMetH Tryz.prog Rows.viewCompressedRow.laid ((World.doorLaid Tryz.prog 4000 os).forCall (fun _ _=>0) ⟨#[],args,[]⟩).memory:=by
 rw [MakeChecks.laidMetH_plain _ _ _ zk];exact laidMet_of_run' 8 zk zk
theorem qJ (os:Os) (started:os.Started) (H:Type) (enc:TypeId × Value→H) :
  ReturnsInHanded {} Tryz.checked os 3 .any (fun w args=>(Rows.viewCompressedSpec.pre enc Tryz.prog Tryz.f3 [] false w args∧laidMetH Tryz.prog Rows.viewCompressedRow.laid w)∧sizedMet enc Tryz.prog Tryz.f3 (OpenSpec.ofChange Rows.viewCompressedSpec) false w args)
   (Rows.viewCompressedSpec.post enc Tryz.prog Tryz.f3 false true false false):=by
 refine returnsInHanded_of_change_and (C:=Tryz.checked) (X:=fun w _=>laidMetH Tryz.prog Rows.viewCompressedRow.laid w) (fun _ _ _ hh h=>h.of_heap hh) own started zk Tryz.func3
  (ChangeSpec.witness_shaped (enc:=enc) (C:=Tryz.checked) (os:=os) (X:=fun w _=>laidMetH Tryz.prog Rows.viewCompressedRow.laid w) false (World.doorLaid Tryz.prog 4000 os) #[Z .u32 0,aB #[Z .u32 0,Z .u32 0],aB #[Z .u32 0,Z .u32 0]] 8 rfl (World.shaped_of_RefB zk zk) zk zk zk (Ai os _)) ?_
 intro W base args ds gs before hval0 hW _ _ hL _;have hW':=hW;obtain ⟨p,q,hA0,hV,rfl,hfz,hnd⟩:=hW;have hA:DataW.TrodAll enc Tryz.prog W 0 (fun _=>true) true Tryz.f3.params.toList args.toList ds p:=hA0;rw [Tryz.params3] at hA;have hval:∀ (j:Nat) t v,Tryz.f3.params[j]? =some t→args[j]? =some v→Value.okWide Tryz.prog W .any base t v:=hval0;rw [Tryz.params3] at hval;obtain ⟨v0,vs0,d0,ds0,p0,q0,hargs,rfl,rfl,h0,hr0⟩:=trodAll_cons hA;obtain ⟨v1,vs1,d1,ds1,p1,q1,rfl,rfl,rfl,h1,hr1⟩:=trodAll_cons hr0;obtain ⟨v2,vs2,d2,ds2,p2,q2,rfl,rfl,rfl,h2,hr2⟩:=trodAll_cons hr1;obtain ⟨rfl,rfl,rfl⟩:=trodAll_nil hr2;obtain rfl:args=#[v0,v1,v2]:=by cases args;simp_all
 obtain ⟨rfl,rfl⟩:=trodVars_none hV;obtain ⟨n,rfl,rfl,rfl,wn⟩:=open_int Tryz.underlying22 (hval 0 22 v0 rfl rfl) h0;have h1k:=h1;obtain ⟨l1,rfl,hl1,hc1⟩:=BZ (ts:=[22,22]) (n:=2) Tryz.underlying23 rfl zk zk rfl (hval 1 23 v1 rfl rfl);obtain ⟨ar9,ar8,rfl⟩:=UF hl1;obtain ⟨av4,rfl,Ua⟩:=vg Tryz.underlying22 (hc1 0 _ _ rfl rfl);replace Ua:=yc Ua;obtain ⟨av3,rfl,T9⟩:=vg Tryz.underlying22 (hc1 1 _ _ rfl rfl);replace T9:=yc T9;clear hc1 hl1;have h2k:=h2;obtain ⟨l2,rfl,hl2,hc2⟩:=BZ (ts:=[22,22]) (n:=2) Tryz.underlying23 rfl zk zk rfl (hval 2 23 v2 rfl rfl);obtain ⟨ar7,ar6,rfl⟩:=UF hl2;obtain ⟨av2,rfl,TY⟩:=vg Tryz.underlying22 (hc2 0 _ _ rfl rfl);replace TY:=yc TY;obtain ⟨av1,rfl,TW⟩:=vg Tryz.underlying22 (hc2 1 _ _ rfl rfl);replace TW:=yc TW;clear hc2 hl2;obtain ⟨hp,hc,hcn,hsr⟩:=Ke hL
 simp only [List.nil_append,List.append_nil] at hW';have hlt1:∀ x∈p1,x.block<W.heap.size:=fun x hx=>hW'.lt x (by simp [hx]);have hlt2:∀ x∈p2,x.block<W.heap.size:=fun x hx=>hW'.lt x (by simp [hx]);refine (verdigrislaw28.Bl (NS wn).1 (NS wn).2 Ua.1 Ua.2 T9.1 T9.2 TY.1 TY.2 TW.1 TW.2 W hp hc hcn hsr).mono fun e W' ⟨he,hb⟩=>?_;subst he;refine ⟨_,rfl,_,_,_,[],p1++p2,[],(by simpa using hW'),?_,?_,?_,hb.frame _,fun h=>by cases h⟩
 ·exact trodAll_mk1 (shut_bool Tryz.underlying4 true)
 ·exact ⟨[],p1++p2,shut_int Tryz.underlying22 wn,⟨p1,p2,Below.trod FK zk (of_decide_eq_true zk) h1k hb hlt1,trodAll_mk1 (Below.trod FK zk (of_decide_eq_true zk) h2k hb hlt2),by simp⟩,by simp⟩
 ·rfl
end Go.Proofs.YtbngfhgoeoncmaaGreatDoor
