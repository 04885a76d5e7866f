/- Lemmas for the proof. No condition. -/
import Derived.Test.YtbngfhgoeoncmaaGreatDoorWC01
import Derived.Test.YtbngfhgoeoncmaaGreatDoorCards
import Derived.Test.YtbngfhgoeoncmaaGreatDoorTie
import Derived.JoinedOf
import Derived.SevenTiedAt
import Derived.ChangeMaps5
import Derived.ChangeArms
import Derived.Carry
set_option linter.unusedVariables false
set_option linter.unusedSimpArgs false
set_option maxRecDepth 100000
set_option maxHeartbeats 16000000
open Go.Value renaming agg → aB, int → Z
namespace Go.Proofs.YtbngfhgoeoncmaaGreatDoor
open Go Go.ChangeShapes Go.WideShapes Go.ChangeAt Go.RowKit Go.Proofs
theorem own:ownKnob Tryz.prog.godebug=none:=by kernel_rfl
theorem FT (os:Os) (args:Array Value):laidMetH Tryz.prog Rows.viewSurroundsRow.laid ((World.doorLaid Tryz.prog 4000 os).forCall (fun _ _=>0) ⟨#[],args,[]⟩).memory:=by
 rw [MakeChecks.laidMetH_plain _ _ _ zk];exact laidMet_of_run' 8 zk zk
theorem vK (os:Os) (started:os.Started) (H:Type) (enc:TypeId × Value→H) :
  ReturnsInHanded {} Tryz.checked os 5 .any (fun w args=>(Rows.viewSurroundsSpec.pre enc Tryz.prog Tryz.f5 [] false w args∧laidMetH Tryz.prog Rows.viewSurroundsRow.laid w)∧sizedMet enc Tryz.prog Tryz.f5 (OpenSpec.ofChange Rows.viewSurroundsSpec) false w args)
   (Rows.viewSurroundsSpec.post enc Tryz.prog Tryz.f5 false true false false):=by
 refine returnsInHanded_of_change_and (C:=Tryz.checked) (X:=fun w _=>laidMetH Tryz.prog Rows.viewSurroundsRow.laid w) (fun _ _ _ hh h=>h.of_heap hh) own started zk Tryz.func5
  (ChangeSpec.witness_shaped (enc:=enc) (C:=Tryz.checked) (os:=os) (X:=fun w _=>laidMetH Tryz.prog Rows.viewSurroundsRow.laid w) false (World.doorLaid Tryz.prog 4000 os) #[aB #[Z .u8 0,Z .u8 0,Z .u8 0,Z .u8 0,Z .u16 0,Z .u8 0,Z .u8 0],Z .u8 0] 8 rfl (World.shaped_of_RefB zk zk) zk zk zk (FT os _)) ?_
 intro W base args ds gs before hval0 hW _ _ hL _;have hW':=hW;obtain ⟨p,q,hA0,hV,rfl,hfz,hnd⟩:=hW;have hA:DataW.TrodAll enc Tryz.prog W 0 (fun _=>true) true Tryz.f5.params.toList args.toList ds p:=hA0;rw [Tryz.params5] at hA;have hval:∀ (j:Nat) t v,Tryz.f5.params[j]? =some t→args[j]? =some v→Value.okWide Tryz.prog W .any base t v:=hval0;rw [Tryz.params5] at hval;obtain ⟨v0,vs0,d0,ds0,p0,q0,hargs,rfl,rfl,h0,hr0⟩:=trodAll_cons hA;obtain ⟨v1,vs1,d1,ds1,p1,q1,rfl,rfl,rfl,h1,hr1⟩:=trodAll_cons hr0;obtain ⟨rfl,rfl,rfl⟩:=trodAll_nil hr1;obtain rfl:args=#[v0,v1]:=by cases args;simp_all
 obtain ⟨rfl,rfl⟩:=trodVars_none hV;have h0k:=h0;obtain ⟨l0,rfl,hl0,hc0⟩:=IY (ts:=[5,5,5,5,33,5,5]) (n:=7) Tryz.underlying35 rfl zk zk rfl (hval 0 35 v0 rfl rfl);obtain ⟨aQ6,aQ5,aQ4,aQ3,aQ2,aQ1,aQ0,rfl⟩:=af2 hl0;obtain ⟨aT5,rfl,KE⟩:=jR Tryz.underlying5 (hc0 0 _ _ rfl rfl);replace KE:=pQ KE;obtain ⟨aT4,rfl,Kz⟩:=jR Tryz.underlying5 (hc0 1 _ _ rfl rfl);replace Kz:=pQ Kz;obtain ⟨aT3,rfl,Ky⟩:=jR Tryz.underlying5 (hc0 2 _ _ rfl rfl);replace Ky:=pQ Ky;obtain ⟨aT2,rfl,Kw⟩:=jR Tryz.underlying5 (hc0 3 _ _ rfl rfl);replace Kw:=pQ Kw;obtain ⟨aT1,rfl,Kv⟩:=jR Tryz.underlying33 (hc0 4 _ _ rfl rfl);replace Kv:=Q7 Kv;obtain ⟨aT0,rfl,Kq⟩:=jR Tryz.underlying5 (hc0 5 _ _ rfl rfl);replace Kq:=pQ Kq;obtain ⟨aS9,rfl,Ko⟩:=jR Tryz.underlying5 (hc0 6 _ _ rfl rfl)
 replace Ko:=pQ Ko;clear hc0 hl0;obtain ⟨n,rfl,rfl,rfl,wn⟩:=open_int Tryz.underlying5 (hval 1 5 v1 rfl rfl) h1;obtain ⟨hp,hc,hcn,hsr⟩:=QN hL;simp only [List.nil_append,List.append_nil] at hW';have as4:∀ x∈p0,x.block<W.heap.size:=fun x hx=>hW'.lt x (by simp [hx]);refine (verdigrislaw28.Jv KE.1 Kz.1 Ky.1 Kw.1 Kv.1 Kq.1 Ko.1 KE.2 Kz.2 Ky.2 Kw.2 Kv.2 Kq.2 Ko.2 (ae6 wn).1 (ae6 wn).2 W hp hc hcn hsr).mono fun e W' ⟨he,hb⟩=>?_;subst he;refine ⟨_,rfl,_,_,_,[],p0,[],(by simpa using hW'),?_,?_,?_,hb.frame _,fun h=>by cases h⟩
 ·exact trodAll_mk1 (shut_bool Tryz.underlying4 true)
 ·exact ⟨p0,[],Below.trod Mk zk (of_decide_eq_true zk) h0k hb as4,trodAll_mk1 (shut_int Tryz.underlying5 wn),by simp⟩
 ·rfl
end Go.Proofs.YtbngfhgoeoncmaaGreatDoor
