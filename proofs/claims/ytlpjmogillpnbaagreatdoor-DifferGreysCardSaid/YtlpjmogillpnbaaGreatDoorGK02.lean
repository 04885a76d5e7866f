/- Lemmas for the proof. No condition. -/
import Derived.Test.YtlpjmogillpnbaaGreatDoorGK01
import Derived.Test.YtlpjmogillpnbaaGreatDoorCards
import Derived.Test.YtlpjmogillpnbaaGreatDoorTie
import Derived.ChangeSame
import Derived.ChangeVars
import Derived.JoinedOf
import Derived.SevenTiedAt
import Derived.ChangeMaps5
import Derived.ChangeArms
import Derived.Carry
import Derived.Lay
set_option linter.unusedVariables false
set_option linter.unusedSimpArgs false
set_option maxRecDepth 100000
set_option maxHeartbeats 16000000
namespace Go.Proofs.YtlpjmogillpnbaaGreatDoor
open Go Go.ChangeShapes Go.WideShapes Go.ChangeAt Go.RowKit Go.Proofs
theorem own:ownKnob Tryz.prog.godebug=none:=by kernel_rfl
theorem yG (os:Os) (args:Array Value):laidMetH Tryz.prog Rows.differGreysRow.laid ((World.laidAll Tryz.prog os Rows.differGreysRow.laid).forCall (fun _ _=>0) ⟨#[],args,[]⟩).memory:=by
 rw [MakeChecks.laidMetH_plain _ _ _ zk];exact laidMet_laidAll _ zk zk
theorem differGreys_lifted (os:Os) (started:os.Started) (H:Type) (enc:TypeId × Value→H) :
  ReturnsInHanded {} Tryz.checked os 7 .any (fun w args=>(Rows.differGreysSpec.pre enc Tryz.prog Tryz.f7 [] false w args∧laidMetH Tryz.prog Rows.differGreysRow.laid w)∧sizedMet enc Tryz.prog Tryz.f7 (OpenSpec.ofChange Rows.differGreysSpec) false w args)
   (Rows.differGreysSpec.post enc Tryz.prog Tryz.f7 false true false false):=by
 refine returnsInHanded_of_change_and (C:=Tryz.checked) (X:=fun w _=>laidMetH Tryz.prog Rows.differGreysRow.laid w) (fun _ _ _ hh h=>h.of_heap hh) own started zk Tryz.func7
  (ChangeSpec.witness_shaped (enc:=enc) (C:=Tryz.checked) (os:=os) (X:=fun w _=>laidMetH Tryz.prog Rows.differGreysRow.laid w) false (World.laidAll Tryz.prog os Rows.differGreysRow.laid) #[.int .u16 0,.int .u16 0,.agg #[.int .i16 0,.int .u8 0]] 8 (World.laidAll_os _ _ _) (World.shaped_of_ZipB zk zk) zk zk zk (yG os _)) ?_
 intro W base args ds gs before hval0 hW _ _ hL _;have hW':=hW;obtain ⟨p,q,hA0,hV,rfl,hfz,hnd⟩:=hW;have hA:DataW.TrodAll enc Tryz.prog W 0 (fun _=>true) true Tryz.f7.params.toList args.toList ds p:=hA0;rw [Tryz.params7] at hA;have hval:∀ (j:Nat) t v,Tryz.f7.params[j]? =some t→args[j]? =some v→Value.okWide Tryz.prog W .any base t v:=hval0;rw [Tryz.params7] at hval;obtain ⟨v0,vs0,d0,ds0,p0,q0,hargs,rfl,rfl,h0,hr0⟩:=trodAll_cons hA;obtain ⟨v1,vs1,d1,ds1,p1,q1,rfl,rfl,rfl,h1,hr1⟩:=trodAll_cons hr0;obtain ⟨v2,vs2,d2,ds2,p2,q2,rfl,rfl,rfl,h2,hr2⟩:=trodAll_cons hr1;obtain ⟨rfl,rfl,rfl⟩:=trodAll_nil hr2;obtain rfl:args=#[v0,v1,v2]:=by cases args;simp_all
 obtain ⟨rfl,rfl⟩:=trodVars_none hV;obtain ⟨n,rfl,rfl,rfl,wn⟩:=open_int Tryz.underlying22 (hval 0 22 v0 rfl rfl) h0;obtain ⟨m,rfl,rfl,rfl,wm⟩:=open_int Tryz.underlying22 (hval 1 22 v1 rfl rfl) h1;have h2k:=h2;obtain ⟨l2,rfl,hl2,hc2⟩:=Ao (ts:=[23,5]) (n:=2) Tryz.underlying41 rfl zk zk rfl (hval 2 41 v2 rfl rfl);obtain ⟨x2_0,x2_1,rfl⟩:=list2 hl2;obtain ⟨n2_0,rfl,b2_0⟩:=oq Tryz.underlying23 (hc2 0 _ _ rfl rfl);replace b2_0:=wL b2_0;obtain ⟨n2_1,rfl,b2_1⟩:=oq Tryz.underlying5 (hc2 1 _ _ rfl rfl);replace b2_1:=has_u8 b2_1;clear hc2 hl2;obtain ⟨hp,hc⟩:=IE hL;simp only [List.nil_append,List.append_nil] at hW';have hlt2:∀ x∈p2,x.block<W.heap.size:=fun x hx=>hW'.lt x (by simp [hx]);refine (verdigrislaw27.greys_ok n m n2_0 n2_1 (u16_wf wn) (u16_wf wm) b2_0 b2_1 W hp hc).mono fun e W' ⟨he,hb⟩=>?_;subst he
 refine ⟨_,rfl,_,_,_,[],p2,[],(by simpa using hW'),?_,?_,?_,hb.frame _,fun h=>by cases h⟩
 ·exact trodAll_mk1 (shut_bool Tryz.underlying4 true)
 ·exact ⟨[],p2,shut_int Tryz.underlying22 wn,⟨[],p2,shut_int Tryz.underlying22 wm,trodAll_mk1 (Below.trod Dl zk (of_decide_eq_true zk) h2k hb hlt2),by simp⟩,by simp⟩
 ·rfl
end Go.Proofs.YtlpjmogillpnbaaGreatDoor
