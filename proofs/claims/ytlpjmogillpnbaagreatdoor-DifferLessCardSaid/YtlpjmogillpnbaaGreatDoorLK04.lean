/- Lemmas for the proof. No condition. -/
import Derived.Test.YtlpjmogillpnbaaGreatDoorLK01
import Derived.Test.YtlpjmogillpnbaaGreatDoorLK02
import Derived.Test.YtlpjmogillpnbaaGreatDoorLK03
import Derived.Test.YtlpjmogillpnbaaGreatDoorCards
import Derived.Test.YtlpjmogillpnbaaGreatDoorTie
import Derived.ChangeSame
import Derived.ChangeVars
import Derived.JoinedOf
import Derived.SevenTiedAt
import Derived.ChangeMaps5
import Derived.ChangeArms
import Derived.Carry
import Derived.Lay
set_option linter.unusedVariables false
set_option linter.unusedSimpArgs false
set_option maxRecDepth 100000
set_option maxHeartbeats 16000000
namespace Go.Proofs.YtlpjmogillpnbaaGreatDoor
open Go Go.ChangeShapes Go.WideShapes Go.ChangeAt Go.RowKit Go.Proofs
theorem own:ownKnob Tryz.prog.godebug=none:=by kernel_rfl
theorem yG (os:Os) (args:Array Value):laidMetH Tryz.prog Rows.differLessRow.laid ((World.laidAll Tryz.prog os Rows.differLessRow.laid).forCall (fun _ _=>0) ⟨#[],args,[]⟩).memory:=by
 rw [MakeChecks.laidMetH_plain _ _ _ zk];exact laidMet_laidAll _ zk zk
theorem differLess_lifted (os:Os) (started:os.Started) (H:Type) (enc:TypeId × Value→H) :
  ReturnsInHanded {} Tryz.checked os 4 .any (fun w args=>(Rows.differLessSpec.pre enc Tryz.prog Tryz.f4 [] false w args∧laidMetH Tryz.prog Rows.differLessRow.laid w)∧sizedMet enc Tryz.prog Tryz.f4 (OpenSpec.ofChange Rows.differLessSpec) false w args)
   (Rows.differLessSpec.post enc Tryz.prog Tryz.f4 false true false false):=by
 refine returnsInHanded_of_change_and (C:=Tryz.checked) (X:=fun w _=>laidMetH Tryz.prog Rows.differLessRow.laid w) (fun _ _ _ hh h=>h.of_heap hh) own started zk Tryz.func4
  (ChangeSpec.witness_shaped (enc:=enc) (C:=Tryz.checked) (os:=os) (X:=fun w _=>laidMetH Tryz.prog Rows.differLessRow.laid w) false (World.laidAll Tryz.prog os Rows.differLessRow.laid) #[.agg #[.int .u16 0,.int .i16 0,.int .i16 0],.agg #[.int .u16 0,.int .i16 0,.int .i16 0],.agg #[.int .i16 0,.int .u8 0],.agg #[.int .i16 0,.int .u8 0],.int .u8 0] 8 (World.laidAll_os _ _ _) (World.shaped_of_ZipB zk zk) zk zk zk (yG os _)) ?_
 intro W base args ds gs before hval0 hW _ _ hL _;have hW':=hW;obtain ⟨p,q,hA0,hV,rfl,hfz,hnd⟩:=hW;have hA:DataW.TrodAll enc Tryz.prog W 0 (fun _=>true) true Tryz.f4.params.toList args.toList ds p:=hA0;rw [Tryz.params4] at hA;have hval:∀ (j:Nat) t v,Tryz.f4.params[j]? =some t→args[j]? =some v→Value.okWide Tryz.prog W .any base t v:=hval0;rw [Tryz.params4] at hval;obtain ⟨v0,vs0,d0,ds0,p0,q0,hargs,rfl,rfl,h0,hr0⟩:=trodAll_cons hA;obtain ⟨v1,vs1,d1,ds1,p1,q1,rfl,rfl,rfl,h1,hr1⟩:=trodAll_cons hr0;obtain ⟨v2,vs2,d2,ds2,p2,q2,rfl,rfl,rfl,h2,hr2⟩:=trodAll_cons hr1;obtain ⟨v3,vs3,d3,ds3,p3,q3,rfl,rfl,rfl,h3,hr3⟩:=trodAll_cons hr2;obtain ⟨v4,vs4,d4,ds4,p4,q4,rfl,rfl,rfl,h4,hr4⟩:=trodAll_cons hr3;obtain ⟨rfl,rfl,rfl⟩:=trodAll_nil hr4;obtain rfl:args=#[v0,v1,v2,v3,v4]:=by cases args;simp_all
 obtain ⟨rfl,rfl⟩:=trodVars_none hV;have h0k:=h0;obtain ⟨l0,rfl,hl0,hc0⟩:=Ao (ts:=[22,23,23]) (n:=3) Tryz.underlying25 rfl zk zk rfl (hval 0 25 v0 rfl rfl);obtain ⟨am1,am0,al9,rfl⟩:=RZ hl0;obtain ⟨ac1,rfl,UZ⟩:=oq Tryz.underlying22 (hc0 0 _ _ rfl rfl);replace UZ:=IY UZ;obtain ⟨ac0,rfl,UY⟩:=oq Tryz.underlying23 (hc0 1 _ _ rfl rfl);replace UY:=wL UY;obtain ⟨ab9,rfl,UW⟩:=oq Tryz.underlying23 (hc0 2 _ _ rfl rfl);replace UW:=wL UW;clear hc0 hl0;have h1k:=h1;obtain ⟨l1,rfl,hl1,hc1⟩:=Ao (ts:=[22,23,23]) (n:=3) Tryz.underlying25 rfl zk zk rfl (hval 1 25 v1 rfl rfl);obtain ⟨al8,al7,al6,rfl⟩:=RZ hl1;obtain ⟨ab8,rfl,UU⟩:=oq Tryz.underlying22 (hc1 0 _ _ rfl rfl);replace UU:=IY UU;obtain ⟨ab7,rfl,UR⟩:=oq Tryz.underlying23 (hc1 1 _ _ rfl rfl);replace UR:=wL UR
 obtain ⟨ab6,rfl,UQ⟩:=oq Tryz.underlying23 (hc1 2 _ _ rfl rfl);replace UQ:=wL UQ;clear hc1 hl1;have h2k:=h2;obtain ⟨l2,rfl,hl2,hc2⟩:=Ao (ts:=[23,5]) (n:=2) Tryz.underlying41 rfl zk zk rfl (hval 2 41 v2 rfl rfl);obtain ⟨x2_0,x2_1,rfl⟩:=list2 hl2;obtain ⟨n2_0,rfl,b2_0⟩:=oq Tryz.underlying23 (hc2 0 _ _ rfl rfl);replace b2_0:=wL b2_0;obtain ⟨n2_1,rfl,b2_1⟩:=oq Tryz.underlying5 (hc2 1 _ _ rfl rfl);replace b2_1:=has_u8 b2_1;clear hc2 hl2;have h3k:=h3;obtain ⟨l3,rfl,hl3,hc3⟩:=Ao (ts:=[23,5]) (n:=2) Tryz.underlying41 rfl zk zk rfl (hval 3 41 v3 rfl rfl);obtain ⟨x3_0,x3_1,rfl⟩:=list2 hl3;obtain ⟨n3_0,rfl,b3_0⟩:=oq Tryz.underlying23 (hc3 0 _ _ rfl rfl);replace b3_0:=wL b3_0;obtain ⟨n3_1,rfl,b3_1⟩:=oq Tryz.underlying5 (hc3 1 _ _ rfl rfl);replace b3_1:=has_u8 b3_1;clear hc3 hl3
 obtain ⟨n,rfl,rfl,rfl,wn⟩:=open_int Tryz.underlying5 (hval 4 5 v4 rfl rfl) h4;obtain ⟨hp,hc⟩:=IE hL;simp only [List.nil_append,List.append_nil] at hW';have ad5:∀ x∈p0,x.block<W.heap.size:=fun x hx=>hW'.lt x (by simp [hx]);have hlt1:∀ x∈p1,x.block<W.heap.size:=fun x hx=>hW'.lt x (by simp [hx]);have hlt2:∀ x∈p2,x.block<W.heap.size:=fun x hx=>hW'.lt x (by simp [hx]);have hlt3:∀ x∈p3,x.block<W.heap.size:=fun x hx=>hW'.lt x (by simp [hx]);refine (verdigrislaw27.less_ok ac1 ac0 ab9 ab8 ab7 ab6 n2_0 n2_1 n3_0 n3_1 n UZ UY UW UU UR UQ b2_0 b2_1 b3_0 b3_1 (Xz wn) W hp hc).mono fun e W' ⟨he,hb⟩=>?_;subst he;refine ⟨_,rfl,_,_,_,[],p0++p1++p2++p3,[],(by simpa using hW'),?_,?_,?_,hb.frame _,fun h=>by cases h⟩
 ·exact trodAll_mk1 (shut_bool Tryz.underlying4 true)
 ·exact ⟨p0,p1++p2++p3,Below.trod Dl zk (of_decide_eq_true zk) h0k hb ad5,⟨p1,p2++p3,Below.trod Dl zk (of_decide_eq_true zk) h1k hb hlt1,⟨p2,p3,Below.trod Dl zk (of_decide_eq_true zk) h2k hb hlt2,⟨p3,[],Below.trod Dl zk (of_decide_eq_true zk) h3k hb hlt3,trodAll_mk1 (shut_int Tryz.underlying5 wn),by simp⟩,by simp⟩,by simp⟩,by simp⟩
 ·rfl
end Go.Proofs.YtlpjmogillpnbaaGreatDoor
