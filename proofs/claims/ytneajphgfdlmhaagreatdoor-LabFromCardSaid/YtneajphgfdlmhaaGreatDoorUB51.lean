/- Lemmas for the proof. No condition. -/
import Derived.Test.YtneajphgfdlmhaaGreatDoorUB50
import Derived.Test.YtneajphgfdlmhaaGreatDoorCards
import Derived.Test.YtneajphgfdlmhaaGreatDoorTie
import Derived.JoinedOf
import Derived.SevenTiedAt
import Derived.ChangeMaps5
import Derived.ChangeArms
import Derived.Carry
set_option linter.unusedVariables false
set_option linter.unusedSimpArgs false
set_option maxRecDepth 100000
set_option maxHeartbeats 16000000
open Go.IntKind renaming i64 → I
open Go.Value renaming agg → au, int → Z, string → O
namespace Go.Proofs.YtneajphgfdlmhaaGreatDoor
open Go Go.ChangeShapes Go.WideShapes Go.ChangeAt Go.RowKit Go.Proofs
theorem own:ownKnob Tryz.prog.godebug=none:=by kernel_rfl
theorem WQ (os:Os) (args:Array Value):laidMetH Tryz.prog Rows.labFromRow.laid ((World.doorLaid Tryz.prog 4000 os).forCall (fun _ _=>0) ⟨#[],args,[]⟩).memory:=by
 rw [MakeChecks.laidMetH_plain _ _ _ zk];exact laidMet_of_run' 8 zk zk
theorem Df (os:Os) (started:os.Started) (H:Type) (enc:TypeId × Value→H) :
  ReturnsInHanded {} Tryz.checked os 7 .any (fun w args=>(Rows.labFromSpec.pre enc Tryz.prog Tryz.f7 [] false w args∧laidMetH Tryz.prog Rows.labFromRow.laid w)∧sizedMet enc Tryz.prog Tryz.f7 (OpenSpec.ofChange Rows.labFromSpec) false w args)
   (Rows.labFromSpec.post enc Tryz.prog Tryz.f7 false true false false):=by
 refine returnsInHanded_of_change_and (C:=Tryz.checked) (X:=fun w _=>laidMetH Tryz.prog Rows.labFromRow.laid w) (fun _ _ _ hh h=>h.of_heap hh) own started zk Tryz.func7
  (ChangeSpec.witness_shaped (enc:=enc) (C:=Tryz.checked) (os:=os) (X:=fun w _=>laidMetH Tryz.prog Rows.labFromRow.laid w) false (World.doorLaid Tryz.prog 4000 os) #[au #[Z .u16 0,Z .i16 0,Z .i16 0],au #[Z .u16 0,Z .i16 0,Z .i16 0,Z .u32 0,Z .u32 0,Z .u32 0],au #[Z .u16 0,Z .u16 0,Z .u16 0],au #[Z .u8 0,O ⟨#[]⟩,O ⟨#[]⟩],au #[Z .u8 0,Z I 0,Z I 0]] 8 rfl (World.shaped_of_RefB zk zk) zk zk zk (WQ os _)) ?_
 intro W base args ds gs before hval0 hW _ _ hL _;have hW':=hW;obtain ⟨p,q,hA0,hV,rfl,hfz,hnd⟩:=hW;have hA:DataW.TrodAll enc Tryz.prog W 0 (fun _=>true) true Tryz.f7.params.toList args.toList ds p:=hA0;rw [Tryz.params7] at hA;have hval:∀ (j:Nat) t v,Tryz.f7.params[j]? =some t→args[j]? =some v→Value.okWide Tryz.prog W .any base t v:=hval0;rw [Tryz.params7] at hval;obtain ⟨v0,vs0,d0,ds0,p0,q0,hargs,rfl,rfl,h0,hr0⟩:=trodAll_cons hA;obtain ⟨v1,vs1,d1,ds1,p1,q1,rfl,rfl,rfl,h1,hr1⟩:=trodAll_cons hr0;obtain ⟨v2,vs2,d2,ds2,p2,q2,rfl,rfl,rfl,h2,hr2⟩:=trodAll_cons hr1;obtain ⟨v3,vs3,d3,ds3,p3,q3,rfl,rfl,rfl,h3,hr3⟩:=trodAll_cons hr2;obtain ⟨v4,vs4,d4,ds4,p4,q4,rfl,rfl,rfl,h4,hr4⟩:=trodAll_cons hr3;obtain ⟨rfl,rfl,rfl⟩:=trodAll_nil hr4;obtain rfl:args=#[v0,v1,v2,v3,v4]:=by cases args;simp_all
 obtain ⟨rfl,rfl⟩:=trodVars_none hV;have h0k:=h0;obtain ⟨l0,rfl,hl0,hc0⟩:=su (ts:=[22,47,47]) (n:=3) Tryz.underlying60 rfl zk zk rfl (hval 0 60 v0 rfl rfl);obtain ⟨aT1,aT0,aS9,rfl⟩:=Pz hl0;obtain ⟨aH5,rfl,ap1⟩:=jd Tryz.underlying22 (hc0 0 _ _ rfl rfl);replace ap1:=yN ap1;obtain ⟨aH4,rfl,ap0⟩:=jd Tryz.underlying47 (hc0 1 _ _ rfl rfl);replace ap0:=BK ap0;obtain ⟨aH3,rfl,ao9⟩:=jd Tryz.underlying47 (hc0 2 _ _ rfl rfl);replace ao9:=BK ao9;clear hc0 hl0;have h1k:=h1;obtain ⟨l1,rfl,hl1,hc1⟩:=su (ts:=[22,47,47,61,61,61]) (n:=6) Tryz.underlying64 rfl zk zk rfl (hval 1 64 v1 rfl rfl);obtain ⟨aS8,aS7,aS6,aS5,aS4,aS3,rfl⟩:=aw8 hl1;obtain ⟨aH2,rfl,ao8⟩:=jd Tryz.underlying22 (hc1 0 _ _ rfl rfl);replace ao8:=yN ao8;obtain ⟨aH1,rfl,ao7⟩:=jd Tryz.underlying47 (hc1 1 _ _ rfl rfl);replace ao7:=BK ao7
 obtain ⟨aH0,rfl,ao6⟩:=jd Tryz.underlying47 (hc1 2 _ _ rfl rfl);replace ao6:=BK ao6;obtain ⟨aG9,rfl,ao5⟩:=jd Tryz.underlying61 (hc1 3 _ _ rfl rfl);replace ao5:=IG ao5;obtain ⟨aG8,rfl,ao4⟩:=jd Tryz.underlying61 (hc1 4 _ _ rfl rfl);replace ao4:=IG ao4;obtain ⟨aG7,rfl,ao3⟩:=jd Tryz.underlying61 (hc1 5 _ _ rfl rfl);replace ao3:=IG ao3;clear hc1 hl1;have h2k:=h2;obtain ⟨l2,rfl,hl2,hc2⟩:=su (ts:=[22,22,22]) (n:=3) Tryz.underlying24 rfl zk zk rfl (hval 2 24 v2 rfl rfl);obtain ⟨aS2,aS1,aS0,rfl⟩:=Pz hl2;obtain ⟨aG6,rfl,ao2⟩:=jd Tryz.underlying22 (hc2 0 _ _ rfl rfl);replace ao2:=yN ao2;obtain ⟨aG5,rfl,ao1⟩:=jd Tryz.underlying22 (hc2 1 _ _ rfl rfl);replace ao1:=yN ao1;obtain ⟨aG4,rfl,ao0⟩:=jd Tryz.underlying22 (hc2 2 _ _ rfl rfl);replace ao0:=yN ao0;clear hc2 hl2;have h3k:=h3
 obtain ⟨l3,rfl,hl3,hc3⟩:=su (ts:=[5,9,9]) (n:=3) Tryz.underlying28 rfl zk zk rfl (hval 3 28 v3 rfl rfl);obtain ⟨aR9,aR8,aR7,rfl⟩:=Pz hl3;obtain ⟨aG3,rfl,an9⟩:=jd Tryz.underlying5 (hc3 0 _ _ rfl rfl);replace an9:=Wx an9;obtain ⟨aG2,rfl,bc7⟩:=GA Tryz.underlying9 (hc3 1 _ _ rfl rfl);obtain ⟨aG1,rfl,bc6⟩:=GA Tryz.underlying9 (hc3 2 _ _ rfl rfl);clear hc3 hl3;have h4k:=h4;obtain ⟨l4,rfl,hl4,hc4⟩:=su (ts:=[5,3,3]) (n:=3) Tryz.underlying66 rfl zk zk rfl (hval 4 66 v4 rfl rfl);obtain ⟨aR6,aR5,aR4,rfl⟩:=Pz hl4;obtain ⟨aG0,rfl,an8⟩:=jd Tryz.underlying5 (hc4 0 _ _ rfl rfl);replace an8:=Wx an8;obtain ⟨aF9,rfl,aB4⟩:=jd Tryz.underlying3 (hc4 1 _ _ rfl rfl);replace aB4:=PS aB4;obtain ⟨aF8,rfl,aB3⟩:=jd Tryz.underlying3 (hc4 2 _ _ rfl rfl);replace aB3:=PS aB3;clear hc4 hl4;obtain ⟨hp,hc⟩:=YH hL
 simp only [List.nil_append,List.append_nil] at hW';have aI9:∀ x∈p0,x.block<W.heap.size:=fun x hx=>hW'.lt x (by simp [hx]);have hlt1:∀ x∈p1,x.block<W.heap.size:=fun x hx=>hW'.lt x (by simp [hx]);have hlt2:∀ x∈p2,x.block<W.heap.size:=fun x hx=>hW'.lt x (by simp [hx]);have hlt3:∀ x∈p3,x.block<W.heap.size:=fun x hx=>hW'.lt x (by simp [hx]);have aI8:∀ x∈p4,x.block<W.heap.size:=fun x hx=>hW'.lt x (by simp [hx]);refine (verdigrislaw24.Nf aH5 aH4 aH3 aH2 aH1 aH0 aG9 aG8 aG7 aG6 aG5 aG4 aG3 aG0 aF9 aF8 aG2 aG1 ap1 ap0 ao9 ao8 ao7 ao6 ao5 ao4 ao3 ao2 ao1 ao0 an9 an8 W hp hc).mono fun e W' ⟨he,hb⟩=>?_;subst he;refine ⟨_,rfl,_,_,_,[],p0++p1++p2++p3++p4,[],(by simpa using hW'),?_,?_,?_,hb.frame _,fun h=>by cases h⟩
 ·exact trodAll_mk1 (shut_bool Tryz.underlying4 true)
 ·exact ⟨p0,p1++p2++p3++p4,Below.trod uU zk (of_decide_eq_true zk) h0k hb aI9,⟨p1,p2++p3++p4,Below.trod uU zk (of_decide_eq_true zk) h1k hb hlt1,⟨p2,p3++p4,Below.trod uU zk (of_decide_eq_true zk) h2k hb hlt2,⟨p3,p4,Below.trod uU zk (of_decide_eq_true zk) h3k hb hlt3,trodAll_mk1 (Below.trod uU zk (of_decide_eq_true zk) h4k hb aI8),by simp⟩,by simp⟩,by simp⟩,by simp⟩
 ·rfl
end Go.Proofs.YtneajphgfdlmhaaGreatDoor
