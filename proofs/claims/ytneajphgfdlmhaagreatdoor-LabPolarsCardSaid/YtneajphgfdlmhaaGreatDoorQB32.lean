/- Lemmas for the proof. No condition. -/
import Derived.Test.YtneajphgfdlmhaaGreatDoorQB31
import Derived.Test.YtneajphgfdlmhaaGreatDoorCards
import Derived.Test.YtneajphgfdlmhaaGreatDoorTie
import Derived.JoinedOf
import Derived.SevenTiedAt
import Derived.ChangeMaps5
import Derived.ChangeArms
import Derived.Carry
set_option linter.unusedVariables false
set_option linter.unusedSimpArgs false
set_option maxRecDepth 100000
set_option maxHeartbeats 16000000
open Go.IntKind renaming i64 → I
open Go.Value renaming agg → au, int → Z, string → O
namespace Go.Proofs.YtneajphgfdlmhaaGreatDoor
open Go Go.ChangeShapes Go.WideShapes Go.ChangeAt Go.RowKit Go.Proofs
theorem own:ownKnob Tryz.prog.godebug=none:=by kernel_rfl
theorem UN (os:Os) (args:Array Value):laidMetH Tryz.prog Rows.labPolarsRow.laid ((World.doorLaid Tryz.prog 4000 os).forCall (fun _ _=>0) ⟨#[],args,[]⟩).memory:=by
 rw [MakeChecks.laidMetH_plain _ _ _ zk];exact laidMet_of_run' 8 zk zk
theorem y7 (os:Os) (started:os.Started) (H:Type) (enc:TypeId × Value→H) :
  ReturnsInHanded {} Tryz.checked os 5 .any (fun w args=>(Rows.labPolarsSpec.pre enc Tryz.prog Tryz.f5 [] false w args∧laidMetH Tryz.prog Rows.labPolarsRow.laid w)∧sizedMet enc Tryz.prog Tryz.f5 (OpenSpec.ofChange Rows.labPolarsSpec) false w args)
   (Rows.labPolarsSpec.post enc Tryz.prog Tryz.f5 false true false false):=by
 refine returnsInHanded_of_change_and (C:=Tryz.checked) (X:=fun w _=>laidMetH Tryz.prog Rows.labPolarsRow.laid w) (fun _ _ _ hh h=>h.of_heap hh) own started zk Tryz.func5
  (ChangeSpec.witness_shaped (enc:=enc) (C:=Tryz.checked) (os:=os) (X:=fun w _=>laidMetH Tryz.prog Rows.labPolarsRow.laid w) false (World.doorLaid Tryz.prog 4000 os) #[au #[Z .u16 0,Z .i16 0,Z .i16 0],au #[Z .u16 0,Z .i16 0,Z .i16 0,Z .u32 0,Z .u32 0,Z .u32 0],au #[Z .u8 0,O ⟨#[]⟩,O ⟨#[]⟩],au #[Z .u8 0,Z I 0,Z I 0],au #[Z .u8 0,Z I 0,Z I 0]] 8 rfl (World.shaped_of_RefB zk zk) zk zk zk (UN os _)) ?_
 intro W base args ds gs before hval0 hW _ _ hL _;have hW':=hW;obtain ⟨p,q,hA0,hV,rfl,hfz,hnd⟩:=hW;have hA:DataW.TrodAll enc Tryz.prog W 0 (fun _=>true) true Tryz.f5.params.toList args.toList ds p:=hA0;rw [Tryz.params5] at hA;have hval:∀ (j:Nat) t v,Tryz.f5.params[j]? =some t→args[j]? =some v→Value.okWide Tryz.prog W .any base t v:=hval0;rw [Tryz.params5] at hval;obtain ⟨v0,vs0,d0,ds0,p0,q0,hargs,rfl,rfl,h0,hr0⟩:=trodAll_cons hA;obtain ⟨v1,vs1,d1,ds1,p1,q1,rfl,rfl,rfl,h1,hr1⟩:=trodAll_cons hr0;obtain ⟨v2,vs2,d2,ds2,p2,q2,rfl,rfl,rfl,h2,hr2⟩:=trodAll_cons hr1;obtain ⟨v3,vs3,d3,ds3,p3,q3,rfl,rfl,rfl,h3,hr3⟩:=trodAll_cons hr2;obtain ⟨v4,vs4,d4,ds4,p4,q4,rfl,rfl,rfl,h4,hr4⟩:=trodAll_cons hr3;obtain ⟨rfl,rfl,rfl⟩:=trodAll_nil hr4;obtain rfl:args=#[v0,v1,v2,v3,v4]:=by cases args;simp_all
 obtain ⟨rfl,rfl⟩:=trodVars_none hV;have h0k:=h0;obtain ⟨l0,rfl,hl0,hc0⟩:=qW (ts:=[22,47,47]) (n:=3) Tryz.underlying60 rfl zk zk rfl (hval 0 60 v0 rfl rfl);obtain ⟨aK2,aK1,aK0,rfl⟩:=OG hl0;obtain ⟨ay7,rfl,ag1⟩:=iQ Tryz.underlying22 (hc0 0 _ _ rfl rfl);replace ag1:=OQ ag1;obtain ⟨ay6,rfl,ag0⟩:=iQ Tryz.underlying47 (hc0 1 _ _ rfl rfl);replace ag0:=Bb ag0;obtain ⟨ay5,rfl,af9⟩:=iQ Tryz.underlying47 (hc0 2 _ _ rfl rfl);replace af9:=Bb af9;clear hc0 hl0;have h1k:=h1;obtain ⟨l1,rfl,hl1,hc1⟩:=qW (ts:=[22,47,47,61,61,61]) (n:=6) Tryz.underlying64 rfl zk zk rfl (hval 1 64 v1 rfl rfl);obtain ⟨aJ9,aJ8,aJ7,aJ6,aJ5,aJ4,rfl⟩:=an4 hl1;obtain ⟨ay4,rfl,af8⟩:=iQ Tryz.underlying22 (hc1 0 _ _ rfl rfl);replace af8:=OQ af8;obtain ⟨ay3,rfl,af7⟩:=iQ Tryz.underlying47 (hc1 1 _ _ rfl rfl);replace af7:=Bb af7
 obtain ⟨ay2,rfl,af6⟩:=iQ Tryz.underlying47 (hc1 2 _ _ rfl rfl);replace af6:=Bb af6;obtain ⟨ay1,rfl,af5⟩:=iQ Tryz.underlying61 (hc1 3 _ _ rfl rfl);replace af5:=G7 af5;obtain ⟨ay0,rfl,af4⟩:=iQ Tryz.underlying61 (hc1 4 _ _ rfl rfl);replace af4:=G7 af4;obtain ⟨ax9,rfl,af3⟩:=iQ Tryz.underlying61 (hc1 5 _ _ rfl rfl);replace af3:=G7 af3;clear hc1 hl1;have h2k:=h2;obtain ⟨l2,rfl,hl2,hc2⟩:=qW (ts:=[5,9,9]) (n:=3) Tryz.underlying28 rfl zk zk rfl (hval 2 28 v2 rfl rfl);obtain ⟨aJ3,aJ2,aJ1,rfl⟩:=OG hl2;obtain ⟨ax8,rfl,af2⟩:=iQ Tryz.underlying5 (hc2 0 _ _ rfl rfl);replace af2:=MF af2;obtain ⟨ax7,rfl,aT2⟩:=FE Tryz.underlying9 (hc2 1 _ _ rfl rfl);obtain ⟨ax6,rfl,aT1⟩:=FE Tryz.underlying9 (hc2 2 _ _ rfl rfl);clear hc2 hl2;have h3k:=h3
 obtain ⟨l3,rfl,hl3,hc3⟩:=qW (ts:=[5,3,3]) (n:=3) Tryz.underlying66 rfl zk zk rfl (hval 3 66 v3 rfl rfl);obtain ⟨aJ0,aI9,aI8,rfl⟩:=OG hl3;obtain ⟨ax5,rfl,af0⟩:=iQ Tryz.underlying5 (hc3 0 _ _ rfl rfl);replace af0:=MF af0;obtain ⟨ax4,rfl,as0⟩:=iQ Tryz.underlying3 (hc3 1 _ _ rfl rfl);replace as0:=Ba as0;obtain ⟨ax3,rfl,ar9⟩:=iQ Tryz.underlying3 (hc3 2 _ _ rfl rfl);replace ar9:=Ba ar9;clear hc3 hl3;have h4k:=h4;obtain ⟨l4,rfl,hl4,hc4⟩:=qW (ts:=[5,3,3]) (n:=3) Tryz.underlying66 rfl zk zk rfl (hval 4 66 v4 rfl rfl);obtain ⟨aI7,aI6,aI5,rfl⟩:=OG hl4;obtain ⟨ax2,rfl,ae9⟩:=iQ Tryz.underlying5 (hc4 0 _ _ rfl rfl);replace ae9:=MF ae9;obtain ⟨ax1,rfl,ar8⟩:=iQ Tryz.underlying3 (hc4 1 _ _ rfl rfl);replace ar8:=Ba ar8;obtain ⟨ax0,rfl,ar7⟩:=iQ Tryz.underlying3 (hc4 2 _ _ rfl rfl)
 replace ar7:=Ba ar7;clear hc4 hl4;obtain ⟨hp,hc⟩:=WT hL;simp only [List.nil_append,List.append_nil] at hW';have aA2:∀ x∈p0,x.block<W.heap.size:=fun x hx=>hW'.lt x (by simp [hx]);have hlt1:∀ x∈p1,x.block<W.heap.size:=fun x hx=>hW'.lt x (by simp [hx]);have hlt2:∀ x∈p2,x.block<W.heap.size:=fun x hx=>hW'.lt x (by simp [hx]);have hlt3:∀ x∈p3,x.block<W.heap.size:=fun x hx=>hW'.lt x (by simp [hx]);have aA1:∀ x∈p4,x.block<W.heap.size:=fun x hx=>hW'.lt x (by simp [hx]);refine (verdigrislaw24.GR ay7 ay6 ay5 ay4 ay3 ay2 ay1 ay0 ax9 ax8 ax5 ax4 ax3 ax2 ax1 ax0 ax7 ax6 ag1 ag0 af9 af8 af7 af6 af5 af4 af3 af2 af0 ae9 W hp hc).mono fun e W' ⟨he,hb⟩=>?_;subst he;refine ⟨_,rfl,_,_,_,[],p0++p1++p2++p3++p4,[],(by simpa using hW'),?_,?_,?_,hb.frame _,fun h=>by cases h⟩
 ·exact trodAll_mk1 (shut_bool Tryz.underlying4 true)
 ·exact ⟨p0,p1++p2++p3++p4,Below.trod uh zk (of_decide_eq_true zk) h0k hb aA2,⟨p1,p2++p3++p4,Below.trod uh zk (of_decide_eq_true zk) h1k hb hlt1,⟨p2,p3++p4,Below.trod uh zk (of_decide_eq_true zk) h2k hb hlt2,⟨p3,p4,Below.trod uh zk (of_decide_eq_true zk) h3k hb hlt3,trodAll_mk1 (Below.trod uh zk (of_decide_eq_true zk) h4k hb aA1),by simp⟩,by simp⟩,by simp⟩,by simp⟩
 ·rfl
end Go.Proofs.YtneajphgfdlmhaaGreatDoor
