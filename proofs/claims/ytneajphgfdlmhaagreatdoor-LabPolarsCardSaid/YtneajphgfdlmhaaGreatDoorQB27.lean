/- Lemmas for the proof. No condition. -/
import Derived.Test.YtneajphgfdlmhaaGreatDoorQB26
set_option linter.unusedVariables false
set_option linter.unusedSimpArgs false
set_option maxRecDepth 100000
set_option maxHeartbeats 16000000
open Bool renaming and_eq_true → aK
open Go.Ending renaming returned → aj
open Go.IntKind renaming i64 → I
open Go.Value renaming agg → au, bool → ak, int → Z, pointer → aB, slice → ah, string → O, tuple → aG
open List renaming all_eq_true → dX, getElem_mem → dY, take_of_length_le → dG, take_succ_eq_append_getElem → fq
open Nat renaming le_refl → aD, lt_of_lt_of_le → aI, lt_or_ge → aO, min_eq_left → iO, mul_le_mul → dP
namespace Go.Proofs.lab
open Go Go.RowKit Go.SW Go.Num Go.Mem Go.Proofs Go.gD Go.Fx
theorem Xu {P:Program} {f:FuncId} {args:Array Value} {w:World} {v z:Value} {k:Int} (C:Calls P f args w (Du w v z k)) (h:k=0):Calls P f args w (fun e w'=>e= aj (aG #[v,Z I 0])∧Below w.heap.size w w'):=C.mono fun _ _ ⟨hb,hh⟩=>by
 rcases hh with ⟨-, rfl⟩|⟨hk, -⟩
 ·exact ⟨rfl,hb⟩
 ·exact absurd h hk
theorem ac6 {P:Program} {f:FuncId} {args:Array Value} {w:World} {v z:Value} {k:Int} (C:Calls P f args w (Du w v z k)) (h:k≠0):Calls P f args w (fun e w'=>e= aj (aG #[z,Z I k])∧Below w.heap.size w w'):=C.mono fun _ _ ⟨hb,hh⟩=>by
 rcases hh with ⟨hk, -⟩|⟨-, rfl⟩
 ·exact absurd hk h
 ·exact ⟨rfl,hb⟩
theorem Bc {P:Program} {f:FuncId} {args:Array Value} {w:World} {u v z:Value} {k:Int} (C:Calls P f args w (Du w v z k)) (h:(k=0∧u=v)∨(k≠0∧u=z)):Calls P f args w (fun e w'=>e= aj (aG #[u,Z I k])∧Below w.heap.size w w'):=C.mono fun _ _ ⟨hb,hh⟩=>by
 rcases h with ⟨h1,rfl⟩|⟨h1,rfl⟩<;>rcases hh with ⟨h2,rfl⟩|⟨h2,rfl⟩
 ·exact ⟨by rw [h1],hb⟩
 ·exact absurd h1 h2
 ·exact absurd h2 h1
 ·exact ⟨rfl,hb⟩
theorem ow {α:Type} {c k:Int} {z v:α} {r:α × Int} (hx:gB (if c≠0 then (z,c) else r) v k) (H:(!(c == 0))=true):c=k∧k≠0:=by
 have h:c≠0:=by simpa using H
 have e:c=k:=(gB.pos hx h).1;exact ⟨e,e ▸ h⟩
theorem Az {α:Type} {c k:Int} {z v:α} {r:α × Int} (hx:gB (if c≠0 then (z,c) else r) v k) (H:(!(c == 0))=false):gB r v k:=gB.neg hx (by simpa using H)
def lN (t:light.iJ):Int:=if Ak t.x≠0 then Ak t.x else if Ak t.y≠0 then Ak t.y else Ak t.z
def jY (b:Int × Int):Int:=if dH.iG b.1 b.2 then 0 else 30
def qg (l:(Int × Int) × (Int × Int) × (Int × Int)):Int:=if jY l.1≠0 then jY l.1 else if jY l.2.1≠0 then jY l.2.1 else jY l.2.2
theorem mX (s1 s2 s3 s4 s5 s6:ByteArray) (w:World):Calls Tryz.prog 79 #[au #[O s1,O s2,O s3,O s4,O s5,O s6]] w (fun e w'=>e= aj (Z I (lN ⟨⟨s1,s2⟩,⟨s3,s4⟩,⟨s5,s6⟩⟩))∧Below w.heap.size w w'):=by
 have K0:∀ W,Calls Tryz.prog 166 #[au #[O s1,O s2]] W (fun e w'=>e= aj (Z I (Ak ⟨s1,s2⟩))∧Below W.heap.size W w'):=fun W=>fu.kX ⟨s1,s2⟩ W;have K1:∀ W,Calls Tryz.prog 166 #[au #[O s3,O s4]] W (fun e w'=>e= aj (Z I (Ak ⟨s3,s4⟩))∧Below W.heap.size W w'):=fun W=>fu.kX ⟨s3,s4⟩ W;have K2:∀ W,Calls Tryz.prog 166 #[au #[O s5,O s6]] W (fun e w'=>e= aj (Z I (Ak ⟨s5,s6⟩))∧Below W.heap.size W w'):=fun W=>fu.kX ⟨s5,s6⟩ W;have e:lN ⟨⟨s1,s2⟩,⟨s3,s4⟩,⟨s5,s6⟩⟩=if Ak ⟨s1,s2⟩≠0 then Ak ⟨s1,s2⟩ else if Ak ⟨s3,s4⟩≠0 then Ak ⟨s3,s4⟩ else Ak ⟨s5,s6⟩:=rfl
 rw [e];generalize Ak ⟨s1,s2⟩=k0 at *;generalize Ak ⟨s3,s4⟩=k1 at *;generalize Ak ⟨s5,s6⟩=k2 at *;clear e;refine Fx.door Tryz.func79 rfl (.nil w []) ?_;refine Fx.new [] 1 #[O s1,O s2,O s3,O s4,O s5,O s6] 34 [] [] fun gM=>?_;refine Fx.aY [3,1] 4 32 [(6,au #[O s1,O s2,O s3,O s4,O s5,O s6]),(7,Z I 0),(9,au #[O s1,O s2])] [] fun gI=>?_;refine Fx.dD [4,4] 11 [] [(1,#[O s1,O s2])] K0 ?_;refine Fx.part 7 [] [(13,ak (!(k0 == 0))),(5,Z I k0)] [] ?_;refine Fx.splitB (fun H1=>?_) (fun H1=>?_)
 ·skip
  exact Fx.qP (v:=Z I k0) [1] [] (fun W M=>by have HB:=M.below;exact ⟨by simp_all,HB⟩)
 ·skip
  refine Fx.aY [2,1] 4 32 [(7,Z I 1),(9,au #[O s3,O s4])] [] fun gH=>?_;refine Fx.dD [5,5] 11 [] [(2,#[O s3,O s4])] K1 ?_;refine Fx.part 7 [] [(13,ak (!(k1 == 0))),(5,Z I k1)] [] ?_;refine Fx.splitB (fun H2=>?_) (fun H2=>?_)
  ·skip
   exact Fx.qP (v:=Z I k1) [1] [] (fun W M=>by have HB:=M.below;exact ⟨by simp_all,HB⟩)
  ·skip
   refine Fx.aY [2,1] 4 32 [(7,Z I 2),(9,au #[O s5,O s6])] [] fun oP=>?_;refine Fx.dD [6,6] 11 [] [(3,#[O s5,O s6])] K2 ?_;refine Fx.part 7 [] [(13,ak (!(k2 == 0))),(5,Z I k2)] [] ?_;refine Fx.splitB (fun H3=>?_) (fun H3=>?_)
   ·skip
    exact Fx.qP (v:=Z I k2) [1] [] (fun W M=>by have HB:=M.below;exact ⟨by simp_all,HB⟩)
   ·skip
    exact Fx.qP (v:=Z I 0) [2,2] [] (fun W M=>by have HB:=M.below;exact ⟨by simp_all,HB⟩)
theorem Dj (s1 s2 s3 s4 s5 s6:Int) (w:World):Calls Tryz.prog 68 #[au #[Z I s1,Z I s2,Z I s3,Z I s4,Z I s5,Z I s6]] w (fun e w'=>e= aj (Z I (qg ((s1,s2),(s3,s4),(s5,s6))))∧Below w.heap.size w w'):=by
 have K0:∀ W,Calls Tryz.prog 151 #[au #[Z I s1,Z I s2]] W (fun e w'=>e= aj (Z I (jY (s1,s2)))∧Below W.heap.size W w'):=fun W=>by unfold jY;exact dH.iT s1 s2 W
 have K1:∀ W,Calls Tryz.prog 151 #[au #[Z I s3,Z I s4]] W (fun e w'=>e= aj (Z I (jY (s3,s4)))∧Below W.heap.size W w'):=fun W=>by unfold jY;exact dH.iT s3 s4 W
 have K2:∀ W,Calls Tryz.prog 151 #[au #[Z I s5,Z I s6]] W (fun e w'=>e= aj (Z I (jY (s5,s6)))∧Below W.heap.size W w'):=fun W=>by unfold jY;exact dH.iT s5 s6 W
 have e:qg ((s1,s2),(s3,s4),(s5,s6))=if jY (s1,s2)≠0 then jY (s1,s2) else if jY (s3,s4)≠0 then jY (s3,s4) else jY (s5,s6):=rfl
 rw [e];generalize jY (s1,s2)=k0 at *;generalize jY (s3,s4)=k1 at *;generalize jY (s5,s6)=k2 at *;clear e;refine Fx.door Tryz.func68 rfl (.nil w []) ?_;refine Fx.new [] 1 #[Z I s1,Z I s2,Z I s3,Z I s4,Z I s5,Z I s6] 42 [] [] fun gM=>?_;refine Fx.aY [3,1] 4 40 [(6,au #[Z I s1,Z I s2,Z I s3,Z I s4,Z I s5,Z I s6]),(7,Z I 0),(9,au #[Z I s1,Z I s2])] [] fun gI=>?_;refine Fx.dD [4,4] 11 [] [(1,#[Z I s1,Z I s2])] K0 ?_;refine Fx.part 7 [] [(13,ak (!(k0 == 0))),(5,Z I k0)] [] ?_;refine Fx.splitB (fun H1=>?_) (fun H1=>?_)
 ·skip
  exact Fx.qP (v:=Z I k0) [1] [] (fun W M=>by have HB:=M.below;exact ⟨by simp_all,HB⟩)
 ·skip
  refine Fx.aY [2,1] 4 40 [(7,Z I 1),(9,au #[Z I s3,Z I s4])] [] fun gH=>?_;refine Fx.dD [5,5] 11 [] [(2,#[Z I s3,Z I s4])] K1 ?_;refine Fx.part 7 [] [(13,ak (!(k1 == 0))),(5,Z I k1)] [] ?_;refine Fx.splitB (fun H2=>?_) (fun H2=>?_)
  ·skip
   exact Fx.qP (v:=Z I k1) [1] [] (fun W M=>by have HB:=M.below;exact ⟨by simp_all,HB⟩)
  ·skip
   refine Fx.aY [2,1] 4 40 [(7,Z I 2),(9,au #[Z I s5,Z I s6])] [] fun oP=>?_;refine Fx.dD [6,6] 11 [] [(3,#[Z I s5,Z I s6])] K2 ?_;refine Fx.part 7 [] [(13,ak (!(k2 == 0))),(5,Z I k2)] [] ?_;refine Fx.splitB (fun H3=>?_) (fun H3=>?_)
   ·skip
    exact Fx.qP (v:=Z I k2) [1] [] (fun W M=>by have HB:=M.below;exact ⟨by simp_all,HB⟩)
   ·skip
    exact Fx.qP (v:=Z I 0) [2,2] [] (fun W M=>by have HB:=M.below;exact ⟨by simp_all,HB⟩)
def Lc (t:light.iJ) (w:light.iJ):((Int × Int) × (Int × Int) × (Int × Int)) × Int:=if light.sw t≠0 then (z3,light.sw t) else if light.xB w≠0 then (z3,light.xB w) else OH t w
theorem Yc {a1 a2 a3 a4 a5 a6:ByteArray} {b1 b2 b3 b4 b5 b6:ByteArray} {x1 x2 x3 x4 x5 x6:Int} {k:Int} (hx:gB (Lc ⟨⟨a1,a2⟩,⟨a3,a4⟩,⟨a5,a6⟩⟩ ⟨⟨b1,b2⟩,⟨b3,b4⟩,⟨b5,b6⟩⟩) ((x1,x2),(x3,x4),(x5,x6)) k) (w:World) (ht:jH.Pow w) (he:whole.Er w) :
  Calls Tryz.prog 14 #[au #[O a1,O a2,O a3,O a4,O a5,O a6],au #[O b1,O b2,O b3,O b4,O b5,O b6]] w (Du w (au #[Z I x1,Z I x2,Z I x3,Z I x4,Z I x5,Z I x6]) (au #[Z I 0,Z I 0,Z I 0,Z I 0,Z I 0,Z I 0]) k):=by
 have K1:∀ W,Calls Tryz.prog 42 #[au #[O a1,O a2,O a3,O a4,O a5,O a6]] W (fun e w'=>e= aj (Z I (light.sw ⟨⟨a1,a2⟩,⟨a3,a4⟩,⟨a5,a6⟩⟩))∧Below W.heap.size W w'):=fun W=>light.iT ⟨⟨a1,a2⟩,⟨a3,a4⟩,⟨a5,a6⟩⟩ W;have K2:∀ W,Calls Tryz.prog 43 #[au #[O b1,O b2,O b3,O b4,O b5,O b6]] W (fun e w'=>e= aj (Z I (light.xB ⟨⟨b1,b2⟩,⟨b3,b4⟩,⟨b5,b6⟩⟩))∧Below W.heap.size W w'):=fun W=>light.Ky ⟨⟨b1,b2⟩,⟨b3,b4⟩,⟨b5,b6⟩⟩ W;have e0:Lc ⟨⟨a1,a2⟩,⟨a3,a4⟩,⟨a5,a6⟩⟩ ⟨⟨b1,b2⟩,⟨b3,b4⟩,⟨b5,b6⟩⟩=if light.sw ⟨⟨a1,a2⟩,⟨a3,a4⟩,⟨a5,a6⟩⟩≠0 then (z3,light.sw ⟨⟨a1,a2⟩,⟨a3,a4⟩,⟨a5,a6⟩⟩) else if light.xB ⟨⟨b1,b2⟩,⟨b3,b4⟩,⟨b5,b6⟩⟩≠0 then (z3,light.xB ⟨⟨b1,b2⟩,⟨b3,b4⟩,⟨b5,b6⟩⟩) else OH ⟨⟨a1,a2⟩,⟨a3,a4⟩,⟨a5,a6⟩⟩ ⟨⟨b1,b2⟩,⟨b3,b4⟩,⟨b5,b6⟩⟩:=rfl
 rw [e0] at hx;generalize light.sw ⟨⟨a1,a2⟩,⟨a3,a4⟩,⟨a5,a6⟩⟩=c at *;generalize light.xB ⟨⟨b1,b2⟩,⟨b3,b4⟩,⟨b5,b6⟩⟩=d at *;clear e0
 obtain ⟨g1,g2,g3,g4,g5,g6,hg⟩:∃ g1 g2 g3 g4 g5 g6:Int,(k=0∧Value.agg #[Z I g1,Z I g2,Z I g3,Z I g4,Z I g5,Z I g6]= au #[Z I x1,Z I x2,Z I x3,Z I x4,Z I x5,Z I x6])∨(k≠0∧Value.agg #[Z I g1,Z I g2,Z I g3,Z I g4,Z I g5,Z I g6]= au #[Z I 0,Z I 0,Z I 0,Z I 0,Z I 0,Z I 0]):=by
  by_cases h:k=0
  ·exact ⟨_,_,_,_,_,_,.inl ⟨h,rfl⟩⟩
  ·exact ⟨_,_,_,_,_,_,.inr ⟨h,rfl⟩⟩
 refine Fx.door Tryz.func14 rfl (.nil w []) ?_;refine Fx.new [] 2 #[O a1,O a2,O a3,O a4,O a5,O a6] 34 [] [] fun gM=>?_;refine Fx.new [] 3 #[O b1,O b2,O b3,O b4,O b5,O b6] 34 [] [] fun gI=>?_;refine Fx.aY [] 4 42 [] [] fun gH=>?_;refine Fx.dD [3] 9 [] [] K1 ?_;refine Fx.part 7 [] [(11,ak (!(c == 0))),(6,Z I c)] [] ?_;refine Fx.splitB (fun H1=>?_) (fun H1=>?_)
 ·skip
  exact Fx.fU (cs:=#[Z I 0,Z I 0,Z I 0,Z I 0,Z I 0,Z I 0]) (y:=Z I c) 2 gH [1,5] [(2,#[Z I 0,Z I 0,Z I 0,Z I 0,Z I 0,Z I 0])] (fun W M=>by have HB:=M.below;first|(obtain ⟨rfl,h⟩:=ow hx H1;exact ⟨HB,.inr ⟨h,rfl⟩⟩)|(obtain ⟨rfl,h⟩:=ow (Az hx H1) H2;exact ⟨HB,.inr ⟨h,rfl⟩⟩)|exact ⟨HB,hg.imp (fun h=>⟨h.1,by rw [h.2,h.1]⟩) fun h=>⟨h.1,by rw [h.2]⟩⟩)
 ·skip
  refine Fx.dD [2,4] 15 [] [] K2 ?_;refine Fx.part 7 [] [(17,ak (!(d == 0))),(7,Z I d)] [] ?_;refine Fx.splitB (fun H2=>?_) (fun H2=>?_)
  ·skip
   exact Fx.fU (cs:=#[Z I 0,Z I 0,Z I 0,Z I 0,Z I 0,Z I 0]) (y:=Z I d) 2 gH [1,5] [(2,#[Z I 0,Z I 0,Z I 0,Z I 0,Z I 0,Z I 0])] (fun W M=>by have HB:=M.below;first|(obtain ⟨rfl,h⟩:=ow hx H1;exact ⟨HB,.inr ⟨h,rfl⟩⟩)|(obtain ⟨rfl,h⟩:=ow (Az hx H1) H2;exact ⟨HB,.inr ⟨h,rfl⟩⟩)|exact ⟨HB,hg.imp (fun h=>⟨h.1,by rw [h.2,h.1]⟩) fun h=>⟨h.1,by rw [h.2]⟩⟩)
  ·skip
   refine Fx.call [2] 21 [] [] (fun W M=>Bc (MJ (k:=k) W (fun V hV=>Sq (Az (Az hx H1) H2) V ((M.box (b:=gM) 0).later hV) ((M.box (b:=gI) 1).later hV) (ht.later (Bt M.below hV)) (he.later (Bt M.below hV))) (fun args W=>by kernel_rfl)) hg) ?_;exact Fx.fU (cs:=#[Z I g1,Z I g2,Z I g3,Z I g4,Z I g5,Z I g6]) (y:=Z I k) 2 gH [5] [(2,#[Z I g1,Z I g2,Z I g3,Z I g4,Z I g5,Z I g6])] (fun W M=>by have HB:=M.below;first|(obtain ⟨rfl,h⟩:=ow hx H1;exact ⟨HB,.inr ⟨h,rfl⟩⟩)|(obtain ⟨rfl,h⟩:=ow (Az hx H1) H2;exact ⟨HB,.inr ⟨h,rfl⟩⟩)|exact ⟨HB,hg.imp (fun h=>⟨h.1,by rw [h.2,h.1]⟩) fun h=>⟨h.1,by rw [h.2]⟩⟩)
def CU (t:light.iJ) (w:light.iJ):light.iJ × Int:=if lN t≠0 then (t0,lN t) else if light.xB w≠0 then (t0,light.xB w) else O5 t w
theorem RG {a1 a2 a3 a4 a5 a6:ByteArray} {b1 b2 b3 b4 b5 b6:ByteArray} {x1 x2 x3 x4 x5 x6:ByteArray} {k:Int} (hx:gB (CU ⟨⟨a1,a2⟩,⟨a3,a4⟩,⟨a5,a6⟩⟩ ⟨⟨b1,b2⟩,⟨b3,b4⟩,⟨b5,b6⟩⟩) ⟨⟨x1,x2⟩,⟨x3,x4⟩,⟨x5,x6⟩⟩ k) (w:World) (ht:jH.Pow w) (he:whole.Er w) :
  Calls Tryz.prog 32 #[au #[O a1,O a2,O a3,O a4,O a5,O a6],au #[O b1,O b2,O b3,O b4,O b5,O b6]] w (Du w (au #[O x1,O x2,O x3,O x4,O x5,O x6]) (au #[O ⟨#[]⟩,O ⟨#[]⟩,O ⟨#[]⟩,O ⟨#[]⟩,O ⟨#[]⟩,O ⟨#[]⟩]) k):=by
 have K1:∀ W,Calls Tryz.prog 79 #[au #[O a1,O a2,O a3,O a4,O a5,O a6]] W (fun e w'=>e= aj (Z I (lN ⟨⟨a1,a2⟩,⟨a3,a4⟩,⟨a5,a6⟩⟩))∧Below W.heap.size W w'):=fun W=>mX a1 a2 a3 a4 a5 a6 W;have K2:∀ W,Calls Tryz.prog 43 #[au #[O b1,O b2,O b3,O b4,O b5,O b6]] W (fun e w'=>e= aj (Z I (light.xB ⟨⟨b1,b2⟩,⟨b3,b4⟩,⟨b5,b6⟩⟩))∧Below W.heap.size W w'):=fun W=>light.Ky ⟨⟨b1,b2⟩,⟨b3,b4⟩,⟨b5,b6⟩⟩ W;have e0:CU ⟨⟨a1,a2⟩,⟨a3,a4⟩,⟨a5,a6⟩⟩ ⟨⟨b1,b2⟩,⟨b3,b4⟩,⟨b5,b6⟩⟩=if lN ⟨⟨a1,a2⟩,⟨a3,a4⟩,⟨a5,a6⟩⟩≠0 then (t0,lN ⟨⟨a1,a2⟩,⟨a3,a4⟩,⟨a5,a6⟩⟩) else if light.xB ⟨⟨b1,b2⟩,⟨b3,b4⟩,⟨b5,b6⟩⟩≠0 then (t0,light.xB ⟨⟨b1,b2⟩,⟨b3,b4⟩,⟨b5,b6⟩⟩) else O5 ⟨⟨a1,a2⟩,⟨a3,a4⟩,⟨a5,a6⟩⟩ ⟨⟨b1,b2⟩,⟨b3,b4⟩,⟨b5,b6⟩⟩:=rfl
 rw [e0] at hx;generalize lN ⟨⟨a1,a2⟩,⟨a3,a4⟩,⟨a5,a6⟩⟩=c at *;generalize light.xB ⟨⟨b1,b2⟩,⟨b3,b4⟩,⟨b5,b6⟩⟩=d at *;clear e0
 obtain ⟨g1,g2,g3,g4,g5,g6,hg⟩:∃ g1 g2 g3 g4 g5 g6:ByteArray,(k=0∧Value.agg #[O g1,O g2,O g3,O g4,O g5,O g6]= au #[O x1,O x2,O x3,O x4,O x5,O x6])∨(k≠0∧Value.agg #[O g1,O g2,O g3,O g4,O g5,O g6]= au #[O ⟨#[]⟩,O ⟨#[]⟩,O ⟨#[]⟩,O ⟨#[]⟩,O ⟨#[]⟩,O ⟨#[]⟩]):=by
  by_cases h:k=0
  ·exact ⟨_,_,_,_,_,_,.inl ⟨h,rfl⟩⟩
  ·exact ⟨_,_,_,_,_,_,.inr ⟨h,rfl⟩⟩
 refine Fx.door Tryz.func32 rfl (.nil w []) ?_;refine Fx.new [] 2 #[O a1,O a2,O a3,O a4,O a5,O a6] 34 [] [] fun gM=>?_;refine Fx.new [] 3 #[O b1,O b2,O b3,O b4,O b5,O b6] 34 [] [] fun gI=>?_;refine Fx.aY [] 4 34 [] [] fun gH=>?_;refine Fx.dD [3] 9 [] [] K1 ?_;refine Fx.part 7 [] [(11,ak (!(c == 0))),(6,Z I c)] [] ?_;refine Fx.splitB (fun H1=>?_) (fun H1=>?_)
 ·skip
  exact Fx.fU (cs:=#[O ⟨#[]⟩,O ⟨#[]⟩,O ⟨#[]⟩,O ⟨#[]⟩,O ⟨#[]⟩,O ⟨#[]⟩]) (y:=Z I c) 2 gH [1,5] [(2,#[O ⟨#[]⟩,O ⟨#[]⟩,O ⟨#[]⟩,O ⟨#[]⟩,O ⟨#[]⟩,O ⟨#[]⟩])] (fun W M=>by have HB:=M.below;first|(obtain ⟨rfl,h⟩:=ow hx H1;exact ⟨HB,.inr ⟨h,rfl⟩⟩)|(obtain ⟨rfl,h⟩:=ow (Az hx H1) H2;exact ⟨HB,.inr ⟨h,rfl⟩⟩)|exact ⟨HB,hg.imp (fun h=>⟨h.1,by rw [h.2,h.1]⟩) fun h=>⟨h.1,by rw [h.2]⟩⟩)
 ·skip
  refine Fx.dD [2,4] 15 [] [] K2 ?_;refine Fx.part 7 [] [(17,ak (!(d == 0))),(7,Z I d)] [] ?_;refine Fx.splitB (fun H2=>?_) (fun H2=>?_)
  ·skip
   exact Fx.fU (cs:=#[O ⟨#[]⟩,O ⟨#[]⟩,O ⟨#[]⟩,O ⟨#[]⟩,O ⟨#[]⟩,O ⟨#[]⟩]) (y:=Z I d) 2 gH [1,5] [(2,#[O ⟨#[]⟩,O ⟨#[]⟩,O ⟨#[]⟩,O ⟨#[]⟩,O ⟨#[]⟩,O ⟨#[]⟩])] (fun W M=>by have HB:=M.below;first|(obtain ⟨rfl,h⟩:=ow hx H1;exact ⟨HB,.inr ⟨h,rfl⟩⟩)|(obtain ⟨rfl,h⟩:=ow (Az hx H1) H2;exact ⟨HB,.inr ⟨h,rfl⟩⟩)|exact ⟨HB,hg.imp (fun h=>⟨h.1,by rw [h.2,h.1]⟩) fun h=>⟨h.1,by rw [h.2]⟩⟩)
  ·skip
   refine Fx.call [2] 21 [] [] (fun W M=>Bc (wI (k:=k) W (fun V hV=>MK (Az (Az hx H1) H2) V ((M.box (b:=gM) 0).later hV) ((M.box (b:=gI) 1).later hV) (ht.later (Bt M.below hV))) (fun args W=>by kernel_rfl)) hg) ?_;exact Fx.fU (cs:=#[O g1,O g2,O g3,O g4,O g5,O g6]) (y:=Z I k) 2 gH [5] [(2,#[O g1,O g2,O g3,O g4,O g5,O g6])] (fun W M=>by have HB:=M.below;first|(obtain ⟨rfl,h⟩:=ow hx H1;exact ⟨HB,.inr ⟨h,rfl⟩⟩)|(obtain ⟨rfl,h⟩:=ow (Az hx H1) H2;exact ⟨HB,.inr ⟨h,rfl⟩⟩)|exact ⟨HB,hg.imp (fun h=>⟨h.1,by rw [h.2,h.1]⟩) fun h=>⟨h.1,by rw [h.2]⟩⟩)
def He (t:light.iJ):light.iJ × Int:=if lN t≠0 then (t0,lN t) else encI t
theorem VA {a1 a2 a3 a4 a5 a6 x1 x2 x3 x4 x5 x6:ByteArray} {k:Int} (hx:gB (He ⟨⟨a1,a2⟩,⟨a3,a4⟩,⟨a5,a6⟩⟩) ⟨⟨x1,x2⟩,⟨x3,x4⟩,⟨x5,x6⟩⟩ k) (w:World) (ht:jH.Pow w) :
  Calls Tryz.prog 25 #[au #[O a1,O a2,O a3,O a4,O a5,O a6]] w (Du w (au #[O x1,O x2,O x3,O x4,O x5,O x6]) (au #[O ⟨#[]⟩,O ⟨#[]⟩,O ⟨#[]⟩,O ⟨#[]⟩,O ⟨#[]⟩,O ⟨#[]⟩]) k):=by
 have K1:∀ W,Calls Tryz.prog 79 #[au #[O a1,O a2,O a3,O a4,O a5,O a6]] W (fun e w'=>e= aj (Z I (lN ⟨⟨a1,a2⟩,⟨a3,a4⟩,⟨a5,a6⟩⟩))∧Below W.heap.size W w'):=fun W=>mX a1 a2 a3 a4 a5 a6 W;have e0:He ⟨⟨a1,a2⟩,⟨a3,a4⟩,⟨a5,a6⟩⟩=if lN ⟨⟨a1,a2⟩,⟨a3,a4⟩,⟨a5,a6⟩⟩≠0 then (t0,lN ⟨⟨a1,a2⟩,⟨a3,a4⟩,⟨a5,a6⟩⟩) else encI ⟨⟨a1,a2⟩,⟨a3,a4⟩,⟨a5,a6⟩⟩:=rfl
 rw [e0] at hx;generalize lN ⟨⟨a1,a2⟩,⟨a3,a4⟩,⟨a5,a6⟩⟩=c at *;clear e0
 obtain ⟨g1,g2,g3,g4,g5,g6,hg⟩:∃ g1 g2 g3 g4 g5 g6:ByteArray,(k=0∧Value.agg #[O g1,O g2,O g3,O g4,O g5,O g6]= au #[O x1,O x2,O x3,O x4,O x5,O x6])∨(k≠0∧Value.agg #[O g1,O g2,O g3,O g4,O g5,O g6]= au #[O ⟨#[]⟩,O ⟨#[]⟩,O ⟨#[]⟩,O ⟨#[]⟩,O ⟨#[]⟩,O ⟨#[]⟩]):=by
  by_cases h:k=0
  ·exact ⟨_,_,_,_,_,_,.inl ⟨h,rfl⟩⟩
  ·exact ⟨_,_,_,_,_,_,.inr ⟨h,rfl⟩⟩
 refine Fx.door Tryz.func25 rfl (.nil w []) ?_;refine Fx.new [] 1 #[O a1,O a2,O a3,O a4,O a5,O a6] 34 [] [] fun gM=>?_;refine Fx.aY [] 2 34 [] [] fun gI=>?_;refine Fx.dD [3] 6 [] [] K1 ?_;refine Fx.part 7 [] [(8,ak (!(c == 0))),(4,Z I c)] [] ?_;refine Fx.splitB (fun H1=>?_) (fun H1=>?_)
 ·skip
  exact Fx.fU (cs:=#[O ⟨#[]⟩,O ⟨#[]⟩,O ⟨#[]⟩,O ⟨#[]⟩,O ⟨#[]⟩,O ⟨#[]⟩]) (y:=Z I c) 1 gI [1,4] [(1,#[O ⟨#[]⟩,O ⟨#[]⟩,O ⟨#[]⟩,O ⟨#[]⟩,O ⟨#[]⟩,O ⟨#[]⟩])] (fun W M=>by have HB:=M.below;first|(obtain ⟨rfl,h⟩:=ow hx H1;exact ⟨HB,.inr ⟨h,rfl⟩⟩)|exact ⟨HB,hg.imp (fun h=>⟨h.1,by rw [h.2,h.1]⟩) fun h=>⟨h.1,by rw [h.2]⟩⟩)
 ·skip
  refine Fx.call [2] 12 [] [] (fun W M=>Bc (wI (k:=k) W (fun V hV=>ac9 (Az hx H1) V ((M.box (b:=gM) 0).later hV) (ht.later (Bt M.below hV))) (fun args W=>by kernel_rfl)) hg) ?_;exact Fx.fU (cs:=#[O g1,O g2,O g3,O g4,O g5,O g6]) (y:=Z I k) 1 gI [4] [(1,#[O g1,O g2,O g3,O g4,O g5,O g6])] (fun W M=>by have HB:=M.below;first|(obtain ⟨rfl,h⟩:=ow hx H1;exact ⟨HB,.inr ⟨h,rfl⟩⟩)|exact ⟨HB,hg.imp (fun h=>⟨h.1,by rw [h.2,h.1]⟩) fun h=>⟨h.1,by rw [h.2]⟩⟩)
def Hf (t:light.iJ):light.iJ × Int:=if lN t≠0 then (t0,lN t) else JZ t
theorem VF {a1 a2 a3 a4 a5 a6 x1 x2 x3 x4 x5 x6:ByteArray} {k:Int} (hx:gB (Hf ⟨⟨a1,a2⟩,⟨a3,a4⟩,⟨a5,a6⟩⟩) ⟨⟨x1,x2⟩,⟨x3,x4⟩,⟨x5,x6⟩⟩ k) (w:World) (ht:jH.Pow w) :
  Calls Tryz.prog 27 #[au #[O a1,O a2,O a3,O a4,O a5,O a6]] w (Du w (au #[O x1,O x2,O x3,O x4,O x5,O x6]) (au #[O ⟨#[]⟩,O ⟨#[]⟩,O ⟨#[]⟩,O ⟨#[]⟩,O ⟨#[]⟩,O ⟨#[]⟩]) k):=by
 have K1:∀ W,Calls Tryz.prog 79 #[au #[O a1,O a2,O a3,O a4,O a5,O a6]] W (fun e w'=>e= aj (Z I (lN ⟨⟨a1,a2⟩,⟨a3,a4⟩,⟨a5,a6⟩⟩))∧Below W.heap.size W w'):=fun W=>mX a1 a2 a3 a4 a5 a6 W;have e0:Hf ⟨⟨a1,a2⟩,⟨a3,a4⟩,⟨a5,a6⟩⟩=if lN ⟨⟨a1,a2⟩,⟨a3,a4⟩,⟨a5,a6⟩⟩≠0 then (t0,lN ⟨⟨a1,a2⟩,⟨a3,a4⟩,⟨a5,a6⟩⟩) else JZ ⟨⟨a1,a2⟩,⟨a3,a4⟩,⟨a5,a6⟩⟩:=rfl
 rw [e0] at hx;generalize lN ⟨⟨a1,a2⟩,⟨a3,a4⟩,⟨a5,a6⟩⟩=c at *;clear e0
 obtain ⟨g1,g2,g3,g4,g5,g6,hg⟩:∃ g1 g2 g3 g4 g5 g6:ByteArray,(k=0∧Value.agg #[O g1,O g2,O g3,O g4,O g5,O g6]= au #[O x1,O x2,O x3,O x4,O x5,O x6])∨(k≠0∧Value.agg #[O g1,O g2,O g3,O g4,O g5,O g6]= au #[O ⟨#[]⟩,O ⟨#[]⟩,O ⟨#[]⟩,O ⟨#[]⟩,O ⟨#[]⟩,O ⟨#[]⟩]):=by
  by_cases h:k=0
  ·exact ⟨_,_,_,_,_,_,.inl ⟨h,rfl⟩⟩
  ·exact ⟨_,_,_,_,_,_,.inr ⟨h,rfl⟩⟩
 refine Fx.door Tryz.func27 rfl (.nil w []) ?_;refine Fx.new [] 1 #[O a1,O a2,O a3,O a4,O a5,O a6] 34 [] [] fun gM=>?_;refine Fx.aY [] 2 34 [] [] fun gI=>?_;refine Fx.dD [3] 6 [] [] K1 ?_;refine Fx.part 7 [] [(8,ak (!(c == 0))),(4,Z I c)] [] ?_;refine Fx.splitB (fun H1=>?_) (fun H1=>?_)
 ·skip
  exact Fx.fU (cs:=#[O ⟨#[]⟩,O ⟨#[]⟩,O ⟨#[]⟩,O ⟨#[]⟩,O ⟨#[]⟩,O ⟨#[]⟩]) (y:=Z I c) 1 gI [1,4] [(1,#[O ⟨#[]⟩,O ⟨#[]⟩,O ⟨#[]⟩,O ⟨#[]⟩,O ⟨#[]⟩,O ⟨#[]⟩])] (fun W M=>by have HB:=M.below;first|(obtain ⟨rfl,h⟩:=ow hx H1;exact ⟨HB,.inr ⟨h,rfl⟩⟩)|exact ⟨HB,hg.imp (fun h=>⟨h.1,by rw [h.2,h.1]⟩) fun h=>⟨h.1,by rw [h.2]⟩⟩)
 ·skip
  refine Fx.call [2] 12 [] [] (fun W M=>Bc (wI (k:=k) W (fun V hV=>ad5 (Az hx H1) V ((M.box (b:=gM) 0).later hV) (ht.later (Bt M.below hV))) (fun args W=>by kernel_rfl)) hg) ?_;exact Fx.fU (cs:=#[O g1,O g2,O g3,O g4,O g5,O g6]) (y:=Z I k) 1 gI [4] [(1,#[O g1,O g2,O g3,O g4,O g5,O g6])] (fun W M=>by have HB:=M.below;first|(obtain ⟨rfl,h⟩:=ow hx H1;exact ⟨HB,.inr ⟨h,rfl⟩⟩)|exact ⟨HB,hg.imp (fun h=>⟨h.1,by rw [h.2,h.1]⟩) fun h=>⟨h.1,by rw [h.2]⟩⟩)
end Go.Proofs.lab
namespace Go.Proofs.fF
open Go Go.RowKit Go.SW Go.Num Go.Mem Go.Proofs Go.Dec Go.gD Go.Proofs.dH Go.Proofs.aH Go.Proofs.aU Go.Proofs.power
theorem BF {l:List Nat} (h:mJ l≤10^38):jw 10 (tK l):=by
 unfold tK VY;obtain ⟨h1,h2⟩:=GQ (n:=(mJ l:Int)) (d:=1000000000000000000000000) zo;rw [Int.natAbs_natCast] at h1;exact ⟨cO zo _ _ zo,cO zo _ _ zo⟩
theorem I4 {l:List Nat} (h:mJ l≤10^38):ag5 (tK l) 2 (nlo l) where
 Ot:=by omega
 big:=(BF h).mono zo
 iff:=fun m=>(O7 m l).1
theorem V8 {l:List Nat} (h:nlo l≤1000000000000000001):Wh (tK l) 2 (nlo l)=nhi l:=by
 unfold Wh nhi;rw [iO h];have h1:=(Jr l).1;have h2:=(O7 (nlo l) l).2;split
 ·rename_i k;have:=h2.1 k;rw [if_neg zo]
 ·rename_i k;have:¬ nlo l^2<mJ l:=fun j=>k (h2.2 j);rw [if_pos zo]
theorem Pg {a b:Nat} (h:1000000000000000000<a∨1000000000000000000<b):iG (a:Int) (b:Int)=false:=by
 unfold iG;rw [Bool.and_eq_false_iff]
 right
 rw [Bool.and_eq_false_iff]
 by_cases h2:b≤1000000000000000000
 ·left
  exact decide_eq_false zo
 ·right
  exact decide_eq_false zo
theorem V9 {X:Rat} {q r:Nat}:min r 1000000000000000001≤Wh X q r:=by
 unfold Wh;split<;>omega
theorem TP (a b:List Nat):gT ((min (nlo a) 1000000000000000001:Nat):Int) ((Wh (tK b) 2 (nlo b):Nat):Int)=Cb (sN a false) (sN b true):=by
 unfold Cb sN;have t:(10:Nat)^18=1000000000000000000:=by decide
 rw [t];unfold gT
 by_cases h1:nlo a≤1000000000000000000
 ·by_cases h2:nlo b≤1000000000000000000
  ·rw [if_pos h1,if_pos h2,iO zo,V8 zo];simp
  ·rw [Pg (.inr (aI zo V9)),if_pos h1,if_neg h2];simp
 ·rw [Pg (.inl zo),if_neg h1];simp
theorem M0 {lo hi:Int} (h:iG lo hi=true):abE lo hi=(((vG (lo,hi):Int),(vN (lo,hi):Int)),0)∧vG (lo,hi)≤10^18∧vN (lo,hi)≤10^18:=by
 obtain ⟨k1,k2,k3⟩: -1000000000000000000≤lo∧lo≤hi∧hi≤1000000000000000000:=by simpa [iG] using h
 unfold abE vG vN;rw [h];simp only [Bool.true_eq_false,if_false];refine ⟨?_,by omega,by omega⟩;split
 ·congr 2<;>omega
 ·split
  ·congr 2<;>omega
  ·congr 2<;>omega
theorem ag4 {lo hi:Int} (h:iG lo hi=false):abE lo hi=((0,0),30):=by
 unfold abE;rw [if_pos h]
theorem Zw {l:List Nat} (h:∀ x∈l,x≤10^18) (h8:l.length≤8):mJ l≤10^38:=by
 have:=Fb h;have h2:=dP h8 (aD ((10^18)^2));omega
theorem IQ {l:List (Int × Int)} {k:Nat} (f:Int × Int→Nat) (h:k<l.length):(l.map f).take (k+1)=(l.map f).take k++[f l[k]]:=by
 rw [fq (by simpa using h),List.getElem_map]
def Yg (bs:List (Int × Int)) (k:Nat):Prop:=∀ j (h:j<bs.length),j<k→iG bs[j].1 bs[j].2=true
theorem GH {bs:List (Int × Int)} {k:Nat} (h:Yg bs k) (h8:bs.length≤8):mJ ((bs.map vG).take k)≤10^38∧mJ ((bs.map vN).take k)≤10^38:=by
 have key:∀ f:Int × Int→Nat,(∀ lo hi,iG lo hi=true→f (lo,hi)≤10^18)→mJ ((bs.map f).take k)≤10^38:=fun f hf=>by
  refine Zw (fun x hx=>?_) (by rw [List.length_take,List.length_map];omega);obtain ⟨j,hj,rfl⟩:=List.getElem_of_mem hx;rw [List.length_take,List.length_map] at hj;rw [List.getElem_take,List.getElem_map];exact hf _ _ (h j zo zo)
 exact ⟨key vG fun lo hi h=>(M0 h).2.1,key vN fun lo hi h=>(M0 h).2.2⟩
theorem TA {bs:List (Int × Int)} (h:Yg bs bs.length):okB bs=true:=by
 unfold okB;rw [dX];intro x hx;obtain ⟨j,hj,rfl⟩:=List.getElem_of_mem hx;exact h j hj hj
theorem WS {bs:List (Int × Int)} {k:Nat} (hk:k<bs.length) (h:iG bs[k].1 bs[k].2=false):okB bs=false:=by
 unfold okB;rw [List.all_eq_false];exact ⟨bs[k],dY _,by rw [h];simp⟩
theorem zG (a:Option Addr) (cap:Nat) (bs:List (Int × Int)) (h1:1≤bs.length) (h8:bs.length≤8) (hc1:bs.length≤cap) (hc2:cap≤9223372036854775807) (w:World)
  (hread:∀ k (_:k<bs.length),∃ b off,a=some ⟨b,off,none⟩∧b<w.heap.size∧w.cell? ⟨b,off+k*2,none⟩=some (.int .i64 bs[k].1)∧w.cell? ⟨b,off+k*2+1,none⟩=some (.int .i64 bs[k].2)) :
  Calls Tryz.prog 163 #[ah a bs.length cap] w (fun e w'=>e= aj (d9 (qQ bs))∧Below w.heap.size w w'):=by
 have HR:=zh hread;have H8:=zh h8;have q1:¬ (bs.length:Int)=0:=by omega
 have q2:¬ (8:Int)<(bs.length:Int):=by omega
 obtain ⟨z,EZ⟩:∃ z,qQ bs=z:=⟨_,rfl⟩;rw [EZ];unfold qQ at EZ;rw [if_neg zo,if_neg zo] at EZ;have HZ:=zh EZ;clear EZ hread;obtain ⟨⟨z1,z2⟩,z3⟩:=z;have HQ:=zh (fun W=>rz 0 1 zo zo zo zo zo W);rw [SE] at HQ;unfold d9;go_enter Tryz.func163,Tryz.ntmps163
 go_wp2_with fail
 obtain ⟨wx,EW,hz,X2⟩:=wR w #[Z I 0,Z I 0] 40;rw [EW];clear EW;refine (HQ.out _).mono ?_;rintro e w1 ⟨v1,rfl,hb,hv1⟩;obtain ⟨bV1,pV1,nV1,eV1,dV1,qV1,mV1,fV1,rfl, -⟩:=id hv1;have V1:=zh hv1;clear hv1;replace X2:=X2.bl hb;have HB:=zh (Bt hz hb);clear hz hb;go_wp2_with fail
 refine (HQ.out _).mono ?_;rintro e w2 ⟨v2,rfl,hb,hv2⟩;obtain ⟨bV2,pV2,nV2,eV2,dV2,qV2,mV2,fV2,rfl, -⟩:=id hv2;have V2:=zh hv2;clear hv2;replace X2:=X2.bl hb;replace HB:=zh (Bt HB.out hb);replace V1:=zh (V1.out.later hb);clear hb HQ;go_wp2_with fail
 obtain ⟨wy,EW,hz,X4,X5⟩:=Dz w2 #[ak bV1,ah pV1 nV1 eV1,ak dV1,ah qV1 mV1 fV1] 163 #[ak bV2,ah pV2 nV2 eV2,ak dV2,ah qV2 mV2 fV2] 163
 (try rw [EW])
 clear EW;have hg0:w.heap.size<w2.heap.size:=X2.out.lt;replace X2:=X2.bl hz;replace HB:=zh (Bt HB.out hz);replace V1:=zh (V1.out.later hz);replace V2:=zh (V2.out.later hz);obtain ⟨g,eg⟩:∃ g,w2.heap.size=g:=⟨_,rfl⟩;rw [eg] at X4 X5 hg0 ⊢;have HG:=zh hg0;clear eg hz hg0
 go_loopw [6] (fun iv wr=>∃ (k:Nat) (b1:Bool) (p1:Option Addr) (n1 e1:Nat) (d1:Bool) (q1:Option Addr) (m1 f1:Nat) (b2:Bool) (p2:Option Addr) (n2 e2:Nat) (d2:Bool) (q2:Option Addr) (m2 f2:Nat),k≤bs.length∧iv= Z I (k:Int)∧Hid (Yg bs k) ∧
   Hid (Ra wr (au #[ak b1,ah p1 n1 e1,ak d1,ah q1 m1 f1]) (tK ((bs.map vG).take k)))∧Hid (Ra wr (au #[ak b2,ah p2 n2 e2,ak d2,ah q2 m2 f2]) (tK ((bs.map vN).take k))) ∧
   Hid (aA wr g #[ak b1,ah p1 n1 e1,ak d1,ah q1 m1 f1] 163)∧Hid (aA wr (g+1) #[ak b2,ah p2 n2 e2,ak d2,ah q2 m2 f2] 163)∧Hid (aA wr w.heap.size #[Z I 0,Z I 0] 40)∧Hid (Below w.heap.size w wr)) (fun iv _=>bs.length - (intOf iv).toNat)
 case atStart=>exact ⟨0,_,_,_,_,_,_,_,_,_,_,_,_,_,_,_,_,by omega,rfl,zh (fun j _ h=>by omega),V1,V2,X4,X5,X2,HB⟩
 case round =>
  clear X2 X4 X5 V1 V2 HB;obtain ⟨k,b1,p1,n1,e1,d1,q1',m1,f1,b2,p2,n2,e2,d2,q2',m2,f2,hk,rfl,HO,V1,V2,X4,X5,X2,HB⟩:=hrel
  rcases aO k bs.length with hlt|hge
  ·obtain ⟨b,off,rfl,hbl,hx1,hx2⟩:=HR.out k hlt;have hc1:=(HB.out.cell (p:=⟨b,off+k*2,none⟩) hbl).trans hx1;have hc2:=(HB.out.cell (p:=⟨b,off+k*2+1,none⟩) hbl).trans hx2;clear hx1 hx2;have HT:=zh (And.intro (IQ vG hlt) (IQ vN hlt));have HN:=zh (fun h:iG bs[k].1 bs[k].2=false=>WS hlt h)
   have HY:=zh (fun h:iG bs[k].1 bs[k].2=true=>show Yg bs (k+1) from fun j hj hjk=>by
    rcases aO j k with h'|h'
    ·exact HO.out j hj h'
    ·obtain rfl:j=k:=by omega
     exact h)
   generalize bs[k]=y at *;obtain ⟨y1,y2⟩:=y;simp only at hc1 hc2 HN HY;have HA:=zh (fun W=>aU.N9 y1 y2 W);have JG:(k:Int)<(bs.length:Int):=by omega
   have hkw:(k:Int)<9223372036854775807:=by omega
   rcases Bool.eq_false_or_eq_true (iG y1 y2) with hbk|hbk
   ·obtain ⟨ha1,ha2,RZ⟩:=M0 hbk;rw [ha1] at HA;unfold d9 at HA;simp only at HA;have Vx:=zh (HY.out hbk);obtain ⟨a,ea⟩:∃ a,vG (y1,y2)=a:=⟨_,rfl⟩;obtain ⟨c,ec⟩:∃ c,vN (y1,y2)=c:=⟨_,rfl⟩;rw [ea] at HA HT ha2;rw [ec] at HA HT RZ;have HAC:=zh (And.intro ha2 RZ);clear ha1 ha2 RZ ea ec HN HY hbk;go_wp2_with fail
    refine (HA.out _).mono ?_;rintro e w3 ⟨rfl,hb⟩;replace X2:=X2.bl hb;replace X4:=X4.bl hb;replace X5:=X5.bl hb;replace HB:=zh (Bt HB.out hb);replace V1:=zh (V1.out.later hb);replace V2:=zh (V2.out.later hb);clear hb HA hc1 hc2;obtain ⟨wz,EW,hz,X7⟩:=wR w3 #[Z I (a:Int),Z I (c:Int)] 40;have hg7:g+1<w3.heap.size:=X5.out.lt;replace X2:=X2.bl hz;replace X4:=X4.bl hz;replace X5:=X5.bl hz;replace HB:=zh (Bt HB.out hz);replace V1:=zh (V1.out.later hz);replace V2:=zh (V2.out.later hz);obtain ⟨g7,eg⟩:∃ g,w3.heap.size=g:=⟨_,rfl⟩;rw [eg] at X7 hg7;have HG7:=zh hg7;obtain ⟨c4,l4⟩:=X4.cl;obtain ⟨c7,l7⟩:=X7.cl;clear hz hg7;go_wp2_with fail
    (try rw [EW])
    clear EW eg;refine aJ [(.read,0),(.pure,1),(.read,2),(.ext,3),(.ext,4),(.ext,5),(.fin,6)] zk zk zR zP ?_;refine Wk.out ?_;refine zS ?_;refine zS ?_;refine fM rfl rfl (fun Sj ha1 J hJ=>?_);have hs1:Below wz.heap.size wz Sj:=(by first|exact ha1|exact aF);have hx1:Below wz.heap.size wz Sj:=hs1;go_simp;refine (yI a (by have:=HAC.out;omega) Sj).mono ?_;rintro e YD ⟨v,rfl,hb1,hv⟩;refine hJ _ _ hb1 ?_;have hy1:=Bt hx1 hb1;obtain ⟨bS1,pS1,nS1,eS1,dS1,qS1,mS1,fS1,rfl, -⟩:=id hv;have S1:=zh hv;clear hv;clear hJ J ha1 hb1 hs1 hx1;refine zS ?_;refine fM rfl rfl (fun Si ha2 J hJ=>?_);have hs2:Below YD.heap.size YD Si:=(by first|exact ha2|exact aF);have hx2:Below wz.heap.size wz Si:=Bt hy1 hs2;go_simp;refine (uO a 2 (by have:=HAC.out;omega) zo _ Si (S1.out.later hs2)).mono ?_;rintro e YC ⟨v,rfl,hb2,hv⟩;refine hJ _ _ hb2 ?_;have hy2:=Bt hx2 hb2
    clear S1;obtain ⟨bT1,pT1,nT1,eT1,dT1,qT1,mT1,fT1,rfl, -⟩:=id hv;have T1:=zh hv;clear hv;clear hJ J ha2 hb2 hs2 hx2 hy1;refine zS ?_;refine fM rfl rfl (fun Sg RZ J hJ=>?_);have hs3:Below YC.heap.size YC Sg:=(by first|exact RZ|exact aF);have hx3:Below wz.heap.size wz Sg:=Bt hy2 hs3;go_simp;refine (aH.qm _ _ _ _ Sg (V1.out.later hx3) (T1.out.later hs3) ((BF (GH HO.out H8.out).1).mono zo) ((jJ (uP (by have:=HAC.out;omega) zo)).mono zo)).mono ?_;rintro e wb3 ⟨v,rfl,hb3,hv⟩;refine hJ _ _ hb3 ?_;have hy3:=Bt hx3 hb3;clear T1;rw [← E9,← HT.out.1] at hv;obtain ⟨bU1,pU1,nU1,eU1,dU1,qU1,mU1,fU1,rfl, -⟩:=id hv;have U1:=zh hv;clear hv;clear hJ J RZ hb3 hs3 hx3 hy2;refine rE [_] rfl (fun wf1 hbf=>?_);have GX:=Bt hy3 hbf;replace X2:=X2.bl GX;replace X4:=X4.bl GX;replace X5:=X5.bl GX;replace X7:=X7.bl GX
    replace HB:=zh (Bt HB.out GX);replace V2:=zh (V2.out.later GX);replace U1:=zh (U1.out.later hbf);clear GX hy3 hbf c7 l7;clear c4 l4;obtain ⟨c4,l4,f4⟩:=X4.clf;go_wp2_with fail
    have hne2:w.heap.size≠g:=by have:=HG.out;omega
    have hne5:g+1≠g:=by omega
    have Uk:g7≠g:=by have:=HG7.out;omega
    have hle:w.heap.size≤g:=by have:=HG.out;omega
    obtain ⟨ws,ES⟩:∃ y,(((wf1.setCell ⟨g,0,none⟩ (ak bU1)).setCell ⟨g,1,none⟩ (ah pU1 nU1 eU1)).setCell ⟨g,2,none⟩ (ak dU1)).setCell ⟨g,3,none⟩ (ah qU1 mU1 fU1)=y:=⟨_,rfl⟩
    have hx4:aA ws g #[ak bU1,ah pU1 nU1 eU1,ak dU1,ah qU1 mU1 fU1] 163:=by
     rw [← ES];exact (((X4.out.set 0 _).set 1 _).set 2 _).set 3 _
    have hx2:aA ws w.heap.size #[Z I 0,Z I 0] 40:=by
     rw [← ES];exact (((X2.out.setOther _ hne2).setOther _ hne2).setOther _ hne2).setOther _ hne2
    have hx5:aA ws (g+1) #[ak b2,ah p2 n2 e2,ak d2,ah q2' m2 f2] 163:=by
     rw [← ES];exact (((X5.out.setOther _ hne5).setOther _ hne5).setOther _ hne5).setOther _ hne5
    have hx7:aA ws g7 #[Z I (a:Int),Z I (c:Int)] 40:=by
     rw [← ES];exact (((X7.out.setOther _ Uk).setOther _ Uk).setOther _ Uk).setOther _ Uk
    have hbs:Below w.heap.size w ws:=by
     rw [← ES];exact (((HB.out.setCell hle _).setCell hle _).setCell hle _).setCell hle _
    have hv2:=Ra.xH V2.out X4.out zd (ak bU1) (ah pU1 nU1 eU1) (ak dU1) (ah qU1 mU1 fU1);have hu1:=Ra.xH U1.out X4.out zd (ak bU1) (ah pU1 nU1 eU1) (ak dU1) (ah qU1 mU1 fU1);rw [ES] at hv2 hu1 ⊢;replace X4:=zh hx4;replace X2:=zh hx2;replace X5:=zh hx5;replace X7:=zh hx7;replace HB:=zh hbs;replace V2:=zh hv2;replace U1:=zh hu1;clear ES hx4 hx2 hx5 hx7 hbs hv2 hu1 hne2 hne5 Uk hle c4 l4 f4 V1;obtain ⟨c5,l5⟩:=X5.cl;obtain ⟨c7,l7⟩:=X7.cl;refine aJ [(.read,0),(.pure,1),(.read,2),(.ext,3),(.ext,4),(.ext,5),(.fin,6)] zk zk zR zP ?_;refine Wk.out ?_;refine zS ?_;refine zS ?_;refine fM rfl rfl (fun Sj ha1 J hJ=>?_);have hs1:Below ws.heap.size ws Sj:=(by first|exact ha1|exact aF);have hx1:Below ws.heap.size ws Sj:=hs1;go_simp;refine (yI c (by have:=HAC.out;omega) Sj).mono ?_;rintro e YD ⟨v,rfl,hb1,hv⟩;refine hJ _ _ hb1 ?_
    have hy1:=Bt hx1 hb1;obtain ⟨bS2,pS2,nS2,eS2,dS2,qS2,mS2,fS2,rfl, -⟩:=id hv;have S2:=zh hv;clear hv;clear hJ J ha1 hb1 hs1 hx1;refine zS ?_;refine fM rfl rfl (fun Si ha2 J hJ=>?_);have hs2:Below YD.heap.size YD Si:=(by first|exact ha2|exact aF);have hx2:Below ws.heap.size ws Si:=Bt hy1 hs2;go_simp;refine (uO c 2 (by have:=HAC.out;omega) zo _ Si (S2.out.later hs2)).mono ?_;rintro e YC ⟨v,rfl,hb2,hv⟩;refine hJ _ _ hb2 ?_;have hy2:=Bt hx2 hb2;clear S2;obtain ⟨bT2,pT2,nT2,eT2,dT2,qT2,mT2,fT2,rfl, -⟩:=id hv;have T2:=zh hv;clear hv;clear hJ J ha2 hb2 hs2 hx2 hy1;refine zS ?_;refine fM rfl rfl (fun Sg RZ J hJ=>?_);have hs3:Below YC.heap.size YC Sg:=(by first|exact RZ|exact aF);have hx3:Below ws.heap.size ws Sg:=Bt hy2 hs3;go_simp
    refine (aH.qm _ _ _ _ Sg (V2.out.later hx3) (T2.out.later hs3) ((BF (GH HO.out H8.out).2).mono zo) ((jJ (uP (by have:=HAC.out;omega) zo)).mono zo)).mono ?_;rintro e wb3 ⟨v,rfl,hb3,hv⟩;refine hJ _ _ hb3 ?_;have hy3:=Bt hx3 hb3;clear T2;rw [← E9,← HT.out.2] at hv;obtain ⟨bU2,pU2,nU2,eU2,dU2,qU2,mU2,fU2,rfl, -⟩:=id hv;have U2:=zh hv;clear hv;clear hJ J RZ hb3 hs3 hx3 hy2;refine rE [_] rfl (fun wf2 hbf=>?_);have GX:=Bt hy3 hbf;replace X2:=X2.bl GX;replace X4:=X4.bl GX;replace X5:=X5.bl GX;replace X7:=X7.bl GX;replace HB:=zh (Bt HB.out GX);replace U1:=zh (U1.out.later GX);replace U2:=zh (U2.out.later hbf);clear GX hy3 hbf c7 l7;clear c5 l5;obtain ⟨c5,l5,f5⟩:=X5.clf;go_wp2_with fail
    have hne2:w.heap.size≠g+1:=by have:=HG.out;omega
    have Xl:g≠g+1:=by omega
    have hle:w.heap.size≤g+1:=by have:=HG.out;omega
    go_roundw
    case rel =>
     exact ⟨k+1,bU1,pU1,nU1,eU1,dU1,qU1,mU1,fU1,bU2,pU2,nU2,eU2,dU2,qU2,mU2,fU2,by omega,by go_num,Vx,zh (Ra.xH U1.out X5.out zd _ _ _ _),zh (Ra.xH U2.out X5.out zd _ _ _ _),
      zh ((((X4.out.setOther _ Xl).setOther _ Xl).setOther _ Xl).setOther _ Xl),zh ((((X5.out.set 0 _).set 1 _).set 2 _).set 3 _),zh ((((X2.out.setOther _ hne2).setOther _ hne2).setOther _ hne2).setOther _ hne2),zh ((((HB.out.setCell hle _).setCell hle _).setCell hle _).setCell hle _)⟩
    case measure=>exact zM
   ·have ha:=ag4 hbk;rw [ha] at HA;unfold d9 at HA;simp only at HA;have e:=HZ.out;rw [if_pos (HN.out hbk)] at e;obtain ⟨⟨rfl,rfl⟩,rfl⟩:(0=z1∧0=z2)∧30=z3:=by simpa using e
    clear hbk HN HY ha e HZ;go_wp2_with fail
    refine (HA.out _).mono ?_;rintro e w3 ⟨rfl,hb⟩;replace X2:=X2.bl hb;replace HB:=zh (Bt HB.out hb);obtain ⟨c2,l2,f2'⟩:=X2.clf;have x2:=X2.out;have hbb:=HB.out;clear hb HA hc1 hc2;go_wp2_with fail
    refine bH rfl rfl bf Tryz.underlying40 rfl zk ?_;exact ⟨rfl,aF⟩
  ·obtain rfl:k=bs.length:=by omega
   have hall:=TA HO.out;obtain ⟨s1,s2⟩:=GH HO.out H8.out;have el1:(bs.map vG).take bs.length=bs.map vG:=dG zi;have el2:(bs.map vN).take bs.length=bs.map vN:=dG zi;rw [el1] at V1 s1;rw [el2] at V2 s2;have SA:=zh (I4 s1);have SB:=zh (I4 s2);have HM:=zh (TP (bs.map vG) (bs.map vN));have e:=HZ.out;rw [if_neg (by rw [hall];simp),← HM.out] at e;have HE:=zh e;clear e hall s1 s2 el1 el2 HZ HM HO;obtain ⟨c4,l4⟩:=X4.cl;obtain ⟨c5,l5⟩:=X5.cl;go_wp2_with fail
   refine aJ [(.read,0),(.read,2),(.ext,1),(.ext,3),(.ext,4),(.pure,5),(.pure,6),(.fin,7),(.fin,8)] zk zk zR zP ?_;refine Wk.out ?_;refine zS ?_;refine zS ?_;refine fM rfl rfl (fun Sj ha1 J hJ=>?_);have hs1:Below wr.heap.size wr Sj:=(by first|exact ha1|exact aF);have hx1:Below wr.heap.size wr Sj:=hs1;go_simp;refine (OY _ _ 2 _ Sj (V1.out.later hs1) SA.out).mono ?_;rintro e YD ⟨rfl,hb1⟩;refine hJ _ _ hb1 ?_;have hy1:=Bt hx1 hb1
   skip
   clear hJ J ha1 hb1 hs1 hx1;refine zS ?_;refine fM rfl rfl (fun Si ha2 J hJ=>?_);have hs2:Below YD.heap.size YD Si:=(by first|exact ha2|exact aF);have hx2:Below wr.heap.size wr Si:=Bt hy1 hs2;go_simp;refine (am1 _ _ 2 _ Si (V2.out.later hx2) SB.out).mono ?_;rintro e YC ⟨rfl,hb2⟩;refine hJ _ _ hb2 ?_;have hy2:=Bt hx2 hb2
   skip
   clear hJ J ha2 hb2 hs2 hx2 hy1;generalize (min (nlo (bs.map vG)) 1000000000000000001)=ra at *;generalize Wh (tK (bs.map vN)) 2 (nlo (bs.map vN))=rb at *;have HMD:=zh (fun W=>jK (ra:Int) (rb:Int) W);rw [HE.out] at HMD;unfold d9 at HMD;simp only at HMD;refine zS ?_;refine fM rfl rfl (fun Sg RZ J hJ=>?_);have hs3:Below YC.heap.size YC Sg:=(by first|exact RZ|exact aF);have hx3:Below wr.heap.size wr Sg:=Bt hy2 hs3;go_simp;refine (HMD.out Sg).mono ?_;rintro e wb3 ⟨rfl,hb3⟩;refine hJ _ _ hb3 ?_;have hy3:=Bt hx3 hb3
   skip
   clear hJ J RZ hb3 hs3 hx3 hy2;refine zS ?_;refine rE [_,_] rfl (fun wf hbf=>?_);have GX:=Bt hy3 hbf;replace X2:=X2.bl GX;replace HB:=zh (Bt HB.out GX);clear GX hy3 hbf c4 l4 c5 l5;obtain ⟨c2,l2,f2'⟩:=X2.clf;have x2:=X2.out;have hbb:=HB.out;go_wp2_with fail
   refine bH rfl rfl bf Tryz.underlying40 rfl zk ?_;exact ⟨rfl,aF⟩
end Go.Proofs.fF
namespace Go.Proofs.fF
open Go Go.RowKit Go.SW Go.Num Go.Mem Go.Proofs Go.Dec Go.gD Go.Proofs.dH Go.Proofs.power
theorem uJ (a:Option Addr) (n cap:Nat) (k:Int) (h:n=0∧k=2∨8<n∧k=3) (w:World) :
  Calls Tryz.prog 163 #[ah a n cap] w (fun e w'=>e= aj (d9 ((0,0),k))∧Below w.heap.size w w'):=by
 unfold d9;obtain ⟨wx,EW,hz,X2⟩:=wR w #[Z I 0,Z I 0] 40;obtain ⟨c2,l2,f2⟩:=X2.clf;have x2:=X2.out
 rcases h with ⟨rfl,rfl⟩|⟨h,rfl⟩
 ·go_enter Tryz.func163,Tryz.ntmps163
  go_wp2_with fail
  refine bH rfl rfl bf Tryz.underlying40 rfl zk ?_;exact ⟨rfl,aF⟩
 ·have q1:¬ (n:Int)=0:=by omega
  have q2:(8:Int)<(n:Int):=by omega
  clear h;go_enter Tryz.func163,Tryz.ntmps163
  go_wp2_with fail
  refine bH rfl rfl bf Tryz.underlying40 rfl zk ?_;exact ⟨rfl,aF⟩
theorem Ig (v:Value) (T:TypeId) (bs:List (Int × Int)) (w:World) (hv:wY w T v bs) :
  Calls Tryz.prog 163 #[v] w (fun e w'=>e= aj (d9 (qQ bs))∧Below w.heap.size w w'):=by
 obtain ⟨a,cap,rfl,hc1,hc2,hread⟩:=hv.read
 by_cases h0:bs.length=0
 ·have e:qQ bs=((0,0),2):=by unfold qQ;rw [if_pos h0]
  rw [e];exact uJ a _ cap 2 (.inl ⟨h0,rfl⟩) w
 ·by_cases h8:8<bs.length
  ·have e:qQ bs=((0,0),3):=by unfold qQ;rw [if_neg h0,if_pos h8]
   rw [e];exact uJ a _ cap 3 (.inr ⟨h8,rfl⟩) w
  ·exact zG a cap bs zo zo hc1 hc2 w hread
end Go.Proofs.fF
namespace Go.Proofs.lab
open Go Go.RowKit Go.SW Go.Num Go.Mem Go.Proofs Go.gD Go.Fx
def sS (a b:Int × Int):Bool:=decide (a.1=b.1)&&decide (a.2=b.2)
theorem rT (a b c d:Int) (W:World):(Op.equalIn 10000 40 (au #[Z I a,Z I b]) (au #[Z I c,Z I d])).run Tryz.prog W= .ok (sS (a,b) (c,d)) W:=by
 unfold sS
 by_cases h1:a=c
 ·by_cases h2:b=d
  ·subst h1;subst h2;go_simp
  ·subst h1;go_simp
 ·go_simp
def xM (b1 b2:Int × Int):((Int × Int) × (Int × Int) × (Int × Int)) × Int :=
 cK z3 (dH.VI (0*1000000000000)) fun zero=>cond (sS b1 zero&&sS b2 zero) (cK z3 (dH.VI (1*1000000000000)) fun one=>nZ (zero,one,zero))
  (cK z3 (power.qQ [b1,b2]) fun c=>if c.1=0 then (z3,7) else cK z3 (vJ b1 c) fun p=>cK z3 (vJ b2 c) fun q=>nZ (c,p,q))
theorem Ji {l1 l2 l3 l4 l5 l6 x1 x2 x3 x4 x5 x6 k:Int} {p:Nat} (hx:gB (xM (l3,l4) (l5,l6)) ((x1,x2),(x3,x4),(x5,x6)) k) (w:World)
  (hp:aA w p #[Z I l1,Z I l2,Z I l3,Z I l4,Z I l5,Z I l6] 42) (ht:jH.Pow w) (he:whole.Er w) :
  Calls Tryz.prog 70 #[aB (some ⟨p,0,none⟩)] w (Try w (au #[Z I x1,Z I x2,Z I x3,Z I x4,Z I x5,Z I x6]) k):=by
 unfold xM at hx;refine Fx.door Tryz.func70 rfl (.ro hp (.nil w [])) ?_;have HR:=hx;refine Fx.aY [] 1 118 [] [] fun gM=>?_;obtain ⟨⟨x2,y2⟩,_,EX,HN⟩:=aP HR;refine Fx.dB jr [] 5 [] [] (fun W M=>Gv (gB.of EX) _) HN fun _ HR=>?_;refine Fx.aY [] 2 40 [] [] fun gH=>?_;obtain ⟨f4,e4⟩:∃ f,sS (l3,l4) (x2,y2)=f:=⟨_,rfl⟩;have q4:=fun W=>rT l3 l4 x2 y2 W;rw [e4] at HR;simp only [e4] at q4;cases f4
 ·skip
  replace HR:=gB.cond_false HR;refine Fx.eql 9 [5,3,5] 9 true false 40 (au #[Z I l3,Z I l4]) (au #[Z I x2,Z I y2]) [] [(2,#[Z I x2,Z I y2])] q4 ?_;refine Fx.newS [0,0,2,3,3] 25 2 2 #[Z I l3,Z I l4,Z I l5,Z I l6] 40 [] [] fun Iy=>?_;obtain ⟨⟨x6,y6⟩,k6,EX,HN⟩:=aP HR;refine Fx.call [] 26 [] [] (fun W M=>U9 EX _ (M.box (b:=Iy) (cs:=#[Z I l3,Z I l4,Z I l5,Z I l6]) 3) (ht.later M.below) (he.later M.below)) ?_;refine Fx.dB jr [] 29 [] [] (fun W M=>mR (x:=x6) (y:=y6) _) HN fun _ HR=>?_;refine Fx.aY [] 3 40 [] [] fun VT=>?_;refine Fx.part 9 [7,7] [(32,ak (x6 == 0))] [(4,#[Z I x6,Z I y6])] ?_;refine Fx.splitB (fun hf1=>?_) (fun hf1=>?_)
  ·skip
   replace HR:=gB.pos HR (by simpa using hf1);refine Fx.panics (v:=.iface 43 (Z I 7)) 5 [1] [] (fun W M=>?_);have HB:=M.below;obtain ⟨hk, -⟩:=HR;cases hk;exact ⟨HB,.inr ⟨by decide,rfl⟩⟩
  ·skip
   replace HR:=gB.neg HR (by simpa using hf1);refine Fx.draw [2] [0,1,2,3,5,6,7,4,8,9,10,11] [] [(4,.func (.func 72) #[] #[aB (some ⟨VT,0,none⟩)])] [] ?_;obtain ⟨⟨x9,y9⟩,_,EX,HN⟩:=aP HR;refine Fx.dB jr [7,3,3] 39 [(35,au #[Z I x6,Z I y6]),(40,.func (.func 72) #[] #[aB (some ⟨VT,0,none⟩)]),(42,au #[Z I l5,Z I l6])] [] (fun W M=>Gy (gB.of EX) _ (M.box (b:=VT) (cs:=#[Z I x6,Z I y6]) 4)) HN fun _ HR=>?_;obtain ⟨⟨x10,Zi⟩,_,EX,HN⟩:=aP HR;refine Fx.dB jr [] 43 [] [] (fun W M=>Gy (gB.of EX) _ (M.box (b:=VT) (cs:=#[Z I x6,Z I y6]) 4)) HN fun _ HR=>?_;obtain ⟨hk,hv⟩:=HR;cases hk
   exact Fx.iC (cs:=#[Z I x6,Z I y6,Z I x9,Z I y9,Z I x10,Z I Zi]) 1 gM [4] [(1,#[Z I x6,Z I y6,Z I x9,Z I y9,Z I x10,Z I Zi])] (fun W M=>⟨M.below,.inl ⟨rfl,by cases hv rfl;rfl⟩⟩)
 ·skip
  refine Fx.eql 9 [5,3,5] 9 true true 40 (au #[Z I l3,Z I l4]) (au #[Z I x2,Z I y2]) [] [(2,#[Z I x2,Z I y2])] q4 ?_;obtain ⟨f11,e11⟩:∃ f,sS (l5,l6) (x2,y2)=f:=⟨_,rfl⟩;have q11:=fun W=>rT l5 l6 x2 y2 W;rw [e11] at HR;simp only [e11] at q11;cases f11
  ·skip
   replace HR:=gB.cond_false HR;refine Fx.eql 4 [3,5] 14 true false 40 (au #[Z I l5,Z I l6]) (au #[Z I x2,Z I y2]) [(10,ak true)] [] q11 ?_;refine Fx.newS [2,3,3] 25 2 2 #[Z I l3,Z I l4,Z I l5,Z I l6] 40 [] [] fun Vd=>?_;obtain ⟨⟨YA,y13⟩,k13,EX,HN⟩:=aP HR;refine Fx.call [] 26 [] [] (fun W M=>U9 EX _ (M.box (b:=Vd) (cs:=#[Z I l3,Z I l4,Z I l5,Z I l6]) 3) (ht.later M.below) (he.later M.below)) ?_;refine Fx.dB jr [] 29 [] [] (fun W M=>mR (x:=YA) (y:=y13) _) HN fun _ HR=>?_;refine Fx.aY [] 3 40 [] [] fun Q6=>?_;refine Fx.part 9 [7,7] [(32,ak (YA == 0))] [(4,#[Z I YA,Z I y13])] ?_;refine Fx.splitB (fun hf1=>?_) (fun hf1=>?_)
   ·skip
    replace HR:=gB.pos HR (by simpa using hf1);refine Fx.panics (v:=.iface 43 (Z I 7)) 5 [1] [] (fun W M=>?_);have HB:=M.below;obtain ⟨hk, -⟩:=HR;cases hk;exact ⟨HB,.inr ⟨by decide,rfl⟩⟩
   ·skip
    replace HR:=gB.neg HR (by simpa using hf1);refine Fx.draw [2] [0,1,2,3,5,6,7,4,8,9,10,11] [] [(4,.func (.func 72) #[] #[aB (some ⟨Q6,0,none⟩)])] [] ?_;obtain ⟨⟨x16,y16⟩,_,EX,HN⟩:=aP HR;refine Fx.dB jr [7,3,3] 39 [(35,au #[Z I YA,Z I y13]),(40,.func (.func 72) #[] #[aB (some ⟨Q6,0,none⟩)]),(42,au #[Z I l5,Z I l6])] [] (fun W M=>Gy (gB.of EX) _ (M.box (b:=Q6) (cs:=#[Z I YA,Z I y13]) 4)) HN fun _ HR=>?_;obtain ⟨⟨x17,y17⟩,_,EX,HN⟩:=aP HR;refine Fx.dB jr [] 43 [] [] (fun W M=>Gy (gB.of EX) _ (M.box (b:=Q6) (cs:=#[Z I YA,Z I y13]) 4)) HN fun _ HR=>?_;obtain ⟨hk,hv⟩:=HR;cases hk
    exact Fx.iC (cs:=#[Z I YA,Z I y13,Z I x16,Z I y16,Z I x17,Z I y17]) 1 gM [4] [(1,#[Z I YA,Z I y13,Z I x16,Z I y16,Z I x17,Z I y17])] (fun W M=>⟨M.below,.inl ⟨rfl,by cases hv rfl;rfl⟩⟩)
  ·skip
   replace HR:=gB.cond_true HR;refine Fx.eql 4 [3,5] 14 true true 40 (au #[Z I l5,Z I l6]) (au #[Z I x2,Z I y2]) [(10,ak true)] [] q11 ?_;refine Fx.draw [1] [0,2,1,3,4,5] [] [] [] ?_;obtain ⟨⟨x18,y18⟩,_,EX,HN⟩:=aP HR;refine Fx.dB jr [5,5] 17 [(16,au #[Z I x2,Z I y2]),(18,au #[Z I x2,Z I y2])] [] (fun W M=>Gv (gB.of EX) _) HN fun _ HR=>?_;obtain ⟨hk,hv⟩:=HR;cases hk
   exact Fx.iC (cs:=#[Z I x2,Z I y2,Z I x18,Z I y18,Z I x2,Z I y2]) 1 gM [4] [(1,#[Z I x2,Z I y2,Z I x18,Z I y18,Z I x2,Z I y2])] (fun W M=>⟨M.below,.inl ⟨rfl,by cases hv rfl;rfl⟩⟩)
def DT (l:(Int × Int) × (Int × Int) × (Int × Int)):((Int × Int) × (Int × Int) × (Int × Int)) × Int:=if qg l≠0 then (z3,qg l) else xM l.2.1 l.2.2
def aF3 (w:World) (x1 x2 x3 x4 x5 x6 k:Int) (e:Ending) (w':World):Prop:=Below w.heap.size w w'∧((k=0∧e= aj (aG #[au #[Z I x1,Z I x2],au #[Z I x3,Z I x4,Z I x5,Z I x6],Z I 0]))∨(k≠0∧e= aj (aG #[au #[Z I 0,Z I 0],au #[Z I 0,Z I 0,Z I 0,Z I 0],Z I k])))
theorem Ye {a1 a2 a3 a4 a5 a6 x1 x2 x3 x4 x5 x6 k:Int} (hx:gB (DT ((a1,a2),(a3,a4),(a5,a6))) ((x1,x2),(x3,x4),(x5,x6)) k) (w:World) (ht:jH.Pow w) (he:whole.Er w) :
  Calls Tryz.prog 22 #[au #[Z I a1,Z I a2,Z I a3,Z I a4,Z I a5,Z I a6]] w (aF3 w x1 x2 x3 x4 x5 x6 k):=by
 have K1:∀ W,Calls Tryz.prog 68 #[au #[Z I a1,Z I a2,Z I a3,Z I a4,Z I a5,Z I a6]] W (fun e w'=>e= aj (Z I (qg ((a1,a2),(a3,a4),(a5,a6))))∧Below W.heap.size W w'):=fun W=>Dj a1 a2 a3 a4 a5 a6 W;have e0:DT ((a1,a2),(a3,a4),(a5,a6))=if qg ((a1,a2),(a3,a4),(a5,a6))≠0 then (z3,qg ((a1,a2),(a3,a4),(a5,a6))) else xM (a3,a4) (a5,a6):=rfl
 rw [e0] at hx;generalize qg ((a1,a2),(a3,a4),(a5,a6))=c at *;clear e0
 by_cases h0:c=0
 rotate_left
 ·have hk:c=k:=(gB.pos hx h0).1;subst hk;refine Fx.door Tryz.func22 rfl (.nil w []) ?_;refine Fx.new [] 1 #[Z I a1,Z I a2,Z I a3,Z I a4,Z I a5,Z I a6] 42 [] [] fun gM=>?_;refine Fx.aY [] 2 40 [] [] fun gI=>?_;refine Fx.aY [] 3 70 [] [] fun gH=>?_;refine Fx.dD [3] 8 [] [] K1 ?_;refine Fx.part 7 [] [(10,ak (!(c == 0))),(5,Z I c)] [] ?_;refine Fx.o7 true (by simp [h0]) ?_;exact Fx.wB 1 gI 2 gH [1,4,5] [(1,#[Z I 0,Z I 0]),(2,#[Z I 0,Z I 0,Z I 0,Z I 0])] (fun W M=>by have HB:=M.below;exact ⟨HB,.inr ⟨h0,rfl⟩⟩)
 subst h0;replace hx:=gB.neg hx zi
 by_cases h2:k=0
 ·skip
  refine Fx.door Tryz.func22 rfl (.nil w []) ?_;refine Fx.new [] 1 #[Z I a1,Z I a2,Z I a3,Z I a4,Z I a5,Z I a6] 42 [] [] fun gM=>?_;refine Fx.aY [] 2 40 [] [] fun gI=>?_;refine Fx.aY [] 3 70 [] [] fun gH=>?_;refine Fx.dD [3] 8 [] [] K1 ?_;refine Fx.call [2] 16 [] [] (fun W M=>Xu (CO (k:=k) W (fun V hV=>Ji (l1:=a1) (l2:=a2) hx V ((M.box (b:=gM) 0).later hV) (ht.later (Bt M.below hV)) (he.later (Bt M.below hV))) (fun args W=>by kernel_rfl)) h2) ?_;refine Fx.aY [] 6 118 [(17,au #[Z I x1,Z I x2,Z I x3,Z I x4,Z I x5,Z I x6]),(18,Z I 0)] [] fun oP=>?_;refine Fx.draw [6] [0,1,2,3,4,3005,6,5007] [1] [(4,Z I 0)] [(3,#[Z I x1,Z I x2,Z I x3,Z I x4,Z I x5,Z I x6])] ?_
  exact Fx.wB 1 gI 2 gH [6,6,4,5] [(1,#[Z I x1,Z I x2]),(2,#[Z I x3,Z I x4,Z I x5,Z I x6])] (fun W M=>by have HB:=M.below;exact ⟨HB,.inl ⟨h2,rfl⟩⟩)
 ·skip
  refine Fx.door Tryz.func22 rfl (.nil w []) ?_;refine Fx.new [] 1 #[Z I a1,Z I a2,Z I a3,Z I a4,Z I a5,Z I a6] 42 [] [] fun gM=>?_;refine Fx.aY [] 2 40 [] [] fun gI=>?_;refine Fx.aY [] 3 70 [] [] fun gH=>?_;refine Fx.dD [3] 8 [] [] K1 ?_;refine Fx.call [2] 16 [] [] (fun W M=>ac6 (CO (k:=k) W (fun V hV=>Ji (l1:=a1) (l2:=a2) hx V ((M.box (b:=gM) 0).later hV) (ht.later (Bt M.below hV)) (he.later (Bt M.below hV))) (fun args W=>by kernel_rfl)) h2) ?_;refine Fx.aY [] 6 118 [(17,au #[Z I 0,Z I 0,Z I 0,Z I 0,Z I 0,Z I 0]),(18,Z I k)] [] fun oP=>?_;refine Fx.draw [6] [0,1,2,3,4,3005,6,5007] [1] [(4,Z I k)] [(3,#[Z I 0,Z I 0,Z I 0,Z I 0,Z I 0,Z I 0])] ?_
  exact Fx.wB 1 gI 2 gH [6,6,4,5] [(1,#[Z I 0,Z I 0]),(2,#[Z I 0,Z I 0,Z I 0,Z I 0])] (fun W M=>by have HB:=M.below;exact ⟨HB,.inr ⟨h2,rfl⟩⟩)
end Go.Proofs.lab
namespace Go.Proofs.verdigrislaw24
open Go Go.RowKit Go.SW Go.Num Go.Mem Go.Proofs Go.Dec Go.gD Go.Proofs.lab Go.Proofs.jB
theorem vT {x y z d:Int} {s1 s2 s3 s4 s5 s6:ByteArray} (e:tq x y z d=⟨⟨s1,s2⟩,⟨s3,s4⟩,⟨s5,s6⟩⟩) (h:(sm x d&&sm y d&&sm z d)=true) (W:World) (ht:jH.Pow W) :
  Calls Tryz.prog 38 #[Z I x,Z I y,Z I z,Z I d] W (fun e w'=>e= aj (au #[O s1,O s2,O s3,O s4,O s5,O s6])∧Below W.heap.size W w'):=by
 simp only [aK] at h;have:=Zr x y z d h.1.1 h.1.2 h.2 W ht;rw [e] at this;exact this
theorem pQ {x y z d p q r:Int} (hx:(-1000≤x∧x≤1000)∧(-1000≤y∧y≤1000)∧(-1000≤z∧z≤1000)∧(1≤d∧d≤1000)) (hp:LB x d=p) (hq:LB y d=q) (hr:LB z d=r) (W:World) :
  Calls Tryz.prog 16 #[Z I x,Z I y,Z I z,Z I d] W (fun e w'=>e= aj (au #[Z I p,Z I p,Z I q,Z I q,Z I r,Z I r])∧Below W.heap.size W w'):=by
 subst hp hq hr;exact Dj x y z d hx.1 hx.2.1 hx.2.2.1 hx.2.2.2 W
theorem G8 {w w':World} {v z:Value} {k:Int} {e:Ending} (h:Du w v z k e w') (hz:k≠0→v=z):e= aj (aG #[v,Z I k])∧Below w.heap.size w w':=by
 obtain ⟨hb,⟨rfl,rfl⟩|⟨hk,rfl⟩⟩:=h
 ·exact ⟨rfl,hb⟩
 ·rw [hz hk];exact ⟨rfl,hb⟩
theorem IK {t w:light.iJ} {v:((Int × Int) × (Int × Int) × (Int × Int))} {k:Int} (h:Lc t w=(v,k)) (W:World) (ht:jH.Pow W) (he:whole.Er W) (hz:k≠0→v=z3:=by decide) :
  Calls Tryz.prog 14 #[.agg #[.string t.x.n,.string t.x.d,.string t.y.n,.string t.y.d,.string t.z.n,.string t.z.d],.agg #[.string w.x.n,.string w.x.d,.string w.y.n,.string w.y.d,.string w.z.n,.string w.z.d]] W (fun e w'=>e= .returned (.tuple #[.agg #[.int .i64 v.1.1,.int .i64 v.1.2,.int .i64 v.2.1.1,.int .i64 v.2.1.2,.int .i64 v.2.2.1,.int .i64 v.2.2.2],.int .i64 k])∧Below W.heap.size W w') :=
 (Yc (gB.of h) W ht he).mono fun _ _ g=>G8 g fun hk=>by rw [hz hk];rfl
theorem CS {t w:light.iJ} {v:light.iJ} {k:Int} (h:CU t w=(v,k)) (W:World) (ht:jH.Pow W) (he:whole.Er W) (hz:k≠0→v=t0:=by decide) :
  Calls Tryz.prog 32 #[.agg #[.string t.x.n,.string t.x.d,.string t.y.n,.string t.y.d,.string t.z.n,.string t.z.d],.agg #[.string w.x.n,.string w.x.d,.string w.y.n,.string w.y.d,.string w.z.n,.string w.z.d]] W (fun e w'=>e= .returned (.tuple #[.agg #[.string v.x.n,.string v.x.d,.string v.y.n,.string v.y.d,.string v.z.n,.string v.z.d],.int .i64 k])∧Below W.heap.size W w') :=
 (RG (gB.of h) W ht he).mono fun _ _ g=>G8 g fun hk=>by rw [hz hk];rfl
theorem encode_at {t v:light.iJ} {k:Int} (h:He t=(v,k)) (W:World) (ht:jH.Pow W) (hz:k≠0→v=t0:=by decide) :
  Calls Tryz.prog 25 #[.agg #[.string t.x.n,.string t.x.d,.string t.y.n,.string t.y.d,.string t.z.n,.string t.z.d]] W (fun e w'=>e= .returned (.tuple #[.agg #[.string v.x.n,.string v.x.d,.string v.y.n,.string v.y.d,.string v.z.n,.string v.z.d],.int .i64 k])∧Below W.heap.size W w') :=
 (VA (gB.of h) W ht).mono fun _ _ g=>G8 g fun hk=>by rw [hz hk];rfl
theorem decode_at {t v:light.iJ} {k:Int} (h:Hf t=(v,k)) (W:World) (ht:jH.Pow W) (hz:k≠0→v=t0:=by decide) :
  Calls Tryz.prog 27 #[.agg #[.string t.x.n,.string t.x.d,.string t.y.n,.string t.y.d,.string t.z.n,.string t.z.d]] W (fun e w'=>e= .returned (.tuple #[.agg #[.string v.x.n,.string v.x.d,.string v.y.n,.string v.y.d,.string v.z.n,.string v.z.d],.int .i64 k])∧Below W.heap.size W w') :=
 (VF (gB.of h) W ht).mono fun _ _ g=>G8 g fun hk=>by rw [hz hk];rfl
theorem tT {t v:(Int × Int) × (Int × Int) × (Int × Int)} {k:Int} (h:DT t=(v,k)) (W:World) (ht:jH.Pow W) (he:whole.Er W) (hz:k≠0→v=z3:=by decide) :
  Calls Tryz.prog 22 #[.agg #[.int .i64 t.1.1,.int .i64 t.1.2,.int .i64 t.2.1.1,.int .i64 t.2.1.2,.int .i64 t.2.2.1,.int .i64 t.2.2.2]] W (fun e w'=>e= .returned (.tuple #[.agg #[.int .i64 v.1.1,.int .i64 v.1.2],.agg #[.int .i64 v.2.1.1,.int .i64 v.2.1.2,.int .i64 v.2.2.1,.int .i64 v.2.2.2],.int .i64 k])∧Below W.heap.size W w') :=
 (Ye (gB.of h) W ht he).mono fun _ _ g=>by
  obtain ⟨hb,⟨rfl,rfl⟩|⟨hk,rfl⟩⟩:=g
  ·exact ⟨rfl,hb⟩
  ·rw [hz hk];exact ⟨rfl,hb⟩
end Go.Proofs.verdigrislaw24
