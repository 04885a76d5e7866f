/- Lemmas for the proof. No condition. -/
import Derived.Test.YtneajphgfdlmhaaGreatDoorUB42
set_option linter.unusedVariables false
set_option linter.unusedSimpArgs false
set_option maxRecDepth 100000
set_option maxHeartbeats 16000000
open Go.Ending renaming returned → ah
open Go.IntKind renaming i64 → I
open Go.Value renaming agg → au, bool → ak, int → Z, pointer → aA, string → O, tuple → aD
namespace Go.Proofs.lab
open Go Go.RowKit Go.SW Go.Num Go.Mem Go.Proofs Go.gB Go.Fx
theorem Zk {P:Program} {f:FuncId} {args:Array Value} {w:World} {v z:Value} {k:Int} (C:Calls P f args w (EU w v z k)) (h:k=0):Calls P f args w (fun e w'=>e= ah (aD #[v,Z I 0])∧Below w.heap.size w w'):=C.mono fun _ _ ⟨hb,hh⟩=>by
 rcases hh with ⟨-, rfl⟩|⟨hk, -⟩
 ·exact ⟨rfl,hb⟩
 ·exact absurd h hk
theorem ak9 {P:Program} {f:FuncId} {args:Array Value} {w:World} {v z:Value} {k:Int} (C:Calls P f args w (EU w v z k)) (h:k≠0):Calls P f args w (fun e w'=>e= ah (aD #[z,Z I k])∧Below w.heap.size w w'):=C.mono fun _ _ ⟨hb,hh⟩=>by
 rcases hh with ⟨hk, -⟩|⟨-, rfl⟩
 ·exact absurd hk h
 ·exact ⟨rfl,hb⟩
theorem BM {P:Program} {f:FuncId} {args:Array Value} {w:World} {u v z:Value} {k:Int} (C:Calls P f args w (EU w v z k)) (h:(k=0∧u=v)∨(k≠0∧u=z)):Calls P f args w (fun e w'=>e= ah (aD #[u,Z I k])∧Below w.heap.size w w'):=C.mono fun _ _ ⟨hb,hh⟩=>by
 rcases h with ⟨h1,rfl⟩|⟨h1,rfl⟩<;>rcases hh with ⟨h2,rfl⟩|⟨h2,rfl⟩
 ·exact ⟨by rw [h1],hb⟩
 ·exact absurd h1 h2
 ·exact absurd h2 h1
 ·exact ⟨rfl,hb⟩
theorem nD {α:Type} {c k:Int} {z v:α} {r:α × Int} (hx:gq (if c≠0 then (z,c) else r) v k) (H:(!(c == 0))=true):c=k∧k≠0:=by
 have h:c≠0:=by simpa using H
 have e:c=k:=(gq.pos hx h).1;exact ⟨e,e ▸ h⟩
theorem wK {α:Type} {c k:Int} {z v:α} {r:α × Int} (hx:gq (if c≠0 then (z,c) else r) v k) (H:(!(c == 0))=false):gq r v k:=gq.neg hx (by simpa using H)
def rC (t:light.iC):Int:=if A8 t.x≠0 then A8 t.x else if A8 t.y≠0 then A8 t.y else A8 t.z
def kP (b:Int × Int):Int:=if aW.gM b.1 b.2 then 0 else 30
def nE (l:(Int × Int) × (Int × Int) × (Int × Int)):Int:=if kP l.1≠0 then kP l.1 else if kP l.2.1≠0 then kP l.2.1 else kP l.2.2
theorem pV (s1 s2 s3 s4 s5 s6:ByteArray) (w:World):Calls Tryz.prog 79 #[au #[O s1,O s2,O s3,O s4,O s5,O s6]] w (fun e w'=>e= ah (Z I (rC ⟨⟨s1,s2⟩,⟨s3,s4⟩,⟨s5,s6⟩⟩))∧Below w.heap.size w w'):=by
 have K0:∀ W,Calls Tryz.prog 166 #[au #[O s1,O s2]] W (fun e w'=>e= ah (Z I (A8 ⟨s1,s2⟩))∧Below W.heap.size W w'):=fun W=>fC.mO ⟨s1,s2⟩ W;have K1:∀ W,Calls Tryz.prog 166 #[au #[O s3,O s4]] W (fun e w'=>e= ah (Z I (A8 ⟨s3,s4⟩))∧Below W.heap.size W w'):=fun W=>fC.mO ⟨s3,s4⟩ W;have K2:∀ W,Calls Tryz.prog 166 #[au #[O s5,O s6]] W (fun e w'=>e= ah (Z I (A8 ⟨s5,s6⟩))∧Below W.heap.size W w'):=fun W=>fC.mO ⟨s5,s6⟩ W;have e:rC ⟨⟨s1,s2⟩,⟨s3,s4⟩,⟨s5,s6⟩⟩=if A8 ⟨s1,s2⟩≠0 then A8 ⟨s1,s2⟩ else if A8 ⟨s3,s4⟩≠0 then A8 ⟨s3,s4⟩ else A8 ⟨s5,s6⟩:=rfl
 rw [e];generalize A8 ⟨s1,s2⟩=k0 at *;generalize A8 ⟨s3,s4⟩=k1 at *;generalize A8 ⟨s5,s6⟩=k2 at *;clear e;refine Fx.door Tryz.func79 rfl (.nil w []) ?_;refine Fx.new [] 1 #[O s1,O s2,O s3,O s4,O s5,O s6] 34 [] [] fun fT=>?_;refine Fx.aV [3,1] 4 32 [(6,au #[O s1,O s2,O s3,O s4,O s5,O s6]),(7,Z I 0),(9,au #[O s1,O s2])] [] fun fJ=>?_;refine Fx.bJ [4,4] 11 [] [(1,#[O s1,O s2])] K0 ?_;refine Fx.part 7 [] [(13,ak (!(k0 == 0))),(5,Z I k0)] [] ?_;refine Fx.splitB (fun H1=>?_) (fun H1=>?_)
 ·skip
  exact Fx.rV (v:=Z I k0) [1] [] (fun W M=>by have HB:=M.below;exact ⟨by simp_all,HB⟩)
 ·skip
  refine Fx.aV [2,1] 4 32 [(7,Z I 1),(9,au #[O s3,O s4])] [] fun fF=>?_;refine Fx.bJ [5,5] 11 [] [(2,#[O s3,O s4])] K1 ?_;refine Fx.part 7 [] [(13,ak (!(k1 == 0))),(5,Z I k1)] [] ?_;refine Fx.splitB (fun H2=>?_) (fun H2=>?_)
  ·skip
   exact Fx.rV (v:=Z I k1) [1] [] (fun W M=>by have HB:=M.below;exact ⟨by simp_all,HB⟩)
  ·skip
   refine Fx.aV [2,1] 4 32 [(7,Z I 2),(9,au #[O s5,O s6])] [] fun uF=>?_;refine Fx.bJ [6,6] 11 [] [(3,#[O s5,O s6])] K2 ?_;refine Fx.part 7 [] [(13,ak (!(k2 == 0))),(5,Z I k2)] [] ?_;refine Fx.splitB (fun H3=>?_) (fun H3=>?_)
   ·skip
    exact Fx.rV (v:=Z I k2) [1] [] (fun W M=>by have HB:=M.below;exact ⟨by simp_all,HB⟩)
   ·skip
    exact Fx.rV (v:=Z I 0) [2,2] [] (fun W M=>by have HB:=M.below;exact ⟨by simp_all,HB⟩)
theorem zl (s1 s2 s3 s4 s5 s6:Int) (w:World):Calls Tryz.prog 68 #[au #[Z I s1,Z I s2,Z I s3,Z I s4,Z I s5,Z I s6]] w (fun e w'=>e= ah (Z I (nE ((s1,s2),(s3,s4),(s5,s6))))∧Below w.heap.size w w'):=by
 have K0:∀ W,Calls Tryz.prog 151 #[au #[Z I s1,Z I s2]] W (fun e w'=>e= ah (Z I (kP (s1,s2)))∧Below W.heap.size W w'):=fun W=>by unfold kP;exact aW.iT s1 s2 W
 have K1:∀ W,Calls Tryz.prog 151 #[au #[Z I s3,Z I s4]] W (fun e w'=>e= ah (Z I (kP (s3,s4)))∧Below W.heap.size W w'):=fun W=>by unfold kP;exact aW.iT s3 s4 W
 have K2:∀ W,Calls Tryz.prog 151 #[au #[Z I s5,Z I s6]] W (fun e w'=>e= ah (Z I (kP (s5,s6)))∧Below W.heap.size W w'):=fun W=>by unfold kP;exact aW.iT s5 s6 W
 have e:nE ((s1,s2),(s3,s4),(s5,s6))=if kP (s1,s2)≠0 then kP (s1,s2) else if kP (s3,s4)≠0 then kP (s3,s4) else kP (s5,s6):=rfl
 rw [e];generalize kP (s1,s2)=k0 at *;generalize kP (s3,s4)=k1 at *;generalize kP (s5,s6)=k2 at *;clear e;refine Fx.door Tryz.func68 rfl (.nil w []) ?_;refine Fx.new [] 1 #[Z I s1,Z I s2,Z I s3,Z I s4,Z I s5,Z I s6] 42 [] [] fun fT=>?_;refine Fx.aV [3,1] 4 40 [(6,au #[Z I s1,Z I s2,Z I s3,Z I s4,Z I s5,Z I s6]),(7,Z I 0),(9,au #[Z I s1,Z I s2])] [] fun fJ=>?_;refine Fx.bJ [4,4] 11 [] [(1,#[Z I s1,Z I s2])] K0 ?_;refine Fx.part 7 [] [(13,ak (!(k0 == 0))),(5,Z I k0)] [] ?_;refine Fx.splitB (fun H1=>?_) (fun H1=>?_)
 ·skip
  exact Fx.rV (v:=Z I k0) [1] [] (fun W M=>by have HB:=M.below;exact ⟨by simp_all,HB⟩)
 ·skip
  refine Fx.aV [2,1] 4 40 [(7,Z I 1),(9,au #[Z I s3,Z I s4])] [] fun fF=>?_;refine Fx.bJ [5,5] 11 [] [(2,#[Z I s3,Z I s4])] K1 ?_;refine Fx.part 7 [] [(13,ak (!(k1 == 0))),(5,Z I k1)] [] ?_;refine Fx.splitB (fun H2=>?_) (fun H2=>?_)
  ·skip
   exact Fx.rV (v:=Z I k1) [1] [] (fun W M=>by have HB:=M.below;exact ⟨by simp_all,HB⟩)
  ·skip
   refine Fx.aV [2,1] 4 40 [(7,Z I 2),(9,au #[Z I s5,Z I s6])] [] fun uF=>?_;refine Fx.bJ [6,6] 11 [] [(3,#[Z I s5,Z I s6])] K2 ?_;refine Fx.part 7 [] [(13,ak (!(k2 == 0))),(5,Z I k2)] [] ?_;refine Fx.splitB (fun H3=>?_) (fun H3=>?_)
   ·skip
    exact Fx.rV (v:=Z I k2) [1] [] (fun W M=>by have HB:=M.below;exact ⟨by simp_all,HB⟩)
   ·skip
    exact Fx.rV (v:=Z I 0) [2,2] [] (fun W M=>by have HB:=M.below;exact ⟨by simp_all,HB⟩)
def LY (t:light.iC) (w:light.iC):((Int × Int) × (Int × Int) × (Int × Int)) × Int:=if light.pW t≠0 then (z3,light.pW t) else if light.mF w≠0 then (z3,light.mF w) else PD t w
theorem ZT {a1 a2 a3 a4 a5 a6:ByteArray} {b1 b2 b3 b4 b5 b6:ByteArray} {x1 x2 x3 x4 x5 x6:Int} {k:Int} (hx:gq (LY ⟨⟨a1,a2⟩,⟨a3,a4⟩,⟨a5,a6⟩⟩ ⟨⟨b1,b2⟩,⟨b3,b4⟩,⟨b5,b6⟩⟩) ((x1,x2),(x3,x4),(x5,x6)) k) (w:World) (ht:jN.Pow w) (he:whole.Er w) :
  Calls Tryz.prog 14 #[au #[O a1,O a2,O a3,O a4,O a5,O a6],au #[O b1,O b2,O b3,O b4,O b5,O b6]] w (EU w (au #[Z I x1,Z I x2,Z I x3,Z I x4,Z I x5,Z I x6]) (au #[Z I 0,Z I 0,Z I 0,Z I 0,Z I 0,Z I 0]) k):=by
 have K1:∀ W,Calls Tryz.prog 42 #[au #[O a1,O a2,O a3,O a4,O a5,O a6]] W (fun e w'=>e= ah (Z I (light.pW ⟨⟨a1,a2⟩,⟨a3,a4⟩,⟨a5,a6⟩⟩))∧Below W.heap.size W w'):=fun W=>light.iT ⟨⟨a1,a2⟩,⟨a3,a4⟩,⟨a5,a6⟩⟩ W;have K2:∀ W,Calls Tryz.prog 43 #[au #[O b1,O b2,O b3,O b4,O b5,O b6]] W (fun e w'=>e= ah (Z I (light.mF ⟨⟨b1,b2⟩,⟨b3,b4⟩,⟨b5,b6⟩⟩))∧Below W.heap.size W w'):=fun W=>light.oU ⟨⟨b1,b2⟩,⟨b3,b4⟩,⟨b5,b6⟩⟩ W;have e0:LY ⟨⟨a1,a2⟩,⟨a3,a4⟩,⟨a5,a6⟩⟩ ⟨⟨b1,b2⟩,⟨b3,b4⟩,⟨b5,b6⟩⟩=if light.pW ⟨⟨a1,a2⟩,⟨a3,a4⟩,⟨a5,a6⟩⟩≠0 then (z3,light.pW ⟨⟨a1,a2⟩,⟨a3,a4⟩,⟨a5,a6⟩⟩) else if light.mF ⟨⟨b1,b2⟩,⟨b3,b4⟩,⟨b5,b6⟩⟩≠0 then (z3,light.mF ⟨⟨b1,b2⟩,⟨b3,b4⟩,⟨b5,b6⟩⟩) else PD ⟨⟨a1,a2⟩,⟨a3,a4⟩,⟨a5,a6⟩⟩ ⟨⟨b1,b2⟩,⟨b3,b4⟩,⟨b5,b6⟩⟩:=rfl
 rw [e0] at hx;generalize light.pW ⟨⟨a1,a2⟩,⟨a3,a4⟩,⟨a5,a6⟩⟩=c at *;generalize light.mF ⟨⟨b1,b2⟩,⟨b3,b4⟩,⟨b5,b6⟩⟩=d at *;clear e0
 obtain ⟨g1,g2,g3,g4,g5,g6,hg⟩:∃ g1 g2 g3 g4 g5 g6:Int,(k=0∧Value.agg #[Z I g1,Z I g2,Z I g3,Z I g4,Z I g5,Z I g6]= au #[Z I x1,Z I x2,Z I x3,Z I x4,Z I x5,Z I x6])∨(k≠0∧Value.agg #[Z I g1,Z I g2,Z I g3,Z I g4,Z I g5,Z I g6]= au #[Z I 0,Z I 0,Z I 0,Z I 0,Z I 0,Z I 0]):=by
  by_cases h:k=0
  ·exact ⟨_,_,_,_,_,_,.inl ⟨h,rfl⟩⟩
  ·exact ⟨_,_,_,_,_,_,.inr ⟨h,rfl⟩⟩
 refine Fx.door Tryz.func14 rfl (.nil w []) ?_;refine Fx.new [] 2 #[O a1,O a2,O a3,O a4,O a5,O a6] 34 [] [] fun fT=>?_;refine Fx.new [] 3 #[O b1,O b2,O b3,O b4,O b5,O b6] 34 [] [] fun fJ=>?_;refine Fx.aV [] 4 42 [] [] fun fF=>?_;refine Fx.bJ [3] 9 [] [] K1 ?_;refine Fx.part 7 [] [(11,ak (!(c == 0))),(6,Z I c)] [] ?_;refine Fx.splitB (fun H1=>?_) (fun H1=>?_)
 ·skip
  exact Fx.dQ (cs:=#[Z I 0,Z I 0,Z I 0,Z I 0,Z I 0,Z I 0]) (y:=Z I c) 2 fF [1,5] [(2,#[Z I 0,Z I 0,Z I 0,Z I 0,Z I 0,Z I 0])] (fun W M=>by have HB:=M.below;first|(obtain ⟨rfl,h⟩:=nD hx H1;exact ⟨HB,.inr ⟨h,rfl⟩⟩)|(obtain ⟨rfl,h⟩:=nD (wK hx H1) H2;exact ⟨HB,.inr ⟨h,rfl⟩⟩)|exact ⟨HB,hg.imp (fun h=>⟨h.1,by rw [h.2,h.1]⟩) fun h=>⟨h.1,by rw [h.2]⟩⟩)
 ·skip
  refine Fx.bJ [2,4] 15 [] [] K2 ?_;refine Fx.part 7 [] [(17,ak (!(d == 0))),(7,Z I d)] [] ?_;refine Fx.splitB (fun H2=>?_) (fun H2=>?_)
  ·skip
   exact Fx.dQ (cs:=#[Z I 0,Z I 0,Z I 0,Z I 0,Z I 0,Z I 0]) (y:=Z I d) 2 fF [1,5] [(2,#[Z I 0,Z I 0,Z I 0,Z I 0,Z I 0,Z I 0])] (fun W M=>by have HB:=M.below;first|(obtain ⟨rfl,h⟩:=nD hx H1;exact ⟨HB,.inr ⟨h,rfl⟩⟩)|(obtain ⟨rfl,h⟩:=nD (wK hx H1) H2;exact ⟨HB,.inr ⟨h,rfl⟩⟩)|exact ⟨HB,hg.imp (fun h=>⟨h.1,by rw [h.2,h.1]⟩) fun h=>⟨h.1,by rw [h.2]⟩⟩)
  ·skip
   refine Fx.call [2] 21 [] [] (fun W M=>BM (Dz (k:=k) W (fun V hV=>UQ (wK (wK hx H1) H2) V ((M.box (b:=fT) 0).later hV) ((M.box (b:=fJ) 1).later hV) (ht.later (Bt M.below hV)) (he.later (Bt M.below hV))) (fun args W=>by kernel_rfl)) hg) ?_;exact Fx.dQ (cs:=#[Z I g1,Z I g2,Z I g3,Z I g4,Z I g5,Z I g6]) (y:=Z I k) 2 fF [5] [(2,#[Z I g1,Z I g2,Z I g3,Z I g4,Z I g5,Z I g6])] (fun W M=>by have HB:=M.below;first|(obtain ⟨rfl,h⟩:=nD hx H1;exact ⟨HB,.inr ⟨h,rfl⟩⟩)|(obtain ⟨rfl,h⟩:=nD (wK hx H1) H2;exact ⟨HB,.inr ⟨h,rfl⟩⟩)|exact ⟨HB,hg.imp (fun h=>⟨h.1,by rw [h.2,h.1]⟩) fun h=>⟨h.1,by rw [h.2]⟩⟩)
def lJ (t:light.iC) (w:light.iC):light.iC × Int:=if rC t≠0 then (t0,rC t) else if light.mF w≠0 then (t0,light.mF w) else DZ t w
theorem Ul {a1 a2 a3 a4 a5 a6:ByteArray} {b1 b2 b3 b4 b5 b6:ByteArray} {x1 x2 x3 x4 x5 x6:ByteArray} {k:Int} (hx:gq (lJ ⟨⟨a1,a2⟩,⟨a3,a4⟩,⟨a5,a6⟩⟩ ⟨⟨b1,b2⟩,⟨b3,b4⟩,⟨b5,b6⟩⟩) ⟨⟨x1,x2⟩,⟨x3,x4⟩,⟨x5,x6⟩⟩ k) (w:World) (ht:jN.Pow w) (he:whole.Er w) :
  Calls Tryz.prog 32 #[au #[O a1,O a2,O a3,O a4,O a5,O a6],au #[O b1,O b2,O b3,O b4,O b5,O b6]] w (EU w (au #[O x1,O x2,O x3,O x4,O x5,O x6]) (au #[O ⟨#[]⟩,O ⟨#[]⟩,O ⟨#[]⟩,O ⟨#[]⟩,O ⟨#[]⟩,O ⟨#[]⟩]) k):=by
 have K1:∀ W,Calls Tryz.prog 79 #[au #[O a1,O a2,O a3,O a4,O a5,O a6]] W (fun e w'=>e= ah (Z I (rC ⟨⟨a1,a2⟩,⟨a3,a4⟩,⟨a5,a6⟩⟩))∧Below W.heap.size W w'):=fun W=>pV a1 a2 a3 a4 a5 a6 W;have K2:∀ W,Calls Tryz.prog 43 #[au #[O b1,O b2,O b3,O b4,O b5,O b6]] W (fun e w'=>e= ah (Z I (light.mF ⟨⟨b1,b2⟩,⟨b3,b4⟩,⟨b5,b6⟩⟩))∧Below W.heap.size W w'):=fun W=>light.oU ⟨⟨b1,b2⟩,⟨b3,b4⟩,⟨b5,b6⟩⟩ W;have e0:lJ ⟨⟨a1,a2⟩,⟨a3,a4⟩,⟨a5,a6⟩⟩ ⟨⟨b1,b2⟩,⟨b3,b4⟩,⟨b5,b6⟩⟩=if rC ⟨⟨a1,a2⟩,⟨a3,a4⟩,⟨a5,a6⟩⟩≠0 then (t0,rC ⟨⟨a1,a2⟩,⟨a3,a4⟩,⟨a5,a6⟩⟩) else if light.mF ⟨⟨b1,b2⟩,⟨b3,b4⟩,⟨b5,b6⟩⟩≠0 then (t0,light.mF ⟨⟨b1,b2⟩,⟨b3,b4⟩,⟨b5,b6⟩⟩) else DZ ⟨⟨a1,a2⟩,⟨a3,a4⟩,⟨a5,a6⟩⟩ ⟨⟨b1,b2⟩,⟨b3,b4⟩,⟨b5,b6⟩⟩:=rfl
 rw [e0] at hx;generalize rC ⟨⟨a1,a2⟩,⟨a3,a4⟩,⟨a5,a6⟩⟩=c at *;generalize light.mF ⟨⟨b1,b2⟩,⟨b3,b4⟩,⟨b5,b6⟩⟩=d at *;clear e0
 obtain ⟨g1,g2,g3,g4,g5,g6,hg⟩:∃ g1 g2 g3 g4 g5 g6:ByteArray,(k=0∧Value.agg #[O g1,O g2,O g3,O g4,O g5,O g6]= au #[O x1,O x2,O x3,O x4,O x5,O x6])∨(k≠0∧Value.agg #[O g1,O g2,O g3,O g4,O g5,O g6]= au #[O ⟨#[]⟩,O ⟨#[]⟩,O ⟨#[]⟩,O ⟨#[]⟩,O ⟨#[]⟩,O ⟨#[]⟩]):=by
  by_cases h:k=0
  ·exact ⟨_,_,_,_,_,_,.inl ⟨h,rfl⟩⟩
  ·exact ⟨_,_,_,_,_,_,.inr ⟨h,rfl⟩⟩
 refine Fx.door Tryz.func32 rfl (.nil w []) ?_;refine Fx.new [] 2 #[O a1,O a2,O a3,O a4,O a5,O a6] 34 [] [] fun fT=>?_;refine Fx.new [] 3 #[O b1,O b2,O b3,O b4,O b5,O b6] 34 [] [] fun fJ=>?_;refine Fx.aV [] 4 34 [] [] fun fF=>?_;refine Fx.bJ [3] 9 [] [] K1 ?_;refine Fx.part 7 [] [(11,ak (!(c == 0))),(6,Z I c)] [] ?_;refine Fx.splitB (fun H1=>?_) (fun H1=>?_)
 ·skip
  exact Fx.dQ (cs:=#[O ⟨#[]⟩,O ⟨#[]⟩,O ⟨#[]⟩,O ⟨#[]⟩,O ⟨#[]⟩,O ⟨#[]⟩]) (y:=Z I c) 2 fF [1,5] [(2,#[O ⟨#[]⟩,O ⟨#[]⟩,O ⟨#[]⟩,O ⟨#[]⟩,O ⟨#[]⟩,O ⟨#[]⟩])] (fun W M=>by have HB:=M.below;first|(obtain ⟨rfl,h⟩:=nD hx H1;exact ⟨HB,.inr ⟨h,rfl⟩⟩)|(obtain ⟨rfl,h⟩:=nD (wK hx H1) H2;exact ⟨HB,.inr ⟨h,rfl⟩⟩)|exact ⟨HB,hg.imp (fun h=>⟨h.1,by rw [h.2,h.1]⟩) fun h=>⟨h.1,by rw [h.2]⟩⟩)
 ·skip
  refine Fx.bJ [2,4] 15 [] [] K2 ?_;refine Fx.part 7 [] [(17,ak (!(d == 0))),(7,Z I d)] [] ?_;refine Fx.splitB (fun H2=>?_) (fun H2=>?_)
  ·skip
   exact Fx.dQ (cs:=#[O ⟨#[]⟩,O ⟨#[]⟩,O ⟨#[]⟩,O ⟨#[]⟩,O ⟨#[]⟩,O ⟨#[]⟩]) (y:=Z I d) 2 fF [1,5] [(2,#[O ⟨#[]⟩,O ⟨#[]⟩,O ⟨#[]⟩,O ⟨#[]⟩,O ⟨#[]⟩,O ⟨#[]⟩])] (fun W M=>by have HB:=M.below;first|(obtain ⟨rfl,h⟩:=nD hx H1;exact ⟨HB,.inr ⟨h,rfl⟩⟩)|(obtain ⟨rfl,h⟩:=nD (wK hx H1) H2;exact ⟨HB,.inr ⟨h,rfl⟩⟩)|exact ⟨HB,hg.imp (fun h=>⟨h.1,by rw [h.2,h.1]⟩) fun h=>⟨h.1,by rw [h.2]⟩⟩)
  ·skip
   refine Fx.call [2] 21 [] [] (fun W M=>BM (Dy (k:=k) W (fun V hV=>Nw (wK (wK hx H1) H2) V ((M.box (b:=fT) 0).later hV) ((M.box (b:=fJ) 1).later hV) (ht.later (Bt M.below hV))) (fun args W=>by kernel_rfl)) hg) ?_;exact Fx.dQ (cs:=#[O g1,O g2,O g3,O g4,O g5,O g6]) (y:=Z I k) 2 fF [5] [(2,#[O g1,O g2,O g3,O g4,O g5,O g6])] (fun W M=>by have HB:=M.below;first|(obtain ⟨rfl,h⟩:=nD hx H1;exact ⟨HB,.inr ⟨h,rfl⟩⟩)|(obtain ⟨rfl,h⟩:=nD (wK hx H1) H2;exact ⟨HB,.inr ⟨h,rfl⟩⟩)|exact ⟨HB,hg.imp (fun h=>⟨h.1,by rw [h.2,h.1]⟩) fun h=>⟨h.1,by rw [h.2]⟩⟩)
def lN (t:(Int × Int) × (Int × Int) × (Int × Int)) (w:light.iC):((Int × Int) × (Int × Int) × (Int × Int)) × Int:=if nE t≠0 then (z3,nE t) else if light.mF w≠0 then (z3,light.mF w) else La t.1 t.2.1 t.2.2 w
theorem aq3 {a1 a2 a3 a4 a5 a6:Int} {b1 b2 b3 b4 b5 b6:ByteArray} {x1 x2 x3 x4 x5 x6:Int} {k:Int} (hx:gq (lN ((a1,a2),(a3,a4),(a5,a6)) ⟨⟨b1,b2⟩,⟨b3,b4⟩,⟨b5,b6⟩⟩) ((x1,x2),(x3,x4),(x5,x6)) k) (w:World) (ht:jN.Pow w) (he:whole.Er w) :
  Calls Tryz.prog 34 #[au #[Z I a1,Z I a2,Z I a3,Z I a4,Z I a5,Z I a6],au #[O b1,O b2,O b3,O b4,O b5,O b6]] w (EU w (au #[Z I x1,Z I x2,Z I x3,Z I x4,Z I x5,Z I x6]) (au #[Z I 0,Z I 0,Z I 0,Z I 0,Z I 0,Z I 0]) k):=by
 have K1:∀ W,Calls Tryz.prog 68 #[au #[Z I a1,Z I a2,Z I a3,Z I a4,Z I a5,Z I a6]] W (fun e w'=>e= ah (Z I (nE ((a1,a2),(a3,a4),(a5,a6))))∧Below W.heap.size W w'):=fun W=>zl a1 a2 a3 a4 a5 a6 W;have K2:∀ W,Calls Tryz.prog 43 #[au #[O b1,O b2,O b3,O b4,O b5,O b6]] W (fun e w'=>e= ah (Z I (light.mF ⟨⟨b1,b2⟩,⟨b3,b4⟩,⟨b5,b6⟩⟩))∧Below W.heap.size W w'):=fun W=>light.oU ⟨⟨b1,b2⟩,⟨b3,b4⟩,⟨b5,b6⟩⟩ W;have e0:lN ((a1,a2),(a3,a4),(a5,a6)) ⟨⟨b1,b2⟩,⟨b3,b4⟩,⟨b5,b6⟩⟩=if nE ((a1,a2),(a3,a4),(a5,a6))≠0 then (z3,nE ((a1,a2),(a3,a4),(a5,a6))) else if light.mF ⟨⟨b1,b2⟩,⟨b3,b4⟩,⟨b5,b6⟩⟩≠0 then (z3,light.mF ⟨⟨b1,b2⟩,⟨b3,b4⟩,⟨b5,b6⟩⟩) else La (a1,a2) (a3,a4) (a5,a6) ⟨⟨b1,b2⟩,⟨b3,b4⟩,⟨b5,b6⟩⟩:=rfl
 rw [e0] at hx;generalize nE ((a1,a2),(a3,a4),(a5,a6))=c at *;generalize light.mF ⟨⟨b1,b2⟩,⟨b3,b4⟩,⟨b5,b6⟩⟩=d at *;clear e0
 obtain ⟨g1,g2,g3,g4,g5,g6,hg⟩:∃ g1 g2 g3 g4 g5 g6:Int,(k=0∧Value.agg #[Z I g1,Z I g2,Z I g3,Z I g4,Z I g5,Z I g6]= au #[Z I x1,Z I x2,Z I x3,Z I x4,Z I x5,Z I x6])∨(k≠0∧Value.agg #[Z I g1,Z I g2,Z I g3,Z I g4,Z I g5,Z I g6]= au #[Z I 0,Z I 0,Z I 0,Z I 0,Z I 0,Z I 0]):=by
  by_cases h:k=0
  ·exact ⟨_,_,_,_,_,_,.inl ⟨h,rfl⟩⟩
  ·exact ⟨_,_,_,_,_,_,.inr ⟨h,rfl⟩⟩
 refine Fx.door Tryz.func34 rfl (.nil w []) ?_;refine Fx.new [] 2 #[Z I a1,Z I a2,Z I a3,Z I a4,Z I a5,Z I a6] 42 [] [] fun fT=>?_;refine Fx.new [] 3 #[O b1,O b2,O b3,O b4,O b5,O b6] 34 [] [] fun fJ=>?_;refine Fx.aV [] 4 42 [] [] fun fF=>?_;refine Fx.bJ [3] 9 [] [] K1 ?_;refine Fx.part 7 [] [(11,ak (!(c == 0))),(6,Z I c)] [] ?_;refine Fx.splitB (fun H1=>?_) (fun H1=>?_)
 ·skip
  exact Fx.dQ (cs:=#[Z I 0,Z I 0,Z I 0,Z I 0,Z I 0,Z I 0]) (y:=Z I c) 2 fF [1,5] [(2,#[Z I 0,Z I 0,Z I 0,Z I 0,Z I 0,Z I 0])] (fun W M=>by have HB:=M.below;first|(obtain ⟨rfl,h⟩:=nD hx H1;exact ⟨HB,.inr ⟨h,rfl⟩⟩)|(obtain ⟨rfl,h⟩:=nD (wK hx H1) H2;exact ⟨HB,.inr ⟨h,rfl⟩⟩)|exact ⟨HB,hg.imp (fun h=>⟨h.1,by rw [h.2,h.1]⟩) fun h=>⟨h.1,by rw [h.2]⟩⟩)
 ·skip
  refine Fx.bJ [2,4] 15 [] [] K2 ?_;refine Fx.part 7 [] [(17,ak (!(d == 0))),(7,Z I d)] [] ?_;refine Fx.splitB (fun H2=>?_) (fun H2=>?_)
  ·skip
   exact Fx.dQ (cs:=#[Z I 0,Z I 0,Z I 0,Z I 0,Z I 0,Z I 0]) (y:=Z I d) 2 fF [1,5] [(2,#[Z I 0,Z I 0,Z I 0,Z I 0,Z I 0,Z I 0])] (fun W M=>by have HB:=M.below;first|(obtain ⟨rfl,h⟩:=nD hx H1;exact ⟨HB,.inr ⟨h,rfl⟩⟩)|(obtain ⟨rfl,h⟩:=nD (wK hx H1) H2;exact ⟨HB,.inr ⟨h,rfl⟩⟩)|exact ⟨HB,hg.imp (fun h=>⟨h.1,by rw [h.2,h.1]⟩) fun h=>⟨h.1,by rw [h.2]⟩⟩)
  ·skip
   refine Fx.call [2] 21 [] [] (fun W M=>BM (Dz (k:=k) W (fun V hV=>ZN (wK (wK hx H1) H2) V ((M.box (b:=fT) 0).later hV) ((M.box (b:=fJ) 1).later hV) (ht.later (Bt M.below hV)) (he.later (Bt M.below hV))) (fun args W=>by kernel_rfl)) hg) ?_;exact Fx.dQ (cs:=#[Z I g1,Z I g2,Z I g3,Z I g4,Z I g5,Z I g6]) (y:=Z I k) 2 fF [5] [(2,#[Z I g1,Z I g2,Z I g3,Z I g4,Z I g5,Z I g6])] (fun W M=>by have HB:=M.below;first|(obtain ⟨rfl,h⟩:=nD hx H1;exact ⟨HB,.inr ⟨h,rfl⟩⟩)|(obtain ⟨rfl,h⟩:=nD (wK hx H1) H2;exact ⟨HB,.inr ⟨h,rfl⟩⟩)|exact ⟨HB,hg.imp (fun h=>⟨h.1,by rw [h.2,h.1]⟩) fun h=>⟨h.1,by rw [h.2]⟩⟩)
def al8 (t:light.iC):light.iC × Int:=if rC t≠0 then (t0,rC t) else encI t
theorem XM {a1 a2 a3 a4 a5 a6 x1 x2 x3 x4 x5 x6:ByteArray} {k:Int} (hx:gq (al8 ⟨⟨a1,a2⟩,⟨a3,a4⟩,⟨a5,a6⟩⟩) ⟨⟨x1,x2⟩,⟨x3,x4⟩,⟨x5,x6⟩⟩ k) (w:World) (ht:jN.Pow w) :
  Calls Tryz.prog 25 #[au #[O a1,O a2,O a3,O a4,O a5,O a6]] w (EU w (au #[O x1,O x2,O x3,O x4,O x5,O x6]) (au #[O ⟨#[]⟩,O ⟨#[]⟩,O ⟨#[]⟩,O ⟨#[]⟩,O ⟨#[]⟩,O ⟨#[]⟩]) k):=by
 have K1:∀ W,Calls Tryz.prog 79 #[au #[O a1,O a2,O a3,O a4,O a5,O a6]] W (fun e w'=>e= ah (Z I (rC ⟨⟨a1,a2⟩,⟨a3,a4⟩,⟨a5,a6⟩⟩))∧Below W.heap.size W w'):=fun W=>pV a1 a2 a3 a4 a5 a6 W;have e0:al8 ⟨⟨a1,a2⟩,⟨a3,a4⟩,⟨a5,a6⟩⟩=if rC ⟨⟨a1,a2⟩,⟨a3,a4⟩,⟨a5,a6⟩⟩≠0 then (t0,rC ⟨⟨a1,a2⟩,⟨a3,a4⟩,⟨a5,a6⟩⟩) else encI ⟨⟨a1,a2⟩,⟨a3,a4⟩,⟨a5,a6⟩⟩:=rfl
 rw [e0] at hx;generalize rC ⟨⟨a1,a2⟩,⟨a3,a4⟩,⟨a5,a6⟩⟩=c at *;clear e0
 obtain ⟨g1,g2,g3,g4,g5,g6,hg⟩:∃ g1 g2 g3 g4 g5 g6:ByteArray,(k=0∧Value.agg #[O g1,O g2,O g3,O g4,O g5,O g6]= au #[O x1,O x2,O x3,O x4,O x5,O x6])∨(k≠0∧Value.agg #[O g1,O g2,O g3,O g4,O g5,O g6]= au #[O ⟨#[]⟩,O ⟨#[]⟩,O ⟨#[]⟩,O ⟨#[]⟩,O ⟨#[]⟩,O ⟨#[]⟩]):=by
  by_cases h:k=0
  ·exact ⟨_,_,_,_,_,_,.inl ⟨h,rfl⟩⟩
  ·exact ⟨_,_,_,_,_,_,.inr ⟨h,rfl⟩⟩
 refine Fx.door Tryz.func25 rfl (.nil w []) ?_;refine Fx.new [] 1 #[O a1,O a2,O a3,O a4,O a5,O a6] 34 [] [] fun fT=>?_;refine Fx.aV [] 2 34 [] [] fun fJ=>?_;refine Fx.bJ [3] 6 [] [] K1 ?_;refine Fx.part 7 [] [(8,ak (!(c == 0))),(4,Z I c)] [] ?_;refine Fx.splitB (fun H1=>?_) (fun H1=>?_)
 ·skip
  exact Fx.dQ (cs:=#[O ⟨#[]⟩,O ⟨#[]⟩,O ⟨#[]⟩,O ⟨#[]⟩,O ⟨#[]⟩,O ⟨#[]⟩]) (y:=Z I c) 1 fJ [1,4] [(1,#[O ⟨#[]⟩,O ⟨#[]⟩,O ⟨#[]⟩,O ⟨#[]⟩,O ⟨#[]⟩,O ⟨#[]⟩])] (fun W M=>by have HB:=M.below;first|(obtain ⟨rfl,h⟩:=nD hx H1;exact ⟨HB,.inr ⟨h,rfl⟩⟩)|exact ⟨HB,hg.imp (fun h=>⟨h.1,by rw [h.2,h.1]⟩) fun h=>⟨h.1,by rw [h.2]⟩⟩)
 ·skip
  refine Fx.call [2] 12 [] [] (fun W M=>BM (Dy (k:=k) W (fun V hV=>al9 (wK hx H1) V ((M.box (b:=fT) 0).later hV) (ht.later (Bt M.below hV))) (fun args W=>by kernel_rfl)) hg) ?_;exact Fx.dQ (cs:=#[O g1,O g2,O g3,O g4,O g5,O g6]) (y:=Z I k) 1 fJ [4] [(1,#[O g1,O g2,O g3,O g4,O g5,O g6])] (fun W M=>by have HB:=M.below;first|(obtain ⟨rfl,h⟩:=nD hx H1;exact ⟨HB,.inr ⟨h,rfl⟩⟩)|exact ⟨HB,hg.imp (fun h=>⟨h.1,by rw [h.2,h.1]⟩) fun h=>⟨h.1,by rw [h.2]⟩⟩)
end Go.Proofs.lab
namespace Go.Proofs.gI
open Go Go.RowKit Go.SW Go.Num Go.Mem Go.Proofs Go.Dec Go.gB Go.Proofs.aW Go.Proofs.aH Go.Proofs.aS Go.Proofs.power
end Go.Proofs.gI
namespace Go.Proofs.gI
open Go Go.RowKit Go.SW Go.Num Go.Mem Go.Proofs Go.Dec Go.gB Go.Proofs.aW Go.Proofs.power
end Go.Proofs.gI
namespace Go.Proofs.lab
open Go Go.RowKit Go.SW Go.Num Go.Mem Go.Proofs Go.gB Go.Fx
def SS (a b:Int × Int):Bool:=decide (a.1=b.1)&&decide (a.2=b.2)
theorem O6 (a b c d:Int) (W:World):(Op.equalIn 10000 40 (au #[Z I a,Z I b]) (au #[Z I c,Z I d])).run Tryz.prog W= .ok (SS (a,b) (c,d)) W:=by
 unfold SS
 by_cases h1:a=c
 ·by_cases h2:b=d
  ·subst h1;subst h2;go_simp
  ·subst h1;go_simp
 ·go_simp
def Pf (b1 b2:Int × Int):((Int × Int) × (Int × Int) × (Int × Int)) × Int :=
 bL z3 (aW.Ut (0*1000000000000)) fun zero=>cond (SS b1 zero&&SS b2 zero) (bL z3 (aW.Ut (1*1000000000000)) fun one=>qx (zero,one,zero))
  (bL z3 (power.YP [b1,b2]) fun c=>if c.1=0 then (z3,7) else bL z3 (Ph b1 c) fun p=>bL z3 (Ph b2 c) fun q=>qx (c,p,q))
theorem JM {l1 l2 l3 l4 l5 l6 x1 x2 x3 x4 x5 x6 k:Int} {p:Nat} (hx:gq (Pf (l3,l4) (l5,l6)) ((x1,x2),(x3,x4),(x5,x6)) k) (w:World)
  (hp:aB w p #[Z I l1,Z I l2,Z I l3,Z I l4,Z I l5,Z I l6] 42) (ht:jN.Pow w) (he:whole.Er w) :
  Calls Tryz.prog 70 #[aA (some ⟨p,0,none⟩)] w (Try w (au #[Z I x1,Z I x2,Z I x3,Z I x4,Z I x5,Z I x6]) k):=by
 unfold Pf at hx;refine Fx.door Tryz.func70 rfl (.ro hp (.nil w [])) ?_;have HR:=hx;refine Fx.aV [] 1 118 [] [] fun fT=>?_;obtain ⟨⟨x2,y2⟩,_,EX,HN⟩:=aK HR;refine Fx.cO jc [] 5 [] [] (fun W M=>BD (gq.of EX) _) HN fun _ HR=>?_;refine Fx.aV [] 2 40 [] [] fun fF=>?_;obtain ⟨f4,e4⟩:∃ f,SS (l3,l4) (x2,y2)=f:=⟨_,rfl⟩;have q4:=fun W=>O6 l3 l4 x2 y2 W;rw [e4] at HR;simp only [e4] at q4;cases f4
 ·skip
  replace HR:=gq.cond_false HR;refine Fx.eql 9 [5,3,5] 9 true false 40 (au #[Z I l3,Z I l4]) (au #[Z I x2,Z I y2]) [] [(2,#[Z I x2,Z I y2])] q4 ?_;refine Fx.newS [0,0,2,3,3] 25 2 2 #[Z I l3,Z I l4,Z I l5,Z I l6] 40 [] [] fun rQ=>?_;obtain ⟨⟨x6,y6⟩,k6,EX,HN⟩:=aK HR;refine Fx.call [] 26 [] [] (fun W M=>Xf EX _ (M.box (b:=rQ) (cs:=#[Z I l3,Z I l4,Z I l5,Z I l6]) 3) (ht.later M.below) (he.later M.below)) ?_;refine Fx.cO jc [] 29 [] [] (fun W M=>jA (x:=x6) (y:=y6) _) HN fun _ HR=>?_;refine Fx.aV [] 3 40 [] [] fun Xi=>?_;refine Fx.part 9 [7,7] [(32,ak (x6 == 0))] [(4,#[Z I x6,Z I y6])] ?_;refine Fx.splitB (fun hf1=>?_) (fun hf1=>?_)
  ·skip
   replace HR:=gq.pos HR (by simpa using hf1);refine Fx.panics (v:=.iface 43 (Z I 7)) 5 [1] [] (fun W M=>?_);have HB:=M.below;obtain ⟨hk, -⟩:=HR;cases hk;exact ⟨HB,.inr ⟨by decide,rfl⟩⟩
  ·skip
   replace HR:=gq.neg HR (by simpa using hf1);refine Fx.draw [2] [0,1,2,3,5,6,7,4,8,9,10,11] [] [(4,.func (.func 72) #[] #[aA (some ⟨Xi,0,none⟩)])] [] ?_;obtain ⟨⟨x9,y9⟩,_,EX,HN⟩:=aK HR;refine Fx.cO jc [7,3,3] 39 [(35,au #[Z I x6,Z I y6]),(40,.func (.func 72) #[] #[aA (some ⟨Xi,0,none⟩)]),(42,au #[Z I l5,Z I l6])] [] (fun W M=>Ih (gq.of EX) _ (M.box (b:=Xi) (cs:=#[Z I x6,Z I y6]) 4)) HN fun _ HR=>?_;obtain ⟨⟨x10,y10⟩,_,EX,HN⟩:=aK HR;refine Fx.cO jc [] 43 [] [] (fun W M=>Ih (gq.of EX) _ (M.box (b:=Xi) (cs:=#[Z I x6,Z I y6]) 4)) HN fun _ HR=>?_;obtain ⟨hk,hv⟩:=HR;cases hk
   exact Fx.iy (cs:=#[Z I x6,Z I y6,Z I x9,Z I y9,Z I x10,Z I y10]) 1 fT [4] [(1,#[Z I x6,Z I y6,Z I x9,Z I y9,Z I x10,Z I y10])] (fun W M=>⟨M.below,.inl ⟨rfl,by cases hv rfl;rfl⟩⟩)
 ·skip
  refine Fx.eql 9 [5,3,5] 9 true true 40 (au #[Z I l3,Z I l4]) (au #[Z I x2,Z I y2]) [] [(2,#[Z I x2,Z I y2])] q4 ?_;obtain ⟨f11,e11⟩:∃ f,SS (l5,l6) (x2,y2)=f:=⟨_,rfl⟩;have q11:=fun W=>O6 l5 l6 x2 y2 W;rw [e11] at HR;simp only [e11] at q11;cases f11
  ·skip
   replace HR:=gq.cond_false HR;refine Fx.eql 4 [3,5] 14 true false 40 (au #[Z I l5,Z I l6]) (au #[Z I x2,Z I y2]) [(10,ak true)] [] q11 ?_;refine Fx.newS [2,3,3] 25 2 2 #[Z I l3,Z I l4,Z I l5,Z I l6] 40 [] [] fun SQ=>?_;obtain ⟨⟨x13,y13⟩,k13,EX,HN⟩:=aK HR;refine Fx.call [] 26 [] [] (fun W M=>Xf EX _ (M.box (b:=SQ) (cs:=#[Z I l3,Z I l4,Z I l5,Z I l6]) 3) (ht.later M.below) (he.later M.below)) ?_;refine Fx.cO jc [] 29 [] [] (fun W M=>jA (x:=x13) (y:=y13) _) HN fun _ HR=>?_;refine Fx.aV [] 3 40 [] [] fun K8=>?_;refine Fx.part 9 [7,7] [(32,ak (x13 == 0))] [(4,#[Z I x13,Z I y13])] ?_;refine Fx.splitB (fun hf1=>?_) (fun hf1=>?_)
   ·skip
    replace HR:=gq.pos HR (by simpa using hf1);refine Fx.panics (v:=.iface 43 (Z I 7)) 5 [1] [] (fun W M=>?_);have HB:=M.below;obtain ⟨hk, -⟩:=HR;cases hk;exact ⟨HB,.inr ⟨by decide,rfl⟩⟩
   ·skip
    replace HR:=gq.neg HR (by simpa using hf1);refine Fx.draw [2] [0,1,2,3,5,6,7,4,8,9,10,11] [] [(4,.func (.func 72) #[] #[aA (some ⟨K8,0,none⟩)])] [] ?_;obtain ⟨⟨x16,y16⟩,_,EX,HN⟩:=aK HR;refine Fx.cO jc [7,3,3] 39 [(35,au #[Z I x13,Z I y13]),(40,.func (.func 72) #[] #[aA (some ⟨K8,0,none⟩)]),(42,au #[Z I l5,Z I l6])] [] (fun W M=>Ih (gq.of EX) _ (M.box (b:=K8) (cs:=#[Z I x13,Z I y13]) 4)) HN fun _ HR=>?_;obtain ⟨⟨x17,y17⟩,_,EX,HN⟩:=aK HR;refine Fx.cO jc [] 43 [] [] (fun W M=>Ih (gq.of EX) _ (M.box (b:=K8) (cs:=#[Z I x13,Z I y13]) 4)) HN fun _ HR=>?_;obtain ⟨hk,hv⟩:=HR;cases hk
    exact Fx.iy (cs:=#[Z I x13,Z I y13,Z I x16,Z I y16,Z I x17,Z I y17]) 1 fT [4] [(1,#[Z I x13,Z I y13,Z I x16,Z I y16,Z I x17,Z I y17])] (fun W M=>⟨M.below,.inl ⟨rfl,by cases hv rfl;rfl⟩⟩)
  ·skip
   replace HR:=gq.cond_true HR;refine Fx.eql 4 [3,5] 14 true true 40 (au #[Z I l5,Z I l6]) (au #[Z I x2,Z I y2]) [(10,ak true)] [] q11 ?_;refine Fx.draw [1] [0,2,1,3,4,5] [] [] [] ?_;obtain ⟨⟨x18,y18⟩,_,EX,HN⟩:=aK HR;refine Fx.cO jc [5,5] 17 [(16,au #[Z I x2,Z I y2]),(18,au #[Z I x2,Z I y2])] [] (fun W M=>BD (gq.of EX) _) HN fun _ HR=>?_;obtain ⟨hk,hv⟩:=HR;cases hk
   exact Fx.iy (cs:=#[Z I x2,Z I y2,Z I x18,Z I y18,Z I x2,Z I y2]) 1 fT [4] [(1,#[Z I x2,Z I y2,Z I x18,Z I y18,Z I x2,Z I y2])] (fun W M=>⟨M.below,.inl ⟨rfl,by cases hv rfl;rfl⟩⟩)
def af9 (l:(Int × Int) × (Int × Int) × (Int × Int)):((Int × Int) × (Int × Int) × (Int × Int)) × Int:=if nE l≠0 then (z3,nE l) else Pf l.2.1 l.2.2
def aO2 (w:World) (x1 x2 x3 x4 x5 x6 k:Int) (e:Ending) (w':World):Prop:=Below w.heap.size w w'∧((k=0∧e= ah (aD #[au #[Z I x1,Z I x2],au #[Z I x3,Z I x4,Z I x5,Z I x6],Z I 0]))∨(k≠0∧e= ah (aD #[au #[Z I 0,Z I 0],au #[Z I 0,Z I 0,Z I 0,Z I 0],Z I k])))
theorem ZX {a1 a2 a3 a4 a5 a6 x1 x2 x3 x4 x5 x6 k:Int} (hx:gq (af9 ((a1,a2),(a3,a4),(a5,a6))) ((x1,x2),(x3,x4),(x5,x6)) k) (w:World) (ht:jN.Pow w) (he:whole.Er w) :
  Calls Tryz.prog 22 #[au #[Z I a1,Z I a2,Z I a3,Z I a4,Z I a5,Z I a6]] w (aO2 w x1 x2 x3 x4 x5 x6 k):=by
 have K1:∀ W,Calls Tryz.prog 68 #[au #[Z I a1,Z I a2,Z I a3,Z I a4,Z I a5,Z I a6]] W (fun e w'=>e= ah (Z I (nE ((a1,a2),(a3,a4),(a5,a6))))∧Below W.heap.size W w'):=fun W=>zl a1 a2 a3 a4 a5 a6 W;have e0:af9 ((a1,a2),(a3,a4),(a5,a6))=if nE ((a1,a2),(a3,a4),(a5,a6))≠0 then (z3,nE ((a1,a2),(a3,a4),(a5,a6))) else Pf (a3,a4) (a5,a6):=rfl
 rw [e0] at hx;generalize nE ((a1,a2),(a3,a4),(a5,a6))=c at *;clear e0
 by_cases h0:c=0
 rotate_left
 ·have hk:c=k:=(gq.pos hx h0).1;subst hk;refine Fx.door Tryz.func22 rfl (.nil w []) ?_;refine Fx.new [] 1 #[Z I a1,Z I a2,Z I a3,Z I a4,Z I a5,Z I a6] 42 [] [] fun fT=>?_;refine Fx.aV [] 2 40 [] [] fun fJ=>?_;refine Fx.aV [] 3 70 [] [] fun fF=>?_;refine Fx.bJ [3] 8 [] [] K1 ?_;refine Fx.part 7 [] [(10,ak (!(c == 0))),(5,Z I c)] [] ?_;refine Fx.kF true (by simp [h0]) ?_;exact Fx.Mx 1 fJ 2 fF [1,4,5] [(1,#[Z I 0,Z I 0]),(2,#[Z I 0,Z I 0,Z I 0,Z I 0])] (fun W M=>by have HB:=M.below;exact ⟨HB,.inr ⟨h0,rfl⟩⟩)
 subst h0;replace hx:=gq.neg hx zi
 by_cases h2:k=0
 ·skip
  refine Fx.door Tryz.func22 rfl (.nil w []) ?_;refine Fx.new [] 1 #[Z I a1,Z I a2,Z I a3,Z I a4,Z I a5,Z I a6] 42 [] [] fun fT=>?_;refine Fx.aV [] 2 40 [] [] fun fJ=>?_;refine Fx.aV [] 3 70 [] [] fun fF=>?_;refine Fx.bJ [3] 8 [] [] K1 ?_;refine Fx.call [2] 16 [] [] (fun W M=>Zk (DC (k:=k) W (fun V hV=>JM (l1:=a1) (l2:=a2) hx V ((M.box (b:=fT) 0).later hV) (ht.later (Bt M.below hV)) (he.later (Bt M.below hV))) (fun args W=>by kernel_rfl)) h2) ?_;refine Fx.aV [] 6 118 [(17,au #[Z I x1,Z I x2,Z I x3,Z I x4,Z I x5,Z I x6]),(18,Z I 0)] [] fun uF=>?_;refine Fx.draw [6] [0,1,2,3,4,3005,6,5007] [1] [(4,Z I 0)] [(3,#[Z I x1,Z I x2,Z I x3,Z I x4,Z I x5,Z I x6])] ?_
  exact Fx.Mx 1 fJ 2 fF [6,6,4,5] [(1,#[Z I x1,Z I x2]),(2,#[Z I x3,Z I x4,Z I x5,Z I x6])] (fun W M=>by have HB:=M.below;exact ⟨HB,.inl ⟨h2,rfl⟩⟩)
 ·skip
  refine Fx.door Tryz.func22 rfl (.nil w []) ?_;refine Fx.new [] 1 #[Z I a1,Z I a2,Z I a3,Z I a4,Z I a5,Z I a6] 42 [] [] fun fT=>?_;refine Fx.aV [] 2 40 [] [] fun fJ=>?_;refine Fx.aV [] 3 70 [] [] fun fF=>?_;refine Fx.bJ [3] 8 [] [] K1 ?_;refine Fx.call [2] 16 [] [] (fun W M=>ak9 (DC (k:=k) W (fun V hV=>JM (l1:=a1) (l2:=a2) hx V ((M.box (b:=fT) 0).later hV) (ht.later (Bt M.below hV)) (he.later (Bt M.below hV))) (fun args W=>by kernel_rfl)) h2) ?_;refine Fx.aV [] 6 118 [(17,au #[Z I 0,Z I 0,Z I 0,Z I 0,Z I 0,Z I 0]),(18,Z I k)] [] fun uF=>?_;refine Fx.draw [6] [0,1,2,3,4,3005,6,5007] [1] [(4,Z I k)] [(3,#[Z I 0,Z I 0,Z I 0,Z I 0,Z I 0,Z I 0])] ?_
  exact Fx.Mx 1 fJ 2 fF [6,6,4,5] [(1,#[Z I 0,Z I 0]),(2,#[Z I 0,Z I 0,Z I 0,Z I 0])] (fun W M=>by have HB:=M.below;exact ⟨HB,.inr ⟨h2,rfl⟩⟩)
end Go.Proofs.lab
namespace Go.Proofs.matrix
open Go Go.Num Go.gB Go.Proofs.aW Go.Proofs.aS Go.Proofs.aH
theorem zJ (z:Int) (q:Rat):un z≤q↔(z:Rat)≤q*((1000000000000:Int):Rat):=by
 rw [← G9 z]
 constructor
 ·exact fun h=>Rat.mul_le_mul_of_nonneg_right h (Rat.le_of_lt GQ)
 ·exact fun h=>Rat.le_of_mul_le_mul_right h GQ
theorem R9 (z:Int) (q:Rat):q≤un z↔q*((1000000000000:Int):Rat)≤(z:Rat):=by
 rw [← G9 z]
 constructor
 ·exact fun h=>Rat.mul_le_mul_of_nonneg_right h (Rat.le_of_lt GQ)
 ·exact fun h=>Rat.le_of_mul_le_mul_right h GQ
theorem Jp {a b:Int}:un a≤un b↔a≤b:=by rw [zJ,G9,Rat.intCast_le_intCast]
def In (b:Int × Int) (q:Rat) (M:Int):Prop:=un b.1≤q∧q≤un b.2∧ -M≤b.1∧b.2≤M
theorem In.le {b:Int × Int} {q:Rat} {M:Int} (h:In b q M):b.1≤b.2:=Jp.1 (Rat.le_trans h.1 h.2.1)
theorem IV {x y:Int} (h: -1000000000000000000≤x) (h2:x≤y) (h3:y≤1000000000000000000):gM x y=true:=by
 unfold gM;rw [decide_eq_true h,decide_eq_true h2,decide_eq_true h3];rfl
end Go.Proofs.matrix
namespace Go.Proofs.aW
open Go Go.RowKit Go.SW Go.Num Go.Mem Go.Proofs Go.gB Go.Proofs.matrix Go.Proofs.aS Go.Proofs.aH
def Wi (M:Int) (v:Rat):Prop:=un (-M)≤v∧v≤un M
theorem af0 (n:Int):un (-n)= -un n:=by unfold un;rw [Rat.intCast_neg,rW]
theorem _root_.Go.Proofs.matrix.In.lo {b:Int × Int} {q:Rat} {M:Int} (h:In b q M):un b.1≤q:=h.1
theorem _root_.Go.Proofs.matrix.In.hi {b:Int × Int} {q:Rat} {M:Int} (h:In b q M):q≤un b.2:=h.2.1
theorem _root_.Go.Proofs.matrix.In.mono {b:Int × Int} {q:Rat} {M N:Int} (h:In b q M) (k:M≤N):In b q N:=⟨h.1,h.2.1,by have:=h.2.2.1;omega,by have:=h.2.2.2;omega⟩
theorem av3 {n M:Int} (h: -M≤n) (k:n≤M):Wi M (un n):=⟨Jp.2 h,Jp.2 k⟩
theorem Wi.of {n d M:Int} (hd:0<d) (h1: -(M*d)≤n*1000000000000) (h2:n*1000000000000≤M*d):Wi M ((n:Rat) / (d:Rat)):=by
 have hd':(0:Rat)<(d:Rat):=Rat.intCast_pos.2 hd;have hd0:(d:Rat)≠0:=fun e=>by rw [e] at hd';exact absurd hd' zd
 have key:∀ a b:Int,a*d≤b*1000000000000→un a≤(b:Rat) / (d:Rat):=fun a b h=>by
  rw [zJ];refine Rat.le_of_mul_le_mul_right (c:=(d:Rat)) ?_ hd';have e:(b:Rat) / (d:Rat)*((1000000000000:Int):Rat)*(d:Rat)=(b:Rat)*((1000000000000:Int):Rat):=by grind
  rw [e];have h2:((a*d:Int):Rat)≤((b*1000000000000:Int):Rat):=Rat.intCast_le_intCast.2 h;rw [Rat.intCast_mul,Rat.intCast_mul] at h2;exact h2
 refine ⟨key _ _ (by rw [Int.neg_mul];exact h1),?_⟩;have:=key (-M) (-n) (by rw [Int.neg_mul,Int.neg_mul];omega);rw [af0,Rat.intCast_neg,← rW] at this
 grind
end Go.Proofs.aW
namespace Go.Proofs.lab
open Go Go.RowKit Go.SW Go.Num Go.Mem Go.Proofs Go.gB Go.Proofs.aW Go.Proofs.aS
def ax0:Rat:=((216:Int):Rat) / ((24389:Int):Rat)
theorem Vx (n d:Int) (hd:d≠0) (h:uQ ((n:Rat) / (d:Rat))=true):nk n d=(Fr.of ((n:Rat) / (d:Rat)),0):=by
 unfold nk wr;rw [if_neg hd,if_pos h]
theorem ZE {p q:Rat}:0<qL p q↔q<p:=by
 unfold qL
 by_cases c:p<q
 ·rw [if_pos c];exact ⟨fun h=>absurd h zd,fun h=>absurd (Std.lt_trans c h) Rat.lt_irrefl⟩
 ·rw [if_neg c]
  by_cases c2:q<p
  ·rw [if_pos c2];exact ⟨fun _=>c2,fun _=>by decide⟩
  ·rw [if_neg c2];exact ⟨fun h=>absurd h zd,fun h=>absurd h c2⟩
end Go.Proofs.lab
