/- Lemmas for the proof. No condition. -/
import Derived.Test.YtneajphgfdlmhaaGreatDoorUB44
import Derived.Test.YtneajphgfdlmhaaGreatDoorUB48
set_option linter.unusedVariables false
set_option linter.unusedSimpArgs false
set_option maxRecDepth 100000
set_option maxHeartbeats 16000000
open Bool renaming and_eq_true → aG
open Go.Ending renaming returned → ah
open Go.IntKind renaming i64 → I
open Go.Value renaming agg → au, bool → ak, int → Z, pointer → aA, string → O, tuple → aD
open List renaming range → dF
open Nat renaming le_trans → ay
namespace Go.Proofs.aQ
open Go Go.RowKit Go.SW Go.Num Go.Mem Go.Proofs Go.gB Go.Fx Go.Proofs.aH Go.Proofs.aP Go.Proofs.aS Go.Proofs.lab Go.Proofs.matrix Go.Proofs.aW
theorem jC {E:Int} {r:(Int × Int) × Int} {x:Int × Int} (h:got E r=(x,0)):E=0∧r=(x,0):=by
 by_cases hE:E=0
 ·subst hE;obtain ⟨g1,g2,g3⟩:=BN h;exact ⟨rfl,Prod.ext (g2 rfl) g1⟩
 ·rw [vW hE] at h;cases h
  exact absurd rfl hE
theorem Kv (E:Int):got E ((0,0),0)=((0,0),E):=by
 unfold got;split
 ·rename_i h;rw [h];rfl
 ·rfl
theorem A9 {f:Fr} {q:Rat} {l:Int × Int} (h:rd f=some q) (e:aW.eF f=(l,0)):un l.1≤q∧q≤un l.2∧gM l.1 l.2=true:=by
 have e2:aW.eF f=jQ q q:=by rw [sO];unfold aW.eF;rw [h]
 rw [e] at e2;unfold jQ gN at e2;rw [oZ,oZ] at e2;split at e2
 ·rename_i hb;have e4:l=(Ag q,zC q):=congrArg Prod.fst e2;subst e4;refine ⟨(zJ _ _).2 (Rat.floor_le _),(R9 _ _).2 ?_,hb⟩;unfold zC;have:=Rat.floor_le (-(q*((1000000000000:Int):Rat)));rw [Rat.intCast_neg]
  grind
 ·have:(0:Int)=6:=congrArg Prod.snd e2;omega
theorem Y7 {lo hi l1 l2 h1 h2 F1 F2:Int} (hb:gM lo hi=true) (g1:got 0 (aW.eF (Fr.of (gQ (un lo))))=((l1,l2),F1)) (g2:got F1 (aW.eF (Fr.of (gQ (un hi))))=((h1,h2),F2)) :
  ∃ y,got 0 (J7 (lo,hi))=(y,F2)∧(F2=0→y=(l1,h2)):=by
 obtain ⟨e1,e2,q1,q2⟩:=ac0 (b:=(lo,hi)) hb;have s1:gJ (Fr.of (un lo))=_:=vU q1 zo;have s2:gJ (Fr.of (un hi))=_:=vU q2 zo;have r1:=o9 ((Za q1).ok zo);have r2:=o9 ((Za q2).ok zo)
 dsimp only at e1 e2 r1 r2
 unfold J7;rw [e1,e2];simp only [BQ];rw [s1,s2];simp only [BQ];have hle:gQ (un lo)≤gQ (un hi):=al0 (Jp.2 (by simp only [gM,aG,decide_eq_true_eq] at hb;omega));rw [Kw]
 by_cases hF:F1=0
 ·subst hF;obtain ⟨-, t1⟩:=jC g1;rw [t1];simp only [if_true];rw [Kw];obtain ⟨j1,j2,j3⟩:=BN g2
  by_cases hG:F2=0
  ·subst hG;obtain ⟨-, t2⟩:=jC g2;obtain ⟨k1,k2,k3⟩:=A9 r1 t1;obtain ⟨m1,m2,m3⟩:=A9 r2 t2;have hx:l1≤h2:=Jp.1 (Rat.le_trans k1 (Rat.le_trans hle m2))
   have hy:gM l1 h2=true:=by
    simp only [gM,aG,decide_eq_true_eq] at k3 m3;exact IV zo hx zo
   rw [t2];simp only [if_true];unfold aW.ofE;rw [if_pos hy];exact ⟨_,rfl,fun _=>rfl⟩
  ·rw [if_neg (by rw [j1];exact hG),j1];exact ⟨_,rfl,fun h=>absurd h hG⟩
 ·obtain ⟨j1,j2,j3⟩:=BN g1;rw [vW hF] at g2;cases g2
  rw [if_neg (by rw [j1];exact hF),j1];exact ⟨_,rfl,fun h=>absurd h hF⟩
theorem Iq {E lo hi:Int} (hE:E≠0) {b:Nat} {w:World} (X:aB w b #[Z I E] 100) :
  Calls Tryz.prog 113 #[aA (some ⟨b,0,none⟩),au #[Z I lo,Z I hi]] w (fun e w'=>e= ah (au #[Z I 0,Z I 0])∧nW [b] w w'∧aB w' b #[Z I E] 100):=by
 refine Fx.door Tryz.func113 rfl (.one X) ?_;refine Fx.new [] 3 #[Z I lo,Z I hi] 40 [] [] fun fT=>?_;refine Fx.aV [] 4 40 [] [] fun fJ=>?_;refine Fx.part 10 [3] [(18,ak (!(E == 0)))] [] ?_;refine Fx.kF true (by simp [hE]) ?_;exact Fx.iy 2 fJ [1,5] [(2,#[Z I 0,Z I 0])] (fun W M=>⟨rfl,M.vH,M.box (b:=b) 0⟩)
theorem Ip {lo hi l1 l2 h1 h2 F1 F2:Int} (hb:gM lo hi=true) (g1:got 0 (aW.eF (Fr.of (gQ (un lo))))=((l1,l2),F1)) (g2:got F1 (aW.eF (Fr.of (gQ (un hi))))=((h1,h2),F2)) {b:Nat} {w:World} (X:aB w b #[Z I 0] 100) :
  Calls Tryz.prog 113 #[aA (some ⟨b,0,none⟩),au #[Z I lo,Z I hi]] w (fun e w'=>e= ah (au #[Z I l1,Z I h2])∧nW [b] w w'∧aB w' b #[Z I F2] 100):=by
 obtain ⟨e1,e2,q1,q2⟩:=ac0 (b:=(lo,hi)) hb;have s1:gu 0 (gJ (Fr.of (un lo)))=(Fr.of (gQ (un lo)),0):=by rw [vU q1 zo];rfl
 have s2:gu 0 (gJ (Fr.of (un hi)))=(Fr.of (gQ (un hi)),0):=by rw [vU q2 zo];rfl
 have f1:=qE (q1.ok zo);have f2:=qE (q2.ok zo);have f3:=qE ((Za q1).ok zo);have f4:=qE ((Za q2).ok zo);have C1:=fun W=>aS.Ot lo hi W;have C2:=fun W=>aS.I7 lo hi W;rw [e1] at C1;rw [e2] at C2;clear e1 e2 q1 q2
 dsimp only at *
 generalize Fr.of (gQ (un lo))=x1 at *;generalize Fr.of (gQ (un hi))=x2 at *;generalize Fr.of (un lo)=x3 at *;generalize Fr.of (un hi)=x4 at *;obtain ⟨s,t⟩:=x1;obtain ⟨p,q⟩:=x2;obtain ⟨m,n⟩:=x3;obtain ⟨u,v⟩:=x4;have C3:=fun W=>Lm s1 f1 W;have C4:=fun W=>Lm s2 f2 W;refine Fx.door Tryz.func113 rfl (.one X) ?_;refine Fx.new [] 3 #[Z I lo,Z I hi] 40 [] [] fun fT=>?_;refine Fx.aV [] 4 40 [] [] fun fJ=>?_;refine Fx.bJ [3,2,4] 22 [] [] C1 ?_;refine Fx.aV [] 5 32 [(23,au #[O m,O n]),(24,Z I 0)] [] fun fF=>?_;refine Fx.bJ [6,4] 27 [] [(3,#[O m,O n])] C2 ?_;refine Fx.aV [] 7 32 [(28,au #[O u,O v]),(29,Z I 0)] [] fun uF=>?_;refine Fx.bJ [7,6] 32 [] [(4,#[O u,O v])] C3 ?_;refine Fx.aV [] 9 32 [(33,au #[O s,O t]),(34,Z I 0)] [] fun rQ=>?_
 refine Fx.gK [8] 38 0 [] [(5,#[O s,O t])] (fun W M=>E5 (Kv 0) (M.box (b:=b) 0)) ?_;refine Fx.gK [8] 41 0 [] [] (fun W M=>oW g1 f3 (M.box (b:=b) 0)) ?_;refine Fx.aV [] 11 40 [] [] fun P9=>?_;refine Fx.bJ [9,7] 44 [] [(6,#[Z I l1,Z I l2])] C4 ?_;refine Fx.aV [] 12 32 [(45,au #[O p,O q]),(46,Z I 0)] [] fun P8=>?_;refine Fx.gK [10] 50 0 [] [(7,#[O p,O q])] (fun W M=>E5 (Kv F1) (M.box (b:=b) 0)) ?_;refine Fx.gK [10] 53 0 [] [] (fun W M=>oW g2 f4 (M.box (b:=b) 0)) ?_;refine Fx.aV [] 13 40 [] [] fun Xi=>?_;exact Fx.iy 2 fJ [11,9,11,5] [(2,#[Z I l1,Z I h2]),(8,#[Z I h1,Z I h2])] (fun W M=>⟨rfl,M.vH,M.box (b:=b) 0⟩)
theorem xG (E lo hi:Int) (hb:E=0→gM lo hi=true):∃ u v F:Int,(∃ y,got E (J7 (lo,hi))=(y,F)∧(F=0→y=(u,v)))∧∀ {b:Nat} {w:World},aB w b #[Z I E] 100 →
  Calls Tryz.prog 113 #[aA (some ⟨b,0,none⟩),au #[Z I lo,Z I hi]] w (fun e w'=>e= ah (au #[Z I u,Z I v])∧nW [b] w w'∧aB w' b #[Z I F] 100):=by
 by_cases hE:E=0
 ·subst hE;obtain ⟨⟨⟨l1,l2⟩,F1⟩,g1⟩:∃ z,got 0 (aW.eF (Fr.of (gQ (un lo))))=z:=⟨_,rfl⟩;obtain ⟨⟨⟨h1,h2⟩,F2⟩,g2⟩:∃ z,got F1 (aW.eF (Fr.of (gQ (un hi))))=z:=⟨_,rfl⟩;exact ⟨l1,h2,F2,Y7 (hb rfl) g1 g2,fun X=>Ip (hb rfl) g1 g2 X⟩
 ·exact ⟨0,0,E,⟨_,vW hE _,fun h=>absurd h hE⟩,fun X=>Iq hE X⟩
end Go.Proofs.aQ
namespace Go.Proofs.aQ
open Go Go.RowKit Go.SW Go.Num Go.Mem Go.Proofs Go.gB Go.Fx Go.Proofs.aH Go.Proofs.aP Go.Proofs.lab
theorem Us {a1 a2 a3 a4 a5 a6 k:Int} {b1 b2 b3 b4 b5 b6:ByteArray} (hk:nE ((a1,a2),(a3,a4),(a5,a6))=k) (h0:k≠0) (w:World) :
  Calls Tryz.prog 35 #[au #[Z I a1,Z I a2,Z I a3,Z I a4,Z I a5,Z I a6],au #[O b1,O b2,O b3,O b4,O b5,O b6]] w (fun e w'=>e= ah (aD #[au #[Z I 0,Z I 0,Z I 0,Z I 0,Z I 0,Z I 0],Z I k])∧Below w.heap.size w w'):=by
 refine Fx.door Tryz.func35 rfl (.nil w []) ?_;refine Fx.new [] 2 #[Z I a1,Z I a2,Z I a3,Z I a4,Z I a5,Z I a6] 42 [] [] fun fT=>?_;refine Fx.new [] 3 #[O b1,O b2,O b3,O b4,O b5,O b6] 34 [] [] fun fJ=>?_;refine Fx.aV [] 4 42 [] [] fun fF=>?_;refine Fx.newS [3,3,3] 21 3 3 #[Z I a1,Z I a2,Z I a3,Z I a4,Z I a5,Z I a6] 40 [] [] fun uF=>?_;refine Fx.call [] 22 [] [] (fun W M=>Fb hk _ _ (M.box (b:=uF) 3)) ?_;refine Fx.part 7 [] [(24,ak (!(k == 0))),(6,Z I k)] [] ?_;refine Fx.kF true (by simp [h0]) ?_;exact Fx.dQ 2 fF [1,5] [(2,#[Z I 0,Z I 0,Z I 0,Z I 0,Z I 0,Z I 0])] (fun W M=>⟨rfl,M.below⟩)
theorem Ur {a1 a2 a3 a4 a5 a6 k:Int} {b1 b2 b3 b4 b5 b6:ByteArray} (hk:nE ((a1,a2),(a3,a4),(a5,a6))=0) (hb:lZ ⟨⟨b1,b2⟩,⟨b3,b4⟩,⟨b5,b6⟩⟩) (hs:light.mF ⟨⟨b1,b2⟩,⟨b3,b4⟩,⟨b5,b6⟩⟩=k) (h0:k≠0) (w:World) :
  Calls Tryz.prog 35 #[au #[Z I a1,Z I a2,Z I a3,Z I a4,Z I a5,Z I a6],au #[O b1,O b2,O b3,O b4,O b5,O b6]] w (fun e w'=>e= ah (aD #[au #[Z I 0,Z I 0,Z I 0,Z I 0,Z I 0,Z I 0],Z I k])∧Below w.heap.size w w'):=by
 have HS:∀ W,Calls Tryz.prog 54 #[au #[O b1,O b2,O b3,O b4,O b5,O b6]] W (fun e w'=>e= ah (Z I k)∧Below W.heap.size W w'):=fun W=>hs ▸ aP.oU ⟨⟨b1,b2⟩,⟨b3,b4⟩,⟨b5,b6⟩⟩ W hb;refine Fx.door Tryz.func35 rfl (.nil w []) ?_;refine Fx.new [] 2 #[Z I a1,Z I a2,Z I a3,Z I a4,Z I a5,Z I a6] 42 [] [] fun fT=>?_;refine Fx.new [] 3 #[O b1,O b2,O b3,O b4,O b5,O b6] 34 [] [] fun fJ=>?_;refine Fx.aV [] 4 42 [] [] fun fF=>?_;refine Fx.newS [3,3,3] 21 3 3 #[Z I a1,Z I a2,Z I a3,Z I a4,Z I a5,Z I a6] 40 [] [] fun uF=>?_;refine Fx.call [] 22 [] [] (fun W M=>Fb hk _ _ (M.box (b:=uF) 3)) ?_;refine Fx.bJ [2,4] 28 [] [] HS ?_;refine Fx.part 7 [] [(30,ak (!(k == 0))),(7,Z I k)] [] ?_
 refine Fx.kF true (by simp [h0]) ?_;exact Fx.dQ 2 fF [1,5] [(2,#[Z I 0,Z I 0,Z I 0,Z I 0,Z I 0,Z I 0])] (fun W M=>⟨rfl,M.below⟩)
theorem Uq {a1 a2 a3 a4 a5 a6 x0 y0 F0 x1 y1 F1 x2 y2 F2 x3 y3 F3 x4 y4 F4 x5 y5 F5 u0 v0 J0 s0 t0 K0 p0 q0 G0 u1 v1 J1 s1 t1 K1 p1 q1 G1 u2 v2 J2 s2 t2 K2 p2 q2 G2:Int} {b1 b2 b3 b4 b5 b6:ByteArray} (hk:nE ((a1,a2),(a3,a4),(a5,a6))=0) (hb:lZ ⟨⟨b1,b2⟩,⟨b3,b4⟩,⟨b5,b6⟩⟩) (hs:light.mF ⟨⟨b1,b2⟩,⟨b3,b4⟩,⟨b5,b6⟩⟩=0)
  (e0:got 0 (aW.kH (a1,a2) (16000000000000,16000000000000))=((x0,y0),F0)) (e1:got F0 (aW.qw (x0,y0) 1 116)=((x1,y1),F1)) (e2:got F1 (aW.qw (a3,a4) 1 500)=((x2,y2),F2)) (e3:got F2 (aW.kH (x1,y1) (x2,y2))=((x3,y3),F3)) (e4:got F3 (aW.qw (a5,a6) 1 200)=((x4,y4),F4)) (e5:got F4 (aW.wH (x1,y1) (x4,y4))=((x5,y5),F5))
  (I0:∀ {b:Nat} {w:World},aB w b #[Z I F5] 100→Calls Tryz.prog 113 #[aA (some ⟨b,0,none⟩),au #[Z I x3,Z I y3]] w (fun e w'=>e= ah (au #[Z I u0,Z I v0])∧nW [b] w w'∧aB w' b #[Z I J0] 100))
  (r0:got J0 (aW.eF ⟨b1,b2⟩)=((s0,t0),K0)) (m0:got K0 (aW.uR (u0,v0) (s0,t0))=((p0,q0),G0))
  (I1:∀ {b:Nat} {w:World},aB w b #[Z I G0] 100→Calls Tryz.prog 113 #[aA (some ⟨b,0,none⟩),au #[Z I x1,Z I y1]] w (fun e w'=>e= ah (au #[Z I u1,Z I v1])∧nW [b] w w'∧aB w' b #[Z I J1] 100))
  (r1:got J1 (aW.eF ⟨b3,b4⟩)=((s1,t1),K1)) (m1:got K1 (aW.uR (u1,v1) (s1,t1))=((p1,q1),G1))
  (I2:∀ {b:Nat} {w:World},aB w b #[Z I G1] 100→Calls Tryz.prog 113 #[aA (some ⟨b,0,none⟩),au #[Z I x5,Z I y5]] w (fun e w'=>e= ah (au #[Z I u2,Z I v2])∧nW [b] w w'∧aB w' b #[Z I J2] 100))
  (r2:got J2 (aW.eF ⟨b5,b6⟩)=((s2,t2),K2)) (m2:got K2 (aW.uR (u2,v2) (s2,t2))=((p2,q2),G2)) (w:World) :
  Calls Tryz.prog 35 #[au #[Z I a1,Z I a2,Z I a3,Z I a4,Z I a5,Z I a6],au #[O b1,O b2,O b3,O b4,O b5,O b6]] w (fun e w'=>(G2=0→e= ah (aD #[au #[Z I p0,Z I q0,Z I p1,Z I q1,Z I p2,Z I q2],Z I 0]))∧(G2≠0→e= ah (aD #[au #[Z I 0,Z I 0,Z I 0,Z I 0,Z I 0,Z I 0],Z I G2]))∧Below w.heap.size w w'):=by
 have HS:∀ W,Calls Tryz.prog 54 #[au #[O b1,O b2,O b3,O b4,O b5,O b6]] W (fun e w'=>e= ah (Z I 0)∧Below W.heap.size W w'):=fun W=>hs ▸ aP.oU ⟨⟨b1,b2⟩,⟨b3,b4⟩,⟨b5,b6⟩⟩ W hb;have f0:Fits ⟨b1,b2⟩:=hb 0 zo;have f1:Fits ⟨b3,b4⟩:=hb 1 zo;have f2:Fits ⟨b5,b6⟩:=hb 2 zo;refine Fx.door Tryz.func35 rfl (.nil w []) ?_;refine Fx.new [] 2 #[Z I a1,Z I a2,Z I a3,Z I a4,Z I a5,Z I a6] 42 [] [] fun fT=>?_;refine Fx.new [] 3 #[O b1,O b2,O b3,O b4,O b5,O b6] 34 [] [] fun fJ=>?_;refine Fx.aV [] 4 42 [] [] fun fF=>?_;refine Fx.newS [3,3,3] 21 3 3 #[Z I a1,Z I a2,Z I a3,Z I a4,Z I a5,Z I a6] 40 [] [] fun uF=>?_;refine Fx.call [] 22 [] [] (fun W M=>Fb hk _ _ (M.box (b:=uF) 3)) ?_;refine Fx.bJ [2,4] 28 [] [] HS ?_
 refine Fx.aV [2] 8 100 [] [] fun rQ=>?_;refine Fx.draw [] (dF 7) [4] [] [] ?_;refine Fx.call [3] 35 [(34,au #[Z I a1,Z I a2])] [] (fun W M=>Xq _) ?_;refine Fx.gK [] 36 4 [] [] (fun W M=>Lx e0 (M.box (b:=rQ) 4)) ?_;refine Fx.gK [] 37 4 [] [] (fun W M=>IY e1 (M.box (b:=rQ) 4)) ?_;refine Fx.qA [] 9 40 [] [] fun P9=>?_;refine Fx.draw [8] (dF 7) [4] [] [(5,#[Z I x1,Z I y1])] ?_;refine Fx.gK [8,3] 41 4 [(38,au #[Z I x1,Z I y1])] [] (fun W M=>IY e2 (M.box (b:=rQ) 4)) ?_;refine Fx.gK [] 42 4 [] [] (fun W M=>Lx e3 (M.box (b:=rQ) 4)) ?_;refine Fx.qA [] 10 40 [] [] fun P8=>?_;refine Fx.draw [9] (dF 7) [4] [] [(6,#[Z I x3,Z I y3])] ?_;refine Fx.gK [8,3] 46 4 [(43,au #[Z I x1,Z I y1])] [] (fun W M=>IY e4 (M.box (b:=rQ) 4)) ?_
 refine Fx.gK [] 47 4 [] [] (fun W M=>Qh e5 (M.box (b:=rQ) 4)) ?_;refine Fx.qA [] 11 40 [] [] fun Xi=>?_;refine Fx.aV [10] 12 42 [] [(7,#[Z I x5,Z I y5])] fun bz9=>?_;refine Fx.aV [9,8,10,1] 14 40 [(51,au #[Z I x3,Z I y3,Z I x1,Z I y1,Z I x5,Z I y5]),(52,Z I 0),(54,Z I 0),(55,au #[Z I x3,Z I y3])] [] fun NJ=>?_;refine Fx.draw [12] [0,1,3,4,5,2,6,7,8,9] [4] [(13,Z I 0)] [(9,#[Z I x3,Z I y3])] ?_;refine Fx.gK [12,4] 58 4 [(56,Z I 0),(61,au #[O b1,O b2])] [] (fun W M=>I0 (M.box (b:=rQ) 4)) ?_;refine Fx.gK [] 62 4 [] [] (fun W M=>oW r0 f0 (M.box (b:=rQ) 4)) ?_;refine Fx.gK [] 63 4 [] [] (fun W M=>wT m0 (M.box (b:=rQ) 4)) ?_
 refine Fx.aV [11,1] 14 40 [(52,Z I 1),(54,Z I 1),(55,au #[Z I x1,Z I y1])] [(8,#[Z I p0,Z I q0,Z I 0,Z I 0,Z I 0,Z I 0])] fun ZL=>?_;refine Fx.draw [13] [0,1,3,4,5,2,6,7,8,9] [4] [(13,Z I 1)] [(10,#[Z I x1,Z I y1])] ?_;refine Fx.gK [13,4] 58 4 [(56,Z I 1),(61,au #[O b3,O b4])] [] (fun W M=>I1 (M.box (b:=rQ) 4)) ?_;refine Fx.gK [] 62 4 [] [] (fun W M=>oW r1 f1 (M.box (b:=rQ) 4)) ?_;refine Fx.gK [] 63 4 [] [] (fun W M=>wT m1 (M.box (b:=rQ) 4)) ?_;refine Fx.aV [11,1] 14 40 [(52,Z I 2),(54,Z I 2),(55,au #[Z I x5,Z I y5])] [(8,#[Z I p0,Z I q0,Z I p1,Z I q1,Z I 0,Z I 0])] fun SQ=>?_;refine Fx.draw [14] [0,1,3,4,5,2,6,7,8,9] [4] [(13,Z I 2)] [(11,#[Z I x5,Z I y5])] ?_
 refine Fx.gK [14,4] 58 4 [(56,Z I 2),(61,au #[O b5,O b6])] [] (fun W M=>I2 (M.box (b:=rQ) 4)) ?_;refine Fx.gK [] 62 4 [] [] (fun W M=>oW r2 f2 (M.box (b:=rQ) 4)) ?_;refine Fx.gK [] 63 4 [] [] (fun W M=>wT m2 (M.box (b:=rQ) 4)) ?_;refine Fx.part 29 [11,2,7] [(68,ak (!(G2 == 0))),(52,Z I 3)] [(8,#[Z I p0,Z I q0,Z I p1,Z I q1,Z I p2,Z I q2])] ?_;refine Fx.splitB (fun hf1=>?_) (fun hf1=>?_)
 ·skip
  have hG:G2≠0:=by simpa using hf1
  refine Fx.draw [1] [0,1,2,3003,5004] [2] [] [] ?_;exact Fx.dQ (cs:=#[Z I 0,Z I 0,Z I 0,Z I 0,Z I 0,Z I 0]) (y:=Z I G2) 2 fF [7,5] [(2,#[Z I 0,Z I 0,Z I 0,Z I 0,Z I 0,Z I 0])] (fun W M=>by have HB:=M.below;first|exact ⟨fun h=>absurd h hG,fun _=>rfl,HB⟩|exact ⟨fun _=>rfl,fun h=>absurd hG h,HB⟩)
 ·skip
  have hG:G2=0:=by simpa using hf1
  exact Fx.dQ (cs:=#[Z I p0,Z I q0,Z I p1,Z I q1,Z I p2,Z I q2]) (y:=Z I 0) 2 fF [2,11,5] [(2,#[Z I p0,Z I q0,Z I p1,Z I q1,Z I p2,Z I q2])] (fun W M=>by have HB:=M.below;first|exact ⟨fun h=>absurd h hG,fun _=>rfl,HB⟩|exact ⟨fun _=>rfl,fun h=>absurd hG h,HB⟩)
theorem Dh {α:Type} {z:α} {E F:Int} {r:(Int × Int) × Int} {v:Int × Int} {k:Int × Int→α × Int} {R:α × Int} (e:∃ y,got E r=(y,F)∧(F=0→y=v)) (hk:(F=0→R=k v)∧(F≠0→R=(z,F))):(E=0→R=bL z r k)∧(E≠0→R=(z,E)):=by
 obtain ⟨y,e,hy⟩:=e;exact jX e ⟨fun h=>by rw [hy h];exact hk.1 h,hk.2⟩
theorem Xl {t v:(Int × Int) × (Int × Int) × (Int × Int)} {w:light.iC} {k:Int} (h:lN t w=(v,k)) (hk:k≠0):v=z3:=by
 unfold lN at h;split at h
 ·cases h;rfl
 ·split at h
  ·cases h;rfl
  ·unfold La at h
   iterate 16
    replace h:=EA h
    rcases h with h|⟨_,h⟩
    ·exact h
   cases h
   exact absurd rfl hk
theorem Ca {a1 a2 a3 a4 a5 a6:Int} {b1 b2 b3 b4 b5 b6:ByteArray} {v:(Int × Int) × (Int × Int) × (Int × Int)} {k:Int} (hb:lZ ⟨⟨b1,b2⟩,⟨b3,b4⟩,⟨b5,b6⟩⟩) (h:lN ((a1,a2),(a3,a4),(a5,a6)) ⟨⟨b1,b2⟩,⟨b3,b4⟩,⟨b5,b6⟩⟩=(v,k)) (w:World) :
  Calls Tryz.prog 35 #[au #[Z I a1,Z I a2,Z I a3,Z I a4,Z I a5,Z I a6],au #[O b1,O b2,O b3,O b4,O b5,O b6]] w (fun e w'=>e= ah (aD #[au #[Z I v.1.1,Z I v.1.2,Z I v.2.1.1,Z I v.2.1.2,Z I v.2.2.1,Z I v.2.2.2],Z I k])∧Below w.heap.size w w'):=by
 have hz:=Xl h;unfold lN at h;split at h
 ·rename_i h0;cases h
  exact Us rfl h0 w
 ·rename_i h0;have h1:nE ((a1,a2),(a3,a4),(a5,a6))=0:=Decidable.of_not_not h0;split at h
  ·rename_i h0;cases h
   exact Ur h1 hb rfl h0 w
  ·rename_i h0;have h2:light.mF ⟨⟨b1,b2⟩,⟨b3,b4⟩,⟨b5,b6⟩⟩=0:=Decidable.of_not_not h0;obtain ⟨⟨⟨x0,y0⟩,F0⟩,e0⟩:∃ z,got 0 (aW.kH (a1,a2) (16000000000000,16000000000000))=z:=⟨_,rfl⟩;obtain ⟨⟨⟨x1,y1⟩,F1⟩,e1⟩:∃ z,got F0 (aW.qw (x0,y0) 1 116)=z:=⟨_,rfl⟩;obtain ⟨⟨⟨x2,y2⟩,F2⟩,e2⟩:∃ z,got F1 (aW.qw (a3,a4) 1 500)=z:=⟨_,rfl⟩;obtain ⟨⟨⟨x3,y3⟩,F3⟩,e3⟩:∃ z,got F2 (aW.kH (x1,y1) (x2,y2))=z:=⟨_,rfl⟩;obtain ⟨⟨⟨x4,y4⟩,F4⟩,e4⟩:∃ z,got F3 (aW.qw (a5,a6) 1 200)=z:=⟨_,rfl⟩;obtain ⟨⟨⟨x5,y5⟩,F5⟩,e5⟩:∃ z,got F4 (aW.wH (x1,y1) (x4,y4))=z:=⟨_,rfl⟩;have z5:F5=0→F4=0:=fun h=>by subst h;exact (jC e5).1
   have z4:F4=0→F3=0:=fun h=>by subst h;exact (jC e4).1
   have z3':F3=0→F2=0:=fun h=>by subst h;exact (jC e3).1
   have z2:F2=0→F1=0:=fun h=>by subst h;exact (jC e2).1
   have k3:F3=0→aW.gM x3 y3=true:=fun h=>by subst h;exact aW.Qc (jC e3).2 rfl
   have k1:F1=0→aW.gM x1 y1=true:=fun h=>by subst h;exact aW.O5 (jC e1).2 rfl
   have k5:F5=0→aW.gM x5 y5=true:=fun h=>by subst h;exact aW.OV (jC e5).2 rfl
   obtain ⟨u0,v0,J0,i0,I0⟩:=xG F5 x3 y3 (fun h=>k3 (z4 (z5 h)));obtain ⟨⟨⟨s0,t0⟩,K0⟩,r0⟩:∃ z,got J0 (aW.eF ⟨b1,b2⟩)=z:=⟨_,rfl⟩;obtain ⟨⟨⟨p0,q0⟩,G0⟩,m0⟩:∃ z,got K0 (aW.uR (u0,v0) (s0,t0))=z:=⟨_,rfl⟩
   have n0:G0=0→F5=0:=fun h=>by
    subst h;obtain ⟨c1, -⟩:=jC m0;rw [c1] at r0;obtain ⟨c2, -⟩:=jC r0;obtain ⟨y,g, -⟩:=i0;rw [c2] at g;exact (jC g).1
   obtain ⟨u1,v1,J1,i1,I1⟩:=xG G0 x1 y1 (fun h=>k1 (z2 (z3' (z4 (z5 (n0 h))))));obtain ⟨⟨⟨s1,t1⟩,K1⟩,r1⟩:∃ z,got J1 (aW.eF ⟨b3,b4⟩)=z:=⟨_,rfl⟩;obtain ⟨⟨⟨p1,q1⟩,G1⟩,m1⟩:∃ z,got K1 (aW.uR (u1,v1) (s1,t1))=z:=⟨_,rfl⟩
   have n1:G1=0→G0=0:=fun h=>by
    subst h;obtain ⟨c1, -⟩:=jC m1;rw [c1] at r1;obtain ⟨c2, -⟩:=jC r1;obtain ⟨y,g, -⟩:=i1;rw [c2] at g;exact (jC g).1
   obtain ⟨u2,v2,J2,i2,I2⟩:=xG G1 x5 y5 (fun h=>k5 (n0 (n1 h)));obtain ⟨⟨⟨s2,t2⟩,K2⟩,r2⟩:∃ z,got J2 (aW.eF ⟨b5,b6⟩)=z:=⟨_,rfl⟩;obtain ⟨⟨⟨p2,q2⟩,G2⟩,m2⟩:∃ z,got K2 (aW.uR (u2,v2) (s2,t2))=z:=⟨_,rfl⟩
   have n2:G2=0→G1=0:=fun h=>by
    subst h;obtain ⟨c1, -⟩:=jC m2;rw [c1] at r2;obtain ⟨c2, -⟩:=jC r2;obtain ⟨y,g, -⟩:=i2;rw [c2] at g;exact (jC g).1
   have key:(if G2=0 then ((((p0,q0),(p1,q1),(p2,q2)),0):((Int × Int) × (Int × Int) × (Int × Int)) × Int) else (z3,G2))=La (a1,a2) (a3,a4) (a5,a6) ⟨⟨b1,b2⟩,⟨b3,b4⟩,⟨b5,b6⟩⟩:=by
    unfold La;rw [av8];simp only [BQ];have ch:∀ R X:((Int × Int) × (Int × Int) × (Int × Int)) × Int,((0:Int)=0→R=X)∧((0:Int)≠0→R=(z3,0))→R=X:=fun R X h=>h.1 rfl;refine ch _ _ ?_;exact jX e0 (jX e1 (jX e2 (jX e3 (jX e4 (jX e5 (Dh i0 (jX r0 (jX m0 (Dh i1 (jX r1 (jX m1 (Dh i2 (jX r2 (jX m2 (Zl G2)))))))))))))))
   have C:=Uq h1 hb h2 e0 e1 e2 e3 e4 e5 I0 r0 m0 I1 r1 m1 I2 r2 m2 w;have h3:La (a1,a2) (a3,a4) (a5,a6) ⟨⟨b1,b2⟩,⟨b3,b4⟩,⟨b5,b6⟩⟩=(v,k):=h;rw [← key] at h3
   by_cases hF:G2=0
   ·rw [if_pos hF] at h3;cases h3
    exact C.mono fun _ _ g=>⟨g.1 hF,g.2.2⟩
   ·rw [if_neg hF] at h3;cases h3
    exact C.mono fun _ _ g=>⟨g.2.1 hF,g.2.2⟩
end Go.Proofs.aQ
namespace Go.Proofs.aP
open Go Go.RowKit Go.SW Go.Num Go.Mem Go.Proofs Go.Dec Go.gB
def oP (s:ByteArray):ByteArray:=s.extract 0 (min (s.size:Int) 20).toNat
theorem DX (s:ByteArray):(oP s).size≤20:=by
 unfold oP;rw [ByteArray.size_extract];omega
theorem aa8 (s t:ByteArray) (w:World) :
  Calls Tryz.prog 41 #[au #[O s,O t]] w (fun e w'=>e= ah (au #[O (oP s),O (oP t)])∧Below w.heap.size w w'):=by
 have qs1:0≤min (s.size:Int) 20:=by omega
 have qs2:min (s.size:Int) 20≤s.size:=by omega
 have qt1:0≤min (t.size:Int) 20:=by omega
 have qt2:min (t.size:Int) 20≤t.size:=by omega
 unfold oP;go_enter Tryz.func41,Tryz.ntmps41
 go_wp2_with fail
 obtain ⟨oC,EW,hz,X1,X2⟩:=Lf w #[O s,O t] 26 #[O ⟨#[]⟩,O ⟨#[]⟩] 32;rw [EW];have hk2:=Bt (Below.refl _ _) hz;clear EW hz;obtain ⟨nK,nI,oq⟩:=X1.clf;refine aO [(.pure,0),(.read,1),(.pure,2),(.read,3),(.pure,4),(.pure,5),(.pure,6),(.pure,7),(.read,8),(.pure,9),(.read,10),(.pure,11),(.pure,12),(.pure,13),(.pure,14),(.fin,15)] zk zk zR zP ?_;refine zV ?_;refine dD [_] rfl (fun wf3 hf3=>?_);have hh3:Below oC.heap.size oC wf3:=aJ;clear hf3;clear nK nI oq;replace X1:=X1.bl hh3;replace X2:=X2.bl hh3;have hk4:=Bt hk2 hh3;clear hk2;clear hh3;obtain ⟨uE,uz,xW⟩:=X2.clf;have hres:=X2.out;have IU:=hres.cell;have IJ:=hres.free;go_wp2_with fail
 refine ig rfl rfl bI Tryz.underlying32 rfl zk ?_;exact ⟨rfl,aJ⟩
def SV (k:Int) (f:Fr) (t:light.iC):light.iC:=if k%3=0 then { t with x:=f } else if k%3=1 then { t with y:=f } else { t with z:=f }
theorem BZ (k:Int) (hk:0≤k∧k≤255) (s t:ByteArray) (s1 t1 s2 t2 s3 t3:ByteArray) (w:World) :
  Calls Tryz.prog 13 #[au #[Z .u8 k,O s,O t],au #[O s1,O t1,O s2,O t2,O s3,O t3]] w
   (fun e w'=>e= ah (SV k ⟨oP s,oP t⟩ ⟨⟨s1,t1⟩,⟨s2,t2⟩,⟨s3,t3⟩⟩).v∧Below w.heap.size w w'):=by
 have H1:=fun W=>aa8 s t W;generalize oP s=u at H1 ⊢;generalize oP t=v at H1 ⊢;have hm:k.tmod 3=k%3:=Int.tmod_eq_emod_of_nonneg hk.1;have hl:k%3=0∨k%3=1∨k%3=2:=by omega
 unfold SV
 rcases hl with hl|hl|hl
 ·rw [hl] at hm ⊢;refine Fx.door Tryz.func13 rfl (.nil w []) ?_;refine Fx.new [] 2 #[Z .u8 k,O s,O t] 28 [] [] fun fT=>?_;refine Fx.new [] 3 #[O s1,O t1,O s2,O t2,O s3,O t3] 34 [] [] fun fJ=>?_;refine Fx.aV [] 4 34 [] [] fun fF=>?_;refine Fx.draw [] (dF 8) [] [] [] ?_;refine Fx.part 3 [3] [(7,Z .u8 (Int.tmod k 3))] [] ?_;refine Fx.nX (Z .u8 0) (congrArg (Value.int .u8) hm) ?_;refine Fx.bJ [3] 10 [] [] H1 ?_;exact Fx.iy 2 fF [4,4,5] [(1,#[O u,O v,O s2,O t2,O s3,O t3]),(2,#[O u,O v,O s2,O t2,O s3,O t3])] (fun W M=>⟨rfl,M.below⟩)
 ·rw [hl] at hm ⊢;refine Fx.door Tryz.func13 rfl (.nil w []) ?_;refine Fx.new [] 2 #[Z .u8 k,O s,O t] 28 [] [] fun fT=>?_;refine Fx.new [] 3 #[O s1,O t1,O s2,O t2,O s3,O t3] 34 [] [] fun fJ=>?_;refine Fx.aV [] 4 34 [] [] fun fF=>?_;refine Fx.draw [] (dF 8) [] [] [] ?_;refine Fx.part 3 [3] [(7,Z .u8 (Int.tmod k 3))] [] ?_;refine Fx.nX (Z .u8 1) (congrArg (Value.int .u8) hm) ?_;refine Fx.bJ [3] 10 [] [] H1 ?_;exact Fx.iy 2 fF [4,4,5] [(1,#[O s1,O t1,O u,O v,O s3,O t3]),(2,#[O s1,O t1,O u,O v,O s3,O t3])] (fun W M=>⟨rfl,M.below⟩)
 ·rw [hl] at hm ⊢;refine Fx.door Tryz.func13 rfl (.nil w []) ?_;refine Fx.new [] 2 #[Z .u8 k,O s,O t] 28 [] [] fun fT=>?_;refine Fx.new [] 3 #[O s1,O t1,O s2,O t2,O s3,O t3] 34 [] [] fun fJ=>?_;refine Fx.aV [] 4 34 [] [] fun fF=>?_;refine Fx.draw [] (dF 8) [] [] [] ?_;refine Fx.part 3 [3] [(7,Z .u8 (Int.tmod k 3))] [] ?_;refine Fx.nX (Z .u8 2) (congrArg (Value.int .u8) hm) ?_;refine Fx.bJ [3] 10 [] [] H1 ?_;exact Fx.iy 2 fF [4,4,5] [(1,#[O s1,O t1,O s2,O t2,O u,O v]),(2,#[O s1,O t1,O s2,O t2,O u,O v])] (fun W M=>⟨rfl,M.below⟩)
end Go.Proofs.aP
namespace Go.Proofs.verdigrislaw24
open Go Go.RowKit Go.SW Go.Num Go.Mem Go.Proofs Go.Dec Go.gB Go.Proofs.lab Go.Proofs.fM Go.Proofs.aH Go.Proofs.aP
theorem vw {a b c:Fr} (ha:Fits a) (hb:Fits b) (hc:Fits c):lZ ⟨a,b,c⟩:=fun i hi=>by
 rcases i with _| _| _|i
 ·exact ha
 ·exact hb
 ·exact hc
 ·omega
theorem IK {n d:Int} (h1:n.natAbs≤1000000) (h2:1≤d) (h3:d≤1000000):Fits (Fr.of (q2 n d)):=by
 have e:jR 6=1000000:=by decide
 have hq:Hq 6 (q2 n d):=⟨n,d,by omega,by omega,by omega,rfl⟩;exact qE (hq.ok zo)
theorem Zq {x y z d:Int} (h1:x.natAbs≤1000000) (h2:y.natAbs≤1000000) (h3:z.natAbs≤1000000) (h4:1≤d) (h5:d≤1000000):lZ (tq x y z d):=vw (IK h1 h4 h5) (IK h2 h4 h5) (IK h3 h4 h5)
theorem KE (s t:ByteArray):Fits ⟨oP s,oP t⟩:=by
 have h1:=DX s;have h2:=DX t;exact ⟨by show (oP s).size≤_;omega,by show (oP t).size≤_;omega⟩
theorem Gv {k:Int} {f:Fr} {t:light.iC} (hf:Fits f) (ht:lZ t):lZ (SV k f t):=by
 have h0:Fits t.x:=ht 0 zo;have h1:Fits t.y:=ht 1 zo;have h2:Fits t.z:=ht 2 zo;unfold SV;split
 ·exact vw hf h1 h2
 ·split
  ·exact vw h0 hf h2
  ·exact vw h0 h1 hf
end Go.Proofs.verdigrislaw24
namespace Go.Proofs.aQ
open Go Go.RowKit Go.SW Go.Num Go.Mem Go.Proofs Go.gB Go.Fx
def nJ (n:Int):Rat:=(n:Rat) / ((100:Int):Rat)
theorem uX {n:Int} (h:n.natAbs≤12800):Hq 5 (nJ n):=⟨n,100,by omega,by decide,ay h zd,rfl⟩
theorem MU {n:Int} (h:n.natAbs≤12800) (w:World):Calls Tryz.prog 40 #[Z I n,Z I 100] w (fun e w'=>e= ah (au #[O (Fr.of (nJ n)).n,O (Fr.of (nJ n)).d])∧Below w.heap.size w w'):=by
 have h1:=aP.mE n 100 zo zo zo zo w
 have e:(nk n 100).1=Fr.of (nJ n):=by
  unfold nk wr;rw [if_neg zo];have hk:uQ ((n:Rat) / ((100:Int):Rat))=true:=(uX h).ok zo;rw [if_pos hk];rfl
 rw [e] at h1;exact h1
theorem GL (L A B:Int) (hL:0≤L∧L≤65535) (hA: -32768≤A∧A≤32767) (hB: -32768≤B∧B≤32767) (w:World) :
  Calls Tryz.prog 24 #[au #[Z .u16 L,Z .i16 A,Z .i16 B]] w (fun e w'=>e= ah (au #[O (Fr.of (nJ (Int.tmod L 10001))).n,O (Fr.of (nJ (Int.tmod L 10001))).d,O (Fr.of (nJ (Int.tmod A 12801))).n,O (Fr.of (nJ (Int.tmod A 12801))).d,O (Fr.of (nJ (Int.tmod B 12801))).n,O (Fr.of (nJ (Int.tmod B 12801))).d])∧Below w.heap.size w w'):=by
 have l1:=Int.tmod_lt_of_pos L (show 0<10001 by omega);have l2:=Int.tmod_nonneg (10001:Int) hL.1;have m1:=Int.tmod_lt_of_pos A (show 0<12801 by omega);have m2:=Int.lt_tmod_of_pos A (show 0<12801 by omega);have n1:=Int.tmod_lt_of_pos B (show 0<12801 by omega);have n2:=Int.lt_tmod_of_pos B (show 0<12801 by omega);have C1:=fun W=>MU (n:=Int.tmod L 10001) zo W;have C2:=fun W=>MU (n:=Int.tmod A 12801) zo W;have C3:=fun W=>MU (n:=Int.tmod B 12801) zo W;generalize Fr.of (nJ (Int.tmod L 10001))=x at *;generalize Fr.of (nJ (Int.tmod A 12801))=y at *;generalize Fr.of (nJ (Int.tmod B 12801))=z at *;obtain ⟨x1,x2⟩:=x;obtain ⟨y1,y2⟩:=y;obtain ⟨z1,z2⟩:=z;obtain ⟨L1,L2⟩:=hL;obtain ⟨A1,A2⟩:=hA;obtain ⟨B1,B2⟩:=hB;simp only at *;refine Fx.door Tryz.func24 rfl (.nil w []) ?_;refine Fx.new [] 1 #[Z .u16 L,Z .i16 A,Z .i16 B] 60 [] [] fun fT=>?_
 refine Fx.aV [] 2 34 [] [] fun fJ=>?_;refine Fx.draw [] [0,1,2,3,5,6,7,8,10,11,12,13,4,9,14,15,16] [] [] [] ?_;refine Fx.part 3 [3] [(5,Z I (I.wrap L))] [] ?_;refine Fx.nX (Z I (L)) (Fx.wrap_i64 zo zo) ?_;refine Fx.part 4 [3] [(10,Z I (I.wrap A)),(6,Z I (Int.tmod (L) 10001))] [] ?_;refine Fx.nX (Z I (A)) (Fx.wrap_i64 zo zo) ?_;refine Fx.part 4 [3] [(15,Z I (I.wrap B)),(11,Z I (Int.tmod (A) 12801))] [] ?_;refine Fx.nX (Z I (B)) (Fx.wrap_i64 zo zo) ?_;refine Fx.bJ [] 7 [(16,Z I (Int.tmod (B) 12801))] [] C1 ?_;refine Fx.bJ [] 12 [] [] C2 ?_;refine Fx.bJ [] 17 [] [] C3 ?_;exact Fx.iy 1 fJ [4] [(1,#[O x1,O x2,O y1,O y2,O z1,O z2])] (fun W M=>⟨rfl,M.below⟩)
end Go.Proofs.aQ
namespace Go.Proofs.aW
open Go Go.RowKit Go.SW Go.Num Go.Mem Go.Proofs Go.gB Go.Proofs.lab Go.Proofs.matrix
end Go.Proofs.aW
namespace Go.Proofs.aQ
open Go Go.RowKit Go.SW Go.Num Go.Mem Go.Proofs Go.gB Go.Fx Go.Proofs.lab Go.Proofs.matrix Go.Proofs.aS Go.Proofs.aW
theorem Wh (n:Int):nJ n=un (n*10000000000):=by
 unfold nJ un;rw [Rat.intCast_mul];have e:((1000000000000:Int):Rat)=((10000000000:Int):Rat)*((100:Int):Rat):=by decide+kernel
 have n1:((10000000000:Int):Rat)≠0:=by decide+kernel
 have n2:((100:Int):Rat)≠0:=by decide+kernel
 rw [e];generalize ((10000000000:Int):Rat)=a at *;generalize ((100:Int):Rat)=b at *
 grind
theorem NM {n:Int} (h:n.natAbs≤12800):aW.eF (Fr.of (nJ n))=((n*10000000000,n*10000000000),0):=by
 have hw:Wi (128*1000000000000) (nJ n):=by rw [Wh];exact av3 zo zo
 have e:aW.eF (Fr.of (nJ n))=jQ (nJ n) (nJ n):=by rw [sO];unfold aW.eF;rw [o9 ((uX h).ok zo)]
 rw [e];unfold jQ;rw [oZ,oZ,Wh,G9,← Rat.intCast_neg,Rat.floor_intCast,Rat.floor_intCast];unfold aW.gN;rw [Int.neg_neg,if_pos (IV zo zo zo)]
theorem wm {p:Rat} {k:Nat} (h:Hq k p) (hk:k<600):aH.Fits (Fr.of p):=aP.qE (h.ok hk)
theorem ZR (L A B m1 m2 m3:Int) (hL:0≤L∧L≤65535) (hA: -32768≤A∧A≤32767) (hB: -32768≤B∧B≤32767) (h1:0≤m1∧m1≤4294967295) (h2:0≤m2∧m2≤4294967295) (h3:0≤m3∧m3≤4294967295) :
  ∃ n1 n2 n3:Int,n1.natAbs≤12800∧n2.natAbs≤12800∧n3.natAbs≤12800∧∀ w,Calls Tryz.prog 20 #[au #[Z .u16 L,Z .i16 A,Z .i16 B,Z .u32 m1,Z .u32 m2,Z .u32 m3]] w (fun e w'=>e= ah (au #[Z I (wA n1 m1).1,Z I (wA n1 m1).2,Z I (wA n2 m2).1,Z I (wA n2 m2).2,Z I (wA n3 m3).1,Z I (wA n3 m3).2])∧Below w.heap.size w w'):=by
 have l1:=Int.tmod_lt_of_pos L (show 0<10001 by omega);have l2:=Int.tmod_nonneg (10001:Int) hL.1;have a1:=Int.tmod_lt_of_pos A (show 0<12801 by omega);have a2:=Int.lt_tmod_of_pos A (show 0<12801 by omega);have b1:=Int.tmod_lt_of_pos B (show 0<12801 by omega);have b2:=Int.lt_tmod_of_pos B (show 0<12801 by omega);have R:=fun W=>GL L A B hL hA hB W;generalize Int.tmod L 10001=n1 at *;generalize Int.tmod A 12801=n2 at *;generalize Int.tmod B 12801=n3 at *;refine ⟨n1,n2,n3,by omega,by omega,by omega,fun w=>?_⟩;have g:∀ n:Int,n.natAbs≤12800→got 0 (aW.eF (Fr.of (nJ n)))=((n*10000000000,n*10000000000),0):=fun n h=>by rw [NM h];rfl
 have e1:=g n1 zo;have e2:=g n2 zo;have e3:=g n3 zo;have f1:=wm (uX (n:=n1) zo) zo;have f2:=wm (uX (n:=n2) zo) zo;have f3:=wm (uX (n:=n3) zo) zo;unfold wA;have z1: -128000000000000≤n1*10000000000∧n1*10000000000≤128000000000000:=by omega
 have z2: -128000000000000≤n2*10000000000∧n2*10000000000≤128000000000000:=by omega
 have z3: -128000000000000≤n3*10000000000∧n3*10000000000≤128000000000000:=by omega
 generalize n1*10000000000=p at *;generalize n2*10000000000=q at *;generalize n3*10000000000=r at *;generalize Fr.of (nJ n1)=x at *;generalize Fr.of (nJ n2)=y at *;generalize Fr.of (nJ n3)=z at *;obtain ⟨x1,x2⟩:=x;obtain ⟨y1,y2⟩:=y;obtain ⟨u1,u2⟩:=z;clear g l1 l2 a1 a2 b1 b2;simp only at *;refine Fx.door Tryz.func20 rfl (.nil w []) ?_;refine Fx.new [] 1 #[Z .u16 L,Z .i16 A,Z .i16 B,Z .u32 m1,Z .u32 m2,Z .u32 m3] 64 [] [] fun fT=>?_;refine Fx.aV [] 2 42 [] [] fun fJ=>?_;refine Fx.bJ [3] 10 [] [] R ?_;refine Fx.aV [] 3 34 [] [] fun fF=>?_;refine Fx.aV [5] 4 100 [] [(2,#[O x1,O x2,O y1,O y2,O u1,O u2])] fun uF=>?_;refine Fx.aV [] 5 42 [] [] fun rQ=>?_;refine Fx.gK [1,5] 18 3 [(6,Z I 0)] [] (fun W M=>oW e1 f1 (M.box (b:=uF) 3)) ?_;refine Fx.aV [] 7 40 [] [] fun P9=>?_
 refine Fx.draw [8] (dF 20) [] [] [(5,#[Z I p,Z I p])] ?_;refine Fx.part 8 [8,3] [(26,Z I (I.wrap m1)),(19,Z I 0),(21,Z I p)] [] ?_;refine Fx.nX (Z I (m1)) (Fx.wrap_i64 zo zo) ?_;refine Fx.part 1 [] [(27,Z I (I.wrap (p - (m1))))] [] ?_;refine Fx.nX (Z I (p - (m1))) (Fx.wrap_i64 zo zo) ?_;refine Fx.part 7 [8,3] [(34,Z I (I.wrap m1)),(29,Z I p)] [] ?_;refine Fx.nX (Z I (m1)) (Fx.wrap_i64 zo zo) ?_;refine Fx.part 1 [] [(35,Z I (I.wrap (p+(m1))))] [] ?_;refine Fx.nX (Z I (p+(m1))) (Fx.wrap_i64 zo zo) ?_;refine Fx.gK [7,1,5] 18 3 [(6,Z I 1)] [(4,#[Z I (p - (m1)),Z I (p+(m1)),Z I 0,Z I 0,Z I 0,Z I 0])] (fun W M=>oW e2 f2 (M.box (b:=uF) 3)) ?_;refine Fx.aV [] 7 40 [] [] fun P8=>?_
 refine Fx.draw [9] (dF 20) [] [] [(6,#[Z I q,Z I q])] ?_;refine Fx.part 8 [9,3] [(26,Z I (I.wrap m2)),(19,Z I 1),(21,Z I q)] [] ?_;refine Fx.nX (Z I (m2)) (Fx.wrap_i64 zo zo) ?_;refine Fx.part 1 [] [(27,Z I (I.wrap (q - (m2))))] [] ?_;refine Fx.nX (Z I (q - (m2))) (Fx.wrap_i64 zo zo) ?_;refine Fx.part 7 [9,3] [(34,Z I (I.wrap m2)),(29,Z I q)] [] ?_;refine Fx.nX (Z I (m2)) (Fx.wrap_i64 zo zo) ?_;refine Fx.part 1 [] [(35,Z I (I.wrap (q+(m2))))] [] ?_;refine Fx.nX (Z I (q+(m2))) (Fx.wrap_i64 zo zo) ?_;refine Fx.gK [7,1,5] 18 3 [(6,Z I 2)] [(4,#[Z I (p - (m1)),Z I (p+(m1)),Z I (q - (m2)),Z I (q+(m2)),Z I 0,Z I 0])] (fun W M=>oW e3 f3 (M.box (b:=uF) 3)) ?_;refine Fx.aV [] 7 40 [] [] fun Xi=>?_
 refine Fx.draw [10] (dF 20) [] [] [(7,#[Z I r,Z I r])] ?_;refine Fx.part 8 [10,3] [(26,Z I (I.wrap m3)),(19,Z I 2),(21,Z I r)] [] ?_;refine Fx.nX (Z I (m3)) (Fx.wrap_i64 zo zo) ?_;refine Fx.part 1 [] [(27,Z I (I.wrap (r - (m3))))] [] ?_;refine Fx.nX (Z I (r - (m3))) (Fx.wrap_i64 zo zo) ?_;refine Fx.part 7 [10,3] [(34,Z I (I.wrap m3)),(29,Z I r)] [] ?_;refine Fx.nX (Z I (m3)) (Fx.wrap_i64 zo zo) ?_;refine Fx.part 1 [] [(35,Z I (I.wrap (r+(m3))))] [] ?_;refine Fx.nX (Z I (r+(m3))) (Fx.wrap_i64 zo zo) ?_
 exact Fx.iy 1 fJ [7,2,7,4] [(1,#[Z I (p - (m1)),Z I (p+(m1)),Z I (q - (m2)),Z I (q+(m2)),Z I (r - (m3)),Z I (r+(m3))]),(4,#[Z I (p - (m1)),Z I (p+(m1)),Z I (q - (m2)),Z I (q+(m2)),Z I (r - (m3)),Z I (r+(m3))])] (fun W M=>⟨rfl,M.below⟩)
end Go.Proofs.aQ
