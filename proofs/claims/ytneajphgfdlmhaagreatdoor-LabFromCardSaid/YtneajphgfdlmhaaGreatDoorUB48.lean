/- Lemmas for the proof. No condition. -/
import Derived.Test.YtneajphgfdlmhaaGreatDoorUB47
set_option linter.unusedVariables false
set_option linter.unusedSimpArgs false
set_option maxRecDepth 100000
set_option maxHeartbeats 16000000
open Bool renaming and_eq_true → aG
open Go.Ending renaming returned → ah
open Go.IntKind renaming i64 → I
open Go.Value renaming agg → au, bool → ak, int → Z, slice → aj, string → O, tuple → aD
open List renaming all_cons → fO, range → dF
open Nat renaming eq_zero_or_pos → aX, lt_of_le_of_lt → gH, pow_le_pow_right → bH
namespace Go.Proofs.aQ
open Go Go.RowKit Go.SW Go.Num Go.Mem Go.Proofs Go.gB Go.Fx Go.Proofs.aH Go.Proofs.aP Go.Proofs.lab
theorem Xa (t:light.iC):rF t.list=rC t:=by
 unfold rF light.iC.list rC gB.A8;simp only [fO,List.all_nil]
 by_cases h1:(rd t.x).isSome=true<;>by_cases h2:(rd t.y).isSome=true<;>by_cases h3:(rd t.z).isSome=true<;>simp [h1,h2,h3]
theorem Ao {a1 a2 a3 a4 a5 a6:ByteArray} {k:Int} (hf:lZ ⟨⟨a1,a2⟩,⟨a3,a4⟩,⟨a5,a6⟩⟩) (hk:rC ⟨⟨a1,a2⟩,⟨a3,a4⟩,⟨a5,a6⟩⟩=k) (W:World) (b:Nat) (X:aB W b #[O a1,O a2,O a3,O a4,O a5,O a6] 32) :
  Calls Tryz.prog 85 #[aj (some ⟨b,0,none⟩) 3 3] W (fun e w'=>e= ah (Z I k)∧Below W.heap.size W w'):=by
 have:=aP.Lr _ _ _ W (light.iC.frs (t:=⟨⟨a1,a2⟩,⟨a3,a4⟩,⟨a5,a6⟩⟩) X) hf.mem;rw [Xa,hk] at this;exact this
theorem UO {r:Fr × Int} {g:Fr→Fr × Int} {E T F:Int} {p q:Fr} (h:gu E r=(p,T)) (k:gu T (g p)=(q,F)):gu E (bL Fr.no r fun s=>bL Fr.no (g s) qx)=(q,F):=by
 by_cases hE:E=0
 ·subst hE;obtain ⟨g1,g2,g3⟩:=yO h
  by_cases hT:T=0
  ·subst hT
   have e:bL Fr.no r (fun s=>bL Fr.no (g s) qx)=bL Fr.no (g p) qx:=by
    unfold bL;rw [if_pos g1,g2 rfl]
   rw [e,← k];generalize g p=z;obtain ⟨v,j⟩:=z;unfold bL;rw [jY,jY]
   by_cases hj:j=0
   ·subst hj;rfl
   ·simp only [if_neg hj]
  ·have e:bL Fr.no r (fun s=>bL Fr.no (g s) qx)=(Fr.no,T):=by
    unfold bL;rw [if_neg (by rw [g1];exact hT),g1]
   rw [jm hT] at k;rw [e,jY,if_neg hT];exact k
 ·rw [jm hE] at h;cases h
  rw [jm hE] at k;rw [jm hE];exact k
theorem ap9 {s t m1 m2 x y:ByteArray} {c c2 S1 k:Int} (hc:rE ⟨s,t⟩ k6=(c,c2)) (hp:0<c) (h1:gu 0 (kM ⟨s,t⟩ ⟨s,t⟩)=(⟨m1,m2⟩,S1)) (h2:gu S1 (kM ⟨s,t⟩ ⟨m1,m2⟩)=(⟨x,y⟩,k)) (hf:Fits ⟨s,t⟩) (w:World) :
  Calls Tryz.prog 105 #[au #[O s,O t]] w (fun e w'=>e= ah (aD #[au #[O x,O y],Z I k])∧Below w.heap.size w w'):=by
 have CC:∀ W,Calls Tryz.prog 136 #[au #[O s,O t],au #[O ⟨#[54]⟩,O ⟨#[50,57]⟩]] W (fun e w'=>e= ah (aD #[Z I c,Z I c2])∧Below W.heap.size W w'):=fun W=>by
  have:=aH.E9 ⟨s,t⟩ k6 W hf PV;rw [hc] at this;exact this
 have hm:Fits ⟨m1,m2⟩:=jo (vo _ _) h1;refine Fx.door Tryz.func105 rfl (.nil w []) ?_;refine Fx.new [] 1 #[O s,O t] 32 [] [] fun fT=>?_;refine Fx.aV [] 2 32 [] [] fun fJ=>?_;refine Fx.aV [] 4 130 [] [] fun fF=>?_;refine Fx.draw [] [0,1,2,3,4,5,5006,5007] [] [] [] ?_;refine Fx.call [3] 10 [(9,au #[O s,O t])] [] (fun W M=>ad5 _) ?_;refine Fx.bJ [] 11 [] [] CC ?_;refine Fx.aV [] 7 32 [(5,Z I c)] [] fun uF=>?_;refine Fx.part 7 [] [(15,ak (decide (0<c)))] [] ?_;refine Fx.kF true (decide_eq_true hp) ?_;refine Fx.draw [1] (dF 6) [2] [] [] ?_;refine Fx.gK [3,3,3] 19 2 [(16,au #[O s,O t])] [] (fun W M=>aP.wT h1 hf hf (M.box (b:=fF) 2)) ?_;refine Fx.gK [] 20 2 [] [] (fun W M=>aP.wT h2 hf hm (M.box (b:=fF) 2)) ?_
 refine Fx.draw [6] [0,1,2,3003,5004] [1] [] [(3,#[O x,O y])] ?_;exact Fx.dQ 1 fJ [6,5,4] [(1,#[O x,O y])] (fun W M=>⟨rfl,M.below⟩)
theorem XF {s t m1 m2 x y:ByteArray} {c c2 S1 k:Int} (hc:rE ⟨s,t⟩ k6=(c,c2)) (hp:¬ 0<c) (h1:gu 0 (rT ⟨s,t⟩ k4)=(⟨m1,m2⟩,S1)) (h2:gu S1 (kM Bl ⟨m1,m2⟩)=(⟨x,y⟩,k)) (hf:Fits ⟨s,t⟩) (w:World) :
  Calls Tryz.prog 105 #[au #[O s,O t]] w (fun e w'=>e= ah (aD #[au #[O x,O y],Z I k])∧Below w.heap.size w w'):=by
 have CC:∀ W,Calls Tryz.prog 136 #[au #[O s,O t],au #[O ⟨#[54]⟩,O ⟨#[50,57]⟩]] W (fun e w'=>e= ah (aD #[Z I c,Z I c2])∧Below W.heap.size W w'):=fun W=>by
  have:=aH.E9 ⟨s,t⟩ k6 W hf PV;rw [hc] at this;exact this
 have hm:Fits ⟨m1,m2⟩:=jo (Kz _ _) h1;refine Fx.door Tryz.func105 rfl (.nil w []) ?_;refine Fx.new [] 1 #[O s,O t] 32 [] [] fun fT=>?_;refine Fx.aV [] 2 32 [] [] fun fJ=>?_;refine Fx.aV [] 4 130 [] [] fun fF=>?_;refine Fx.draw [] [0,1,2,3,4,5,5006,5007] [] [] [] ?_;refine Fx.call [3] 10 [(9,au #[O s,O t])] [] (fun W M=>ad5 _) ?_;refine Fx.bJ [] 11 [] [] CC ?_;refine Fx.aV [] 7 32 [(5,Z I c)] [] fun uF=>?_;refine Fx.part 7 [] [(15,ak (decide (0<c)))] [] ?_;refine Fx.kF false (decide_eq_false hp) ?_;refine Fx.draw [2] [1,0,2,3,4,5] [2] [] [] ?_;refine Fx.call [3] 21 [(22,au #[O s,O t])] [] (fun W M=>Z8 _) ?_;refine Fx.call [] 23 [] [] (fun W M=>aC4 _) ?_;refine Fx.gK [] 24 2 [] [] (fun W M=>aP.Qh h1 hf Zr (M.box (b:=fF) 2)) ?_
 refine Fx.gK [] 25 2 [] [] (fun W M=>aP.wT h2 SA hm (M.box (b:=fF) 2)) ?_;refine Fx.draw [6] [0,1,2,3003,5004] [1] [] [(3,#[O x,O y])] ?_;exact Fx.dQ 1 fJ [6,5,4] [(1,#[O x,O y])] (fun W M=>⟨rfl,M.below⟩)
theorem sj {α:Type} (r:α × Int) (f:α→Fr × Int):gu 0 (bL Fr.no r f)=if r.2=0 then gu 0 (f r.1) else (zF,r.2):=by
 unfold bL;split
 ·rfl
 ·rename_i h;unfold gu;rw [if_pos rfl,if_neg h]
theorem Sr (r:Fr × Int):gu 0 (bL Fr.no r qx)=gu 0 r:=by
 obtain ⟨v,k⟩:=r;rw [sj,jY (v,k)]
 by_cases h:k=0
 ·rw [if_pos h,if_pos h];rfl
 ·rw [if_neg h,if_neg h]
theorem ah1 {q:Rat} (h:uQ (q^3)=true):uQ (q*q)=true:=by
 have e:q*q=q^2:=by rw [Rat.pow_succ,Rat.pow_succ,Rat.pow_zero,Rat.one_mul]
 rw [e];unfold uQ kS at *;rw [Rat.num_pow,Rat.den_pow,Int.natAbs_pow] at *;generalize jR 600=X at *;rw [aG,decide_eq_true_iff,decide_eq_true_iff] at *
 have m:∀ n:Nat,n^3<X→n^2<X:=fun n hn=>by
  rcases aX n with h0|h0
  ·subst h0;exact gH (Nat.zero_le _) hn
  ·exact gH (bH h0 zo) hn
 exact ⟨m _ h.1,m _ h.2⟩
theorem Ry {f m x:Fr} {S k:Int} {q:Rat} (hr:rd f=some q) (h1:gu 0 (kM f f)=(m,S)) (h2:gu S (kM f m)=(x,k)):gu 0 (Go.Proofs.Ie f 3)=(x,k):=by
 have e1:kM f f=wr (q*q):=lM hr hr;have e3:Go.Proofs.Ie f 3=wr (q^3):=by unfold Go.Proofs.Ie;rw [hr]
 have ec:q*(q*q)=q^3:=by rw [Rat.pow_succ,Rat.pow_succ,Rat.pow_succ,Rat.pow_zero,Rat.one_mul,Rat.mul_assoc]
 rw [e1] at h1;rw [e3]
 by_cases hk:uQ (q*q)=true
 ·have ew:wr (q*q)=(Fr.of (q*q),0):=if_pos hk;rw [ew,jY] at h1;cases h1
  have e2:kM f (Fr.of (q*q))=wr (q^3):=by rw [← ec];exact lM hr (o9 hk)
  rw [← e2];exact h2
 ·have ew:wr (q*q)=(Fr.no,6):=if_neg hk;rw [ew,jY,if_neg zd] at h1;cases h1
  rw [jm zd] at h2;cases h2
  have e2:wr (q^3)=(Fr.no,6):=if_neg (fun h=>hk (ah1 h));rw [e2,jY,if_neg zd]
theorem Lm {s t x y:ByteArray} {k:Int} (h:gu 0 (gJ ⟨s,t⟩)=(⟨x,y⟩,k)) (hf:Fits ⟨s,t⟩) (w:World) :
  Calls Tryz.prog 105 #[au #[O s,O t]] w (fun e w'=>e= ah (aD #[au #[O x,O y],Z I k])∧Below w.heap.size w w'):=by
 unfold gJ at h;rw [sj,ab8] at h;simp only [if_true] at h;obtain ⟨⟨c,c2⟩,hc⟩:∃ z,rE ⟨s,t⟩ k6=z:=⟨_,rfl⟩;have ha:rJ ⟨s,t⟩ k6=if c2=0 then (decide (0<c),0) else (false,c2):=by unfold rJ bL;rw [hc];rfl
 have k1:rd k6=some ((6:Int) / (29:Int):Rat):=by
  have:k6=Fr.of ((6:Int) / (29:Int):Rat):=by decide+kernel
  rw [this];exact o9 (by decide+kernel)
 obtain ⟨⟨⟨m1,m2⟩,S1⟩,h1⟩:∃ z,gu 0 (kM ⟨s,t⟩ ⟨s,t⟩)=z:=⟨_,rfl⟩;obtain ⟨⟨⟨x2,y2⟩,k2⟩,h2⟩:∃ z,gu S1 (kM ⟨s,t⟩ ⟨m1,m2⟩)=z:=⟨_,rfl⟩;obtain ⟨⟨⟨d1,d2⟩,S3⟩,h3⟩:∃ z,gu 0 (rT ⟨s,t⟩ k4)=z:=⟨_,rfl⟩;obtain ⟨⟨⟨x4,y4⟩,k4'⟩,h4⟩:∃ z,gu S3 (kM Bl ⟨d1,d2⟩)=z:=⟨_,rfl⟩;rw [sj,ha] at h;unfold rE at hc;rw [k1] at hc;cases hr:rd ⟨s,t⟩ with
 | none =>
  rw [hr] at hc;cases hc
  rw [if_neg (by decide:¬ ((20:Int)=0))] at h;rw [if_neg (by decide:¬ (((false,20):Bool × Int).2=0))] at h;cases h
  have e:rT ⟨s,t⟩ k4=(Fr.no,20):=pY hr;rw [e,jY,if_neg zd] at h3;cases h3
  rw [jm zd] at h4;cases h4
  refine XF (c:=0) (c2:=20) ?_ zd (by rw [e,jY,if_neg zd]) (jm zd _) hf w;unfold rE;rw [k1,hr]
 | some q =>
  rw [hr] at hc;cases hc
  rw [if_pos rfl] at h;simp only [if_true] at h;have hcc:rE ⟨s,t⟩ k6=(qL q ((6:Int) / (29:Int):Rat),0):=by unfold rE;rw [k1,hr]
  by_cases hp:0<qL q ((6:Int) / (29:Int):Rat)
  ·rw [decide_eq_true hp] at h;simp only [cond_true] at h;rw [Sr,Ry hr h1 h2] at h;cases h
   exact ap9 hcc hp h1 h2 hf w
  ·rw [decide_eq_false hp] at h;simp only [cond_false] at h;rw [sj,Pv] at h;simp only [if_true] at h;rw [sj,ab9] at h;simp only [if_true] at h;rw [UO h3 (g:=fun d=>kM Bl d) h4] at h;cases h
   exact XF hcc hp h3 h4 hf w
theorem Dg {r:Fr × Int} {E J C:Int} {p g:Fr} (h:gu 0 r=(p,J)) (k:gu E (p,J)=(g,C)):gu E r=(g,C):=by
 by_cases hE:E=0
 ·subst hE;obtain ⟨g1,g2,g3⟩:=yO h;rw [← k,jY,jY];simp only
  by_cases hJ:J=0
  ·subst hJ;rw [if_pos g1,if_pos rfl,g2 rfl]
  ·rw [if_neg (by rw [g1];exact hJ),if_neg hJ,g1]
 ·rw [jm hE] at k ⊢;exact k
theorem vg {E:Int} {r:Fr × Int} {x:Fr} (h:gu E r=(x,0)):E=0∧r=(x,0):=by
 by_cases hE:E=0
 ·subst hE;obtain ⟨g1,g2,g3⟩:=yO h;exact ⟨rfl,Prod.ext (g2 rfl) g1⟩
 ·rw [jm hE] at h;cases h
  exact absurd rfl hE
theorem Io {a b x:Fr} (h:kM a b=(x,0)):iK x=((iK x).1,0):=by
 unfold kM bin at h;split at h
 ·rename_i p q _ _
  change wr (p*q)=(x,0) at h
  unfold wr at h;split at h
  ·rename_i hk;cases h
   unfold iK;rw [o9 hk]
  ·cases h
 ·cases h
def Ah (B c0 c1 c2:Int) (o:light.iC):light.iC × Int:=if B=0 then (if c0<0 then (t0,9) else if c1<0 then (t0,9) else if c2<0 then (t0,9) else (o,0)) else (t0,B)
theorem wS {B A c0 c1 c2:Int} {o:light.iC} {res:light.iC × Int} (h:res=Ah B c0 c1 c2 o) (q:A≠0→B=A) (H:(!(A == 0))=true):Ending.returned (aD #[au #[O ⟨#[]⟩,O ⟨#[]⟩,O ⟨#[]⟩,O ⟨#[]⟩,O ⟨#[]⟩,O ⟨#[]⟩],Z I A])=Ending.returned (aD #[au #[O res.1.x.n,O res.1.x.d,O res.1.y.n,O res.1.y.d,O res.1.z.n,O res.1.z.d],Z I res.2]):=by
 have hA:A≠0:=by simpa using H
 have hB:=q hA;subst hB;rw [h];unfold Ah;rw [if_neg hA];rfl
theorem fl1 {B c0 c1 c2:Int} {o:light.iC} {res:light.iC × Int} (h:res=Ah B c0 c1 c2 o) (H:(!(B == 0))=false) (L:decide (c0<0)=true):Ending.returned (aD #[au #[O ⟨#[]⟩,O ⟨#[]⟩,O ⟨#[]⟩,O ⟨#[]⟩,O ⟨#[]⟩,O ⟨#[]⟩],Z I 9])=Ending.returned (aD #[au #[O res.1.x.n,O res.1.x.d,O res.1.y.n,O res.1.y.d,O res.1.z.n,O res.1.z.d],Z I res.2]):=by
 have hB:B=0:=by simpa using H
 rw [h];unfold Ah;rw [if_pos hB,if_pos (of_decide_eq_true L)];rfl
theorem fl2 {B c0 c1 c2:Int} {o:light.iC} {res:light.iC × Int} (h:res=Ah B c0 c1 c2 o) (H:(!(B == 0))=false) (L0:decide (c0<0)=false) (L:decide (c1<0)=true):Ending.returned (aD #[au #[O ⟨#[]⟩,O ⟨#[]⟩,O ⟨#[]⟩,O ⟨#[]⟩,O ⟨#[]⟩,O ⟨#[]⟩],Z I 9])=Ending.returned (aD #[au #[O res.1.x.n,O res.1.x.d,O res.1.y.n,O res.1.y.d,O res.1.z.n,O res.1.z.d],Z I res.2]):=by
 have hB:B=0:=by simpa using H
 rw [h];unfold Ah;rw [if_pos hB,if_neg (of_decide_eq_false L0),if_pos (of_decide_eq_true L)];rfl
theorem fl3 {B c0 c1 c2:Int} {o:light.iC} {res:light.iC × Int} (h:res=Ah B c0 c1 c2 o) (H:(!(B == 0))=false) (L0:decide (c0<0)=false) (L1:decide (c1<0)=false) (L:decide (c2<0)=true):Ending.returned (aD #[au #[O ⟨#[]⟩,O ⟨#[]⟩,O ⟨#[]⟩,O ⟨#[]⟩,O ⟨#[]⟩,O ⟨#[]⟩],Z I 9])=Ending.returned (aD #[au #[O res.1.x.n,O res.1.x.d,O res.1.y.n,O res.1.y.d,O res.1.z.n,O res.1.z.d],Z I res.2]):=by
 have hB:B=0:=by simpa using H
 rw [h];unfold Ah;rw [if_pos hB,if_neg (of_decide_eq_false L0),if_neg (of_decide_eq_false L1),if_pos (of_decide_eq_true L)];rfl
theorem fl4 {B c0 c1 c2:Int} {o0 p0 o1 p1 o2 p2:ByteArray} {res:light.iC × Int} (h:res=Ah B c0 c1 c2 ⟨⟨o0,p0⟩,⟨o1,p1⟩,⟨o2,p2⟩⟩) (H:(!(B == 0))=false) (L0:decide (c0<0)=false) (L1:decide (c1<0)=false) (L2:decide (c2<0)=false):Ending.returned (aD #[au #[O o0,O p0,O o1,O p1,O o2,O p2],Z I 0])=Ending.returned (aD #[au #[O res.1.x.n,O res.1.x.d,O res.1.y.n,O res.1.y.d,O res.1.z.n,O res.1.z.d],Z I res.2]):=by
 have hB:B=0:=by simpa using H
 rw [h];unfold Ah;rw [if_pos hB,if_neg (of_decide_eq_false L0),if_neg (of_decide_eq_false L1),if_neg (of_decide_eq_false L2)]
theorem Ja {a1 a2 a3 a4 a5 a6 b1 b2 b3 b4 b5 b6:ByteArray} {k:Int} (ha:lZ ⟨⟨a1,a2⟩,⟨a3,a4⟩,⟨a5,a6⟩⟩) (hk:rC ⟨⟨a1,a2⟩,⟨a3,a4⟩,⟨a5,a6⟩⟩=k) (h0:k≠0) (w:World) :
  Calls Tryz.prog 33 #[au #[O a1,O a2,O a3,O a4,O a5,O a6],au #[O b1,O b2,O b3,O b4,O b5,O b6]] w (fun e w'=>e= ah (aD #[au #[O ⟨#[]⟩,O ⟨#[]⟩,O ⟨#[]⟩,O ⟨#[]⟩,O ⟨#[]⟩,O ⟨#[]⟩],Z I k])∧Below w.heap.size w w'):=by
 refine Fx.door Tryz.func33 rfl (.nil w []) ?_;refine Fx.new [] 2 #[O a1,O a2,O a3,O a4,O a5,O a6] 34 [] [] fun fT=>?_;refine Fx.new [] 3 #[O b1,O b2,O b3,O b4,O b5,O b6] 34 [] [] fun fJ=>?_;refine Fx.aV [] 4 34 [] [] fun fF=>?_;refine Fx.newS [3,3,3] 24 3 3 #[O a1,O a2,O a3,O a4,O a5,O a6] 32 [] [] fun uF=>?_;refine Fx.call [] 25 [] [] (fun W M=>Ao ha hk _ _ (M.box (b:=uF) 3)) ?_;refine Fx.part 7 [] [(27,ak (!(k == 0))),(6,Z I k)] [] ?_;refine Fx.kF true (by simp [h0]) ?_;exact Fx.dQ 2 fF [1,5] [(2,#[O ⟨#[]⟩,O ⟨#[]⟩,O ⟨#[]⟩,O ⟨#[]⟩,O ⟨#[]⟩,O ⟨#[]⟩])] (fun W M=>⟨rfl,M.below⟩)
theorem I9 {a1 a2 a3 a4 a5 a6 b1 b2 b3 b4 b5 b6:ByteArray} {k:Int} (ha:lZ ⟨⟨a1,a2⟩,⟨a3,a4⟩,⟨a5,a6⟩⟩) (hb:lZ ⟨⟨b1,b2⟩,⟨b3,b4⟩,⟨b5,b6⟩⟩) (hk:rC ⟨⟨a1,a2⟩,⟨a3,a4⟩,⟨a5,a6⟩⟩=0) (hs:light.mF ⟨⟨b1,b2⟩,⟨b3,b4⟩,⟨b5,b6⟩⟩=k) (h0:k≠0) (w:World) :
  Calls Tryz.prog 33 #[au #[O a1,O a2,O a3,O a4,O a5,O a6],au #[O b1,O b2,O b3,O b4,O b5,O b6]] w (fun e w'=>e= ah (aD #[au #[O ⟨#[]⟩,O ⟨#[]⟩,O ⟨#[]⟩,O ⟨#[]⟩,O ⟨#[]⟩,O ⟨#[]⟩],Z I k])∧Below w.heap.size w w'):=by
 have HS:∀ W,Calls Tryz.prog 54 #[au #[O b1,O b2,O b3,O b4,O b5,O b6]] W (fun e w'=>e= ah (Z I k)∧Below W.heap.size W w'):=fun W=>hs ▸ aP.oU ⟨⟨b1,b2⟩,⟨b3,b4⟩,⟨b5,b6⟩⟩ W hb;refine Fx.door Tryz.func33 rfl (.nil w []) ?_;refine Fx.new [] 2 #[O a1,O a2,O a3,O a4,O a5,O a6] 34 [] [] fun fT=>?_;refine Fx.new [] 3 #[O b1,O b2,O b3,O b4,O b5,O b6] 34 [] [] fun fJ=>?_;refine Fx.aV [] 4 34 [] [] fun fF=>?_;refine Fx.newS [3,3,3] 24 3 3 #[O a1,O a2,O a3,O a4,O a5,O a6] 32 [] [] fun uF=>?_;refine Fx.call [] 25 [] [] (fun W M=>Ao ha hk _ _ (M.box (b:=uF) 3)) ?_;refine Fx.bJ [2,4] 31 [] [] HS ?_;refine Fx.part 7 [] [(33,ak (!(k == 0))),(7,Z I k)] [] ?_;refine Fx.kF true (by simp [h0]) ?_
 exact Fx.dQ 2 fF [1,5] [(2,#[O ⟨#[]⟩,O ⟨#[]⟩,O ⟨#[]⟩,O ⟨#[]⟩,O ⟨#[]⟩,O ⟨#[]⟩])] (fun W M=>⟨rfl,M.below⟩)
theorem DJ {s t x y:ByteArray} {k:Int} (h:gu 0 (gJ ⟨s,t⟩)=(⟨x,y⟩,k)):Fits ⟨x,y⟩:=by
 refine jo ?_ h;unfold gJ
 have hb:∀ {α:Type} (r:α × Int) (f:α→Fr × Int),(∀ x,Fits (f x).1)→Fits (bL Fr.no r f).1:=fun r f hf=>by
  unfold bL;split
  ·exact hf _
  ·exact yR
 have ht:∀ r:Fr × Int,Fits r.1→Fits (bL Fr.no r qx).1:=fun r hr=>by
  unfold bL;split
  ·exact hr
  ·exact yR
 refine hb _ _ fun _=>hb _ _ fun c=>?_;cases c
 ·simp only [cond_false];refine hb _ _ fun _=>hb _ _ fun _=>hb _ _ fun _=>ht _ ?_;exact vo _ _
 ·simp only [cond_true];refine ht _ ?_;unfold Go.Proofs.Ie;split
  ·exact yQ _
  ·exact yR
theorem I8 {a1 a2 a3 a4 a5 a6 b1 b2 b3 b4 b5 b6 s0 s1 y0 y1 u0 u1 x0 x1 v0 v1 z0 z1 p0 q0 g0 e0 o0 r0 p1 q1 g1 e1 o1 r1 p2 q2 g2 e2 o2 r2:ByteArray} {A0 A1 A2 A3 A4 A5 J0 C0 B0 c0 J1 C1 B1 c1 J2 C2 B2 c2:Int} {res:light.iC × Int} (ha:lZ ⟨⟨a1,a2⟩,⟨a3,a4⟩,⟨a5,a6⟩⟩) (hb:lZ ⟨⟨b1,b2⟩,⟨b3,b4⟩,⟨b5,b6⟩⟩) (hk:rC ⟨⟨a1,a2⟩,⟨a3,a4⟩,⟨a5,a6⟩⟩=0) (hs:light.mF ⟨⟨b1,b2⟩,⟨b3,b4⟩,⟨b5,b6⟩⟩=0)
  (h0:gu 0 (tY ⟨a1,a2⟩ k16)=(⟨s0,s1⟩,A0)) (h1:gu A0 (oN ⟨s0,s1⟩ Y6)=(⟨y0,y1⟩,A1)) (h2:gu A1 (oN ⟨a3,a4⟩ Y3)=(⟨u0,u1⟩,A2))
  (h3:gu A2 (tY ⟨y0,y1⟩ ⟨u0,u1⟩)=(⟨x0,x1⟩,A3)) (h4:gu A3 (oN ⟨a5,a6⟩ Y4)=(⟨v0,v1⟩,A4)) (h5:gu A4 (rT ⟨y0,y1⟩ ⟨v0,v1⟩)=(⟨z0,z1⟩,A5))
  (i0:gu 0 (gJ ⟨x0,x1⟩)=(⟨p0,q0⟩,J0)) (j0:gu A5 (⟨p0,q0⟩,J0)=(⟨g0,e0⟩,C0)) (m0:gu C0 (kM ⟨g0,e0⟩ ⟨b1,b2⟩)=(⟨o0,r0⟩,B0))
  (i1:gu 0 (gJ ⟨y0,y1⟩)=(⟨p1,q1⟩,J1)) (j1:gu B0 (⟨p1,q1⟩,J1)=(⟨g1,e1⟩,C1)) (m1:gu C1 (kM ⟨g1,e1⟩ ⟨b3,b4⟩)=(⟨o1,r1⟩,B1))
  (i2:gu 0 (gJ ⟨z0,z1⟩)=(⟨p2,q2⟩,J2)) (j2:gu B1 (⟨p2,q2⟩,J2)=(⟨g2,e2⟩,C2)) (m2:gu C2 (kM ⟨g2,e2⟩ ⟨b5,b6⟩)=(⟨o2,r2⟩,B2))
  (z0':(iK ⟨o0,r0⟩).1=c0) (z1':(iK ⟨o1,r1⟩).1=c1) (z2':(iK ⟨o2,r2⟩).1=c2)
  (hres:res=Ah B2 c0 c1 c2 ⟨⟨o0,r0⟩,⟨o1,r1⟩,⟨o2,r2⟩⟩) (Q0:A5≠0→B2=A5) (Q1:B0≠0→B2=B0) (Q2:B1≠0→B2=B1) (w:World) :
  Calls Tryz.prog 33 #[au #[O a1,O a2,O a3,O a4,O a5,O a6],au #[O b1,O b2,O b3,O b4,O b5,O b6]] w (fun e w'=>e= ah (aD #[au #[O res.1.x.n,O res.1.x.d,O res.1.y.n,O res.1.y.d,O res.1.z.n,O res.1.z.d],Z I res.2])∧Below w.heap.size w w'):=by
 have HS:∀ W,Calls Tryz.prog 54 #[au #[O b1,O b2,O b3,O b4,O b5,O b6]] W (fun e w'=>e= ah (Z I 0)∧Below W.heap.size W w'):=fun W=>hs ▸ aP.oU ⟨⟨b1,b2⟩,⟨b3,b4⟩,⟨b5,b6⟩⟩ W hb;have fa0:Fits ⟨a1,a2⟩:=ha 0 zo;have fb0:Fits ⟨b1,b2⟩:=hb 0 zo;have fa1:Fits ⟨a3,a4⟩:=ha 1 zo;have fb1:Fits ⟨b3,b4⟩:=hb 1 zo;have fa2:Fits ⟨a5,a6⟩:=ha 2 zo;have fb2:Fits ⟨b5,b6⟩:=hb 2 zo;have fs:Fits ⟨s0,s1⟩:=jo (KF _ _) h0;have fy:Fits ⟨y0,y1⟩:=jo (DK _ _) h1;have fu:Fits ⟨u0,u1⟩:=jo (DK _ _) h2;have fx:Fits ⟨x0,x1⟩:=jo (KF _ _) h3;have fv:Fits ⟨v0,v1⟩:=jo (DK _ _) h4;have fz:Fits ⟨z0,z1⟩:=jo (Kz _ _) h5;have fp0:Fits ⟨p0,q0⟩:=DJ i0;have fg0:Fits ⟨g0,e0⟩:=jo (r:=(⟨p0,q0⟩,J0)) fp0 j0;have fo0:Fits ⟨o0,r0⟩:=jo (vo _ _) m0
 have Z0:∀ W,Calls Tryz.prog 107 #[au #[O o0,O r0]] W (fun e w'=>e= ah (Z I c0)∧Below W.heap.size W w'):=fun W=>z0' ▸ aP.nV ⟨o0,r0⟩ W fo0;have fp1:Fits ⟨p1,q1⟩:=DJ i1;have fg1:Fits ⟨g1,e1⟩:=jo (r:=(⟨p1,q1⟩,J1)) fp1 j1;have fo1:Fits ⟨o1,r1⟩:=jo (vo _ _) m1;have Z1:∀ W,Calls Tryz.prog 107 #[au #[O o1,O r1]] W (fun e w'=>e= ah (Z I c1)∧Below W.heap.size W w'):=fun W=>z1' ▸ aP.nV ⟨o1,r1⟩ W fo1;have fp2:Fits ⟨p2,q2⟩:=DJ i2;have fg2:Fits ⟨g2,e2⟩:=jo (r:=(⟨p2,q2⟩,J2)) fp2 j2;have fo2:Fits ⟨o2,r2⟩:=jo (vo _ _) m2;have Z2:∀ W,Calls Tryz.prog 107 #[au #[O o2,O r2]] W (fun e w'=>e= ah (Z I c2)∧Below W.heap.size W w'):=fun W=>z2' ▸ aP.nV ⟨o2,r2⟩ W fo2;refine Fx.door Tryz.func33 rfl (.nil w []) ?_
 refine Fx.new [] 2 #[O a1,O a2,O a3,O a4,O a5,O a6] 34 [] [] fun fT=>?_;refine Fx.new [] 3 #[O b1,O b2,O b3,O b4,O b5,O b6] 34 [] [] fun fJ=>?_;refine Fx.aV [] 4 34 [] [] fun fF=>?_;refine Fx.newS [3,3,3] 24 3 3 #[O a1,O a2,O a3,O a4,O a5,O a6] 32 [] [] fun uF=>?_;refine Fx.call [] 25 [] [] (fun W M=>Ao ha hk _ _ (M.box (b:=uF) 3)) ?_;refine Fx.bJ [2,4] 31 [] [] HS ?_;refine Fx.aV [2] 8 130 [] [] fun rQ=>?_;refine Fx.draw [] (dF 8) [4] [] [] ?_;refine Fx.call [3] 38 [(37,au #[O a1,O a2])] [] (fun W M=>ap5 _) ?_;refine Fx.gK [] 39 4 [] [] (fun W M=>aP.Lx h0 fa0 WI (M.box (b:=rQ) 4)) ?_;refine Fx.call [] 40 [] [] (fun W M=>Z7 _) ?_
 refine Fx.gK [] 41 4 [] [] (fun W M=>aP.XO h1 fs Sz (M.box (b:=rQ) 4)) ?_;refine Fx.qA [] 9 32 [] [] fun P9=>?_;refine Fx.draw [8] (dF 8) [4] [] [(5,#[O y0,O y1])] ?_;refine Fx.call [8,3] 45 [(42,au #[O y0,O y1]),(44,au #[O a3,O a4])] [] (fun W M=>Z5 _) ?_;refine Fx.gK [] 46 4 [] [] (fun W M=>aP.XO h2 fa1 Sw (M.box (b:=rQ) 4)) ?_;refine Fx.gK [] 47 4 [] [] (fun W M=>aP.Lx h3 fy fu (M.box (b:=rQ) 4)) ?_;refine Fx.qA [] 10 32 [] [] fun P8=>?_;refine Fx.draw [9] (dF 8) [4] [] [(6,#[O x0,O x1])] ?_;refine Fx.call [8,3] 51 [(48,au #[O y0,O y1]),(50,au #[O a5,O a6])] [] (fun W M=>Z6 _) ?_;refine Fx.gK [] 52 4 [] [] (fun W M=>aP.XO h4 fa2 Sy (M.box (b:=rQ) 4)) ?_
 refine Fx.gK [] 53 4 [] [] (fun W M=>aP.Qh h5 fy fv (M.box (b:=rQ) 4)) ?_;refine Fx.qA [] 11 32 [] [] fun Xi=>?_;refine Fx.aV [10] 12 34 [] [(7,#[O z0,O z1])] fun bz9=>?_;refine Fx.aV [9,8,10,1] 14 32 [(57,au #[O x0,O x1,O y0,O y1,O z0,O z1]),(58,Z I 0),(60,Z I 0),(61,au #[O x0,O x1])] [] fun NJ=>?_;refine Fx.part 10 [12,7] [(64,ak (!(A5 == 0))),(13,Z I 0)] [(9,#[O x0,O x1])] ?_;refine Fx.splitB (fun H1=>?_) (fun H1=>?_)
 ·skip
  refine Fx.draw [1] [0,1,2,3003,5004] [2] [] [] ?_;exact Fx.dQ (cs:=#[O ⟨#[]⟩,O ⟨#[]⟩,O ⟨#[]⟩,O ⟨#[]⟩,O ⟨#[]⟩,O ⟨#[]⟩]) (y:=Z I A5) 2 fF [7,5] [(2,#[O ⟨#[]⟩,O ⟨#[]⟩,O ⟨#[]⟩,O ⟨#[]⟩,O ⟨#[]⟩,O ⟨#[]⟩])] (fun W M=>by have HB:=M.below;first|exact ⟨wS hres Q0 H1,HB⟩|exact ⟨wS hres Q1 H2,HB⟩|exact ⟨wS hres Q2 H3,HB⟩|exact ⟨wS hres (fun _=>rfl) K4,HB⟩|exact ⟨fl1 hres K4 L5,HB⟩|exact ⟨fl2 hres K4 L5 L6,HB⟩|exact ⟨fl3 hres K4 L5 L6 L7,HB⟩|exact ⟨fl4 hres K4 L5 L6 L7,HB⟩)
 ·skip
  refine Fx.call [2,12] 70 [] [] (fun W M=>Lm i0 fx _) ?_;refine Fx.aV [] 15 32 [(71,au #[O p0,O q0]),(72,Z I J0)] [] fun ZL=>?_;refine Fx.draw [13] [0,1,2,4,5,6,3,7,8,9] [4] [(16,Z I J0)] [(10,#[O p0,O q0])] ?_;refine Fx.gK [13,4] 76 4 [(73,Z I 0),(79,au #[O b1,O b2])] [] (fun W M=>aP.xS j0 (M.box (b:=rQ) 4)) ?_;refine Fx.gK [] 80 4 [] [] (fun W M=>aP.wT m0 fg0 fb0 (M.box (b:=rQ) 4)) ?_;refine Fx.aV [11,1] 14 32 [(58,Z I 1),(60,Z I 1),(61,au #[O y0,O y1])] [(8,#[O o0,O r0,O ⟨#[]⟩,O ⟨#[]⟩,O ⟨#[]⟩,O ⟨#[]⟩])] fun SQ=>?_;refine Fx.part 10 [14,7] [(64,ak (!(B0 == 0))),(13,Z I 1)] [(11,#[O y0,O y1])] ?_;refine Fx.splitB (fun H2=>?_) (fun H2=>?_)
  ·skip
   refine Fx.draw [1] [0,1,2,3003,5004] [2] [] [] ?_;exact Fx.dQ (cs:=#[O ⟨#[]⟩,O ⟨#[]⟩,O ⟨#[]⟩,O ⟨#[]⟩,O ⟨#[]⟩,O ⟨#[]⟩]) (y:=Z I B0) 2 fF [7,5] [(2,#[O ⟨#[]⟩,O ⟨#[]⟩,O ⟨#[]⟩,O ⟨#[]⟩,O ⟨#[]⟩,O ⟨#[]⟩])] (fun W M=>by have HB:=M.below;first|exact ⟨wS hres Q0 H1,HB⟩|exact ⟨wS hres Q1 H2,HB⟩|exact ⟨wS hres Q2 H3,HB⟩|exact ⟨wS hres (fun _=>rfl) K4,HB⟩|exact ⟨fl1 hres K4 L5,HB⟩|exact ⟨fl2 hres K4 L5 L6,HB⟩|exact ⟨fl3 hres K4 L5 L6 L7,HB⟩|exact ⟨fl4 hres K4 L5 L6 L7,HB⟩)
  ·skip
   refine Fx.call [2,14] 70 [] [] (fun W M=>Lm i1 fy _) ?_;refine Fx.aV [] 15 32 [(71,au #[O p1,O q1]),(72,Z I J1)] [] fun aB2=>?_;refine Fx.draw [15] [0,1,2,4,5,6,3,7,8,9] [4] [(16,Z I J1)] [(12,#[O p1,O q1])] ?_;refine Fx.gK [15,4] 76 4 [(73,Z I 1),(79,au #[O b3,O b4])] [] (fun W M=>aP.xS j1 (M.box (b:=rQ) 4)) ?_;refine Fx.gK [] 80 4 [] [] (fun W M=>aP.wT m1 fg1 fb1 (M.box (b:=rQ) 4)) ?_;refine Fx.aV [11,1] 14 32 [(58,Z I 2),(60,Z I 2),(61,au #[O z0,O z1])] [(8,#[O o0,O r0,O o1,O r1,O ⟨#[]⟩,O ⟨#[]⟩])] fun an5=>?_;refine Fx.part 10 [16,7] [(64,ak (!(B1 == 0))),(13,Z I 2)] [(13,#[O z0,O z1])] ?_;refine Fx.splitB (fun H3=>?_) (fun H3=>?_)
   ·skip
    refine Fx.draw [1] [0,1,2,3003,5004] [2] [] [] ?_;exact Fx.dQ (cs:=#[O ⟨#[]⟩,O ⟨#[]⟩,O ⟨#[]⟩,O ⟨#[]⟩,O ⟨#[]⟩,O ⟨#[]⟩]) (y:=Z I B1) 2 fF [7,5] [(2,#[O ⟨#[]⟩,O ⟨#[]⟩,O ⟨#[]⟩,O ⟨#[]⟩,O ⟨#[]⟩,O ⟨#[]⟩])] (fun W M=>by have HB:=M.below;first|exact ⟨wS hres Q0 H1,HB⟩|exact ⟨wS hres Q1 H2,HB⟩|exact ⟨wS hres Q2 H3,HB⟩|exact ⟨wS hres (fun _=>rfl) K4,HB⟩|exact ⟨fl1 hres K4 L5,HB⟩|exact ⟨fl2 hres K4 L5 L6,HB⟩|exact ⟨fl3 hres K4 L5 L6 L7,HB⟩|exact ⟨fl4 hres K4 L5 L6 L7,HB⟩)
   ·skip
    refine Fx.call [2,16] 70 [] [] (fun W M=>Lm i2 fz _) ?_;refine Fx.aV [] 15 32 [(71,au #[O p2,O q2]),(72,Z I J2)] [] fun K8=>?_;refine Fx.draw [17] [0,1,2,4,5,6,3,7,8,9] [4] [(16,Z I J2)] [(14,#[O p2,O q2])] ?_;refine Fx.gK [17,4] 76 4 [(73,Z I 2),(79,au #[O b5,O b6])] [] (fun W M=>aP.xS j2 (M.box (b:=rQ) 4)) ?_;refine Fx.gK [] 80 4 [] [] (fun W M=>aP.wT m2 fg2 fb2 (M.box (b:=rQ) 4)) ?_;refine Fx.part 29 [11,2,7] [(85,ak (!(B2 == 0))),(58,Z I 3)] [(8,#[O o0,O r0,O o1,O r1,O o2,O r2])] ?_;refine Fx.splitB (fun K4=>?_) (fun K4=>?_)
    ·skip
     refine Fx.draw [1] [0,1,2,3003,5004] [2] [] [] ?_;exact Fx.dQ (cs:=#[O ⟨#[]⟩,O ⟨#[]⟩,O ⟨#[]⟩,O ⟨#[]⟩,O ⟨#[]⟩,O ⟨#[]⟩]) (y:=Z I B2) 2 fF [7,5] [(2,#[O ⟨#[]⟩,O ⟨#[]⟩,O ⟨#[]⟩,O ⟨#[]⟩,O ⟨#[]⟩,O ⟨#[]⟩])] (fun W M=>by have HB:=M.below;first|exact ⟨wS hres Q0 H1,HB⟩|exact ⟨wS hres Q1 H2,HB⟩|exact ⟨wS hres Q2 H3,HB⟩|exact ⟨wS hres (fun _=>rfl) K4,HB⟩|exact ⟨fl1 hres K4 L5,HB⟩|exact ⟨fl2 hres K4 L5 L6,HB⟩|exact ⟨fl3 hres K4 L5 L6 L7,HB⟩|exact ⟨fl4 hres K4 L5 L6 L7,HB⟩)
    ·skip
     refine Fx.bJ [2,1,11] 96 [(17,Z I 0)] [] Z0 ?_;refine Fx.part 1 [] [(97,ak (decide (c0<0)))] [] ?_;refine Fx.splitB (fun L5=>?_) (fun L5=>?_)
     ·skip
      exact Fx.dQ (cs:=#[O ⟨#[]⟩,O ⟨#[]⟩,O ⟨#[]⟩,O ⟨#[]⟩,O ⟨#[]⟩,O ⟨#[]⟩]) (y:=Z I 9) 2 fF [1,5] [(2,#[O ⟨#[]⟩,O ⟨#[]⟩,O ⟨#[]⟩,O ⟨#[]⟩,O ⟨#[]⟩,O ⟨#[]⟩])] (fun W M=>by have HB:=M.below;first|exact ⟨wS hres Q0 H1,HB⟩|exact ⟨wS hres Q1 H2,HB⟩|exact ⟨wS hres Q2 H3,HB⟩|exact ⟨wS hres (fun _=>rfl) K4,HB⟩|exact ⟨fl1 hres K4 L5,HB⟩|exact ⟨fl2 hres K4 L5 L6,HB⟩|exact ⟨fl3 hres K4 L5 L6 L7,HB⟩|exact ⟨fl4 hres K4 L5 L6 L7,HB⟩)
     ·skip
      refine Fx.bJ [2,1,11] 96 [(17,Z I 1)] [] Z1 ?_;refine Fx.part 1 [] [(97,ak (decide (c1<0)))] [] ?_;refine Fx.splitB (fun L6=>?_) (fun L6=>?_)
      ·skip
       exact Fx.dQ (cs:=#[O ⟨#[]⟩,O ⟨#[]⟩,O ⟨#[]⟩,O ⟨#[]⟩,O ⟨#[]⟩,O ⟨#[]⟩]) (y:=Z I 9) 2 fF [1,5] [(2,#[O ⟨#[]⟩,O ⟨#[]⟩,O ⟨#[]⟩,O ⟨#[]⟩,O ⟨#[]⟩,O ⟨#[]⟩])] (fun W M=>by have HB:=M.below;first|exact ⟨wS hres Q0 H1,HB⟩|exact ⟨wS hres Q1 H2,HB⟩|exact ⟨wS hres Q2 H3,HB⟩|exact ⟨wS hres (fun _=>rfl) K4,HB⟩|exact ⟨fl1 hres K4 L5,HB⟩|exact ⟨fl2 hres K4 L5 L6,HB⟩|exact ⟨fl3 hres K4 L5 L6 L7,HB⟩|exact ⟨fl4 hres K4 L5 L6 L7,HB⟩)
      ·skip
       refine Fx.bJ [2,1,11] 96 [(17,Z I 2)] [] Z2 ?_;refine Fx.part 1 [] [(97,ak (decide (c2<0)))] [] ?_;refine Fx.splitB (fun L7=>?_) (fun L7=>?_)
       ·skip
        exact Fx.dQ (cs:=#[O ⟨#[]⟩,O ⟨#[]⟩,O ⟨#[]⟩,O ⟨#[]⟩,O ⟨#[]⟩,O ⟨#[]⟩]) (y:=Z I 9) 2 fF [1,5] [(2,#[O ⟨#[]⟩,O ⟨#[]⟩,O ⟨#[]⟩,O ⟨#[]⟩,O ⟨#[]⟩,O ⟨#[]⟩])] (fun W M=>by have HB:=M.below;first|exact ⟨wS hres Q0 H1,HB⟩|exact ⟨wS hres Q1 H2,HB⟩|exact ⟨wS hres Q2 H3,HB⟩|exact ⟨wS hres (fun _=>rfl) K4,HB⟩|exact ⟨fl1 hres K4 L5,HB⟩|exact ⟨fl2 hres K4 L5 L6,HB⟩|exact ⟨fl3 hres K4 L5 L6 L7,HB⟩|exact ⟨fl4 hres K4 L5 L6 L7,HB⟩)
       ·skip
        exact Fx.dQ (cs:=#[O o0,O r0,O o1,O r1,O o2,O r2]) (y:=Z I 0) 2 fF [2,2,11,5] [(2,#[O o0,O r0,O o1,O r1,O o2,O r2])] (fun W M=>by have HB:=M.below;first|exact ⟨wS hres Q0 H1,HB⟩|exact ⟨wS hres Q1 H2,HB⟩|exact ⟨wS hres Q2 H3,HB⟩|exact ⟨wS hres (fun _=>rfl) K4,HB⟩|exact ⟨fl1 hres K4 L5,HB⟩|exact ⟨fl2 hres K4 L5 L6,HB⟩|exact ⟨fl3 hres K4 L5 L6 L7,HB⟩|exact ⟨fl4 hres K4 L5 L6 L7,HB⟩)
theorem r9 {E F:Int} {r:Fr × Int} {v:Fr} (h:gu E r=(v,F)) (hE:E≠0):F=E:=by
 rw [jm hE] at h;cases h
 rfl
theorem vZ {t w v:light.iC} {k:Int} (h:lJ t w=(v,k)) (hk:k≠0):v=t0:=by
 unfold lJ at h;split at h
 ·cases h;rfl
 ·split at h
  ·cases h;rfl
  ·unfold DZ at h
   iterate 16
    replace h:=EA h
    rcases h with h|⟨_,h⟩
    ·exact h
   rcases EA h with h|⟨_,h⟩
   ·exact h
   ·split at h
    ·cases h;rfl
    ·rcases EA h with h|⟨_,h⟩
     ·exact h
     ·split at h
      ·cases h;rfl
      ·rcases EA h with h|⟨_,h⟩
       ·exact h
       ·split at h
        ·cases h;rfl
        ·cases h
         exact absurd rfl hk
theorem uh {a1 a2 a3 a4 a5 a6 b1 b2 b3 b4 b5 b6:ByteArray} {v:light.iC} {k:Int} (ha:lZ ⟨⟨a1,a2⟩,⟨a3,a4⟩,⟨a5,a6⟩⟩) (hb:lZ ⟨⟨b1,b2⟩,⟨b3,b4⟩,⟨b5,b6⟩⟩)
  (h:lJ ⟨⟨a1,a2⟩,⟨a3,a4⟩,⟨a5,a6⟩⟩ ⟨⟨b1,b2⟩,⟨b3,b4⟩,⟨b5,b6⟩⟩=(v,k)) (w:World) :
  Calls Tryz.prog 33 #[au #[O a1,O a2,O a3,O a4,O a5,O a6],au #[O b1,O b2,O b3,O b4,O b5,O b6]] w (fun e w'=>e= ah (aD #[au #[O v.x.n,O v.x.d,O v.y.n,O v.y.d,O v.z.n,O v.z.d],Z I k])∧Below w.heap.size w w'):=by
 unfold lJ at h;split at h
 ·rename_i h0;cases h
  exact Ja ha rfl h0 w
 ·rename_i h0;have hk:rC ⟨⟨a1,a2⟩,⟨a3,a4⟩,⟨a5,a6⟩⟩=0:=Decidable.of_not_not h0;split at h
  ·rename_i h0;cases h
   exact I9 ha hb hk rfl h0 w
  ·rename_i h0;have hs:light.mF ⟨⟨b1,b2⟩,⟨b3,b4⟩,⟨b5,b6⟩⟩=0:=Decidable.of_not_not h0;obtain ⟨⟨⟨s0,s1⟩,A0⟩,h0⟩:∃ z,gu 0 (tY ⟨a1,a2⟩ k16)=z:=⟨_,rfl⟩;obtain ⟨⟨⟨y0,y1⟩,A1⟩,h1⟩:∃ z,gu A0 (oN ⟨s0,s1⟩ Y6)=z:=⟨_,rfl⟩;obtain ⟨⟨⟨u0,u1⟩,A2⟩,h2⟩:∃ z,gu A1 (oN ⟨a3,a4⟩ Y3)=z:=⟨_,rfl⟩;obtain ⟨⟨⟨x0,x1⟩,A3⟩,h3⟩:∃ z,gu A2 (tY ⟨y0,y1⟩ ⟨u0,u1⟩)=z:=⟨_,rfl⟩;obtain ⟨⟨⟨v0,v1⟩,A4⟩,h4⟩:∃ z,gu A3 (oN ⟨a5,a6⟩ Y4)=z:=⟨_,rfl⟩;obtain ⟨⟨⟨z0,z1⟩,A5⟩,h5⟩:∃ z,gu A4 (rT ⟨y0,y1⟩ ⟨v0,v1⟩)=z:=⟨_,rfl⟩;obtain ⟨⟨⟨p0,q0⟩,J0⟩,i0⟩:∃ z,gu 0 (gJ ⟨x0,x1⟩)=z:=⟨_,rfl⟩;obtain ⟨⟨⟨g0,e0⟩,C0⟩,j0⟩:∃ z,gu A5 (⟨p0,q0⟩,J0)=z:=⟨_,rfl⟩;obtain ⟨⟨⟨o0,r0⟩,B0⟩,m0⟩:∃ z,gu C0 (kM ⟨g0,e0⟩ ⟨b1,b2⟩)=z:=⟨_,rfl⟩;obtain ⟨⟨⟨p1,q1⟩,J1⟩,i1⟩:∃ z,gu 0 (gJ ⟨y0,y1⟩)=z:=⟨_,rfl⟩;obtain ⟨⟨⟨g1,e1⟩,C1⟩,j1⟩:∃ z,gu B0 (⟨p1,q1⟩,J1)=z:=⟨_,rfl⟩;obtain ⟨⟨⟨o1,r1⟩,B1⟩,m1⟩:∃ z,gu C1 (kM ⟨g1,e1⟩ ⟨b3,b4⟩)=z:=⟨_,rfl⟩
   obtain ⟨⟨⟨p2,q2⟩,J2⟩,i2⟩:∃ z,gu 0 (gJ ⟨z0,z1⟩)=z:=⟨_,rfl⟩;obtain ⟨⟨⟨g2,e2⟩,C2⟩,j2⟩:∃ z,gu B1 (⟨p2,q2⟩,J2)=z:=⟨_,rfl⟩;obtain ⟨⟨⟨o2,r2⟩,B2⟩,m2⟩:∃ z,gu C2 (kM ⟨g2,e2⟩ ⟨b5,b6⟩)=z:=⟨_,rfl⟩
   have Q2:B1≠0→B2=B1:=fun e=>by
    have e1:=r9 j2 e;rw [← e1] at e;exact (r9 m2 e).trans e1
   have Q1:B0≠0→B2=B0:=fun e=>by
    have e1:=r9 j1 e;have e2:=(r9 m1 (by rw [e1];exact e)).trans e1;exact (Q2 (by rw [e2];exact e)).trans e2
   have Q0:A5≠0→B2=A5:=fun e=>by
    have e1:=r9 j0 e;have e2:=(r9 m0 (by rw [e1];exact e)).trans e1;exact (Q1 (by rw [e2];exact e)).trans e2
   have key:Ah B2 (iK ⟨o0,r0⟩).1 (iK ⟨o1,r1⟩).1 (iK ⟨o2,r2⟩).1 ⟨⟨o0,r0⟩,⟨o1,r1⟩,⟨o2,r2⟩⟩=DZ ⟨⟨a1,a2⟩,⟨a3,a4⟩,⟨a5,a6⟩⟩ ⟨⟨b1,b2⟩,⟨b3,b4⟩,⟨b5,b6⟩⟩:=by
    unfold DZ;rw [Vy,Pt,Pp,Pq];simp only [BQ];have ch:∀ R X:light.iC × Int,((0:Int)=0→R=X)∧((0:Int)≠0→R=(t0,0))→R=X:=fun R X h=>h.1 rfl;refine ch _ _ ?_;refine jF h0 (jF h1 (jF h2 (jF h3 (jF h4 (jF h5 (jF (Dg i0 j0) (jF m0 (jF (Dg i1 j1) (jF m1 (jF (Dg i2 j2) (jF m2 ⟨fun e=>?_,fun e=>?_⟩)))))))))))
    ·subst e;obtain ⟨c2,d2⟩:=vg m2;subst c2;obtain ⟨c1, -⟩:=vg j2;subst c1;obtain ⟨c2,d1⟩:=vg m1;subst c2;obtain ⟨c1, -⟩:=vg j1;subst c1;obtain ⟨c2,d0⟩:=vg m0;rw [Io d0,Io d1,Io d2];rfl
    ·unfold Ah;rw [if_neg e]
   exact I8 (res:=(v,k)) ha hb hk hs h0 h1 h2 h3 h4 h5 i0 j0 m0 i1 j1 m1 i2 j2 m2 rfl rfl rfl (by rw [key,h]) Q0 Q1 Q2 w
end Go.Proofs.aQ
namespace Go.Proofs.aQ
open Go Go.RowKit Go.SW Go.Num Go.Mem Go.Proofs Go.gB Go.Fx Go.Proofs.lab
theorem Fb {a1 a2 a3 a4 a5 a6 k:Int} (hk:nE ((a1,a2),(a3,a4),(a5,a6))=k) (w:World) (b:Nat) (X:aB w b #[Z I a1,Z I a2,Z I a3,Z I a4,Z I a5,Z I a6] 40) :
  Calls Tryz.prog 75 #[aj (some ⟨b,0,none⟩) 3 3] w (fun e w'=>e= ah (Z I k)∧Below w.heap.size w w'):=by
 have C1:∀ W,Calls Tryz.prog 162 #[au #[Z I a1,Z I a2]] W (fun e w'=>e= ah (Z I (kP (a1,a2)))∧Below W.heap.size W w'):=fun W=>aS.iT a1 a2 W;have C2:∀ W,Calls Tryz.prog 162 #[au #[Z I a3,Z I a4]] W (fun e w'=>e= ah (Z I (kP (a3,a4)))∧Below W.heap.size W w'):=fun W=>aS.iT a3 a4 W;have C3:∀ W,Calls Tryz.prog 162 #[au #[Z I a5,Z I a6]] W (fun e w'=>e= ah (Z I (kP (a5,a6)))∧Below W.heap.size W w'):=fun W=>aS.iT a5 a6 W
 have hk:(kP (a1,a2)≠0∧kP (a1,a2)=k)∨(kP (a1,a2)=0∧((kP (a3,a4)≠0∧kP (a3,a4)=k)∨(kP (a3,a4)=0∧((kP (a5,a6)≠0∧kP (a5,a6)=k)∨(kP (a5,a6)=0∧0=k))))):=by
  subst hk;unfold nE
  dsimp only
  by_cases h1:kP (a1,a2)=0<;>by_cases h2:kP (a3,a4)=0<;>by_cases h3:kP (a5,a6)=0<;>simp [h1,h2,h3]
 generalize kP (a1,a2)=c1 at *;generalize kP (a3,a4)=c2 at *;generalize kP (a5,a6)=c3 at *;refine Fx.door Tryz.func75 rfl (.ro X (.nil w [])) ?_;refine Fx.bJ [1,3] 15 [(3,Z I 0)] [] C1 ?_;refine Fx.part 7 [] [(17,ak (!(c1 == 0))),(4,Z I c1)] [] ?_;refine Fx.splitB (fun hf1=>?_) (fun hf1=>?_)
 ·skip
  replace hk:=hk.elim (fun g=>g.2) (fun g=>absurd g.1 (by simpa using hf1));subst hk;exact Fx.rV [1] [] (fun W M=>⟨rfl,M.below⟩)
 ·skip
  replace hk:=hk.elim (fun g=>absurd (by simpa using hf1) g.1) (fun g=>g.2);try subst hk
  refine Fx.bJ [2,1,3] 15 [(3,Z I 1)] [] C2 ?_;refine Fx.part 7 [] [(17,ak (!(c2 == 0))),(4,Z I c2)] [] ?_;refine Fx.splitB (fun hf2=>?_) (fun hf2=>?_)
  ·skip
   replace hk:=hk.elim (fun g=>g.2) (fun g=>absurd g.1 (by simpa using hf2));subst hk;exact Fx.rV [1] [] (fun W M=>⟨rfl,M.below⟩)
  ·skip
   replace hk:=hk.elim (fun g=>absurd (by simpa using hf2) g.1) (fun g=>g.2);try subst hk
   refine Fx.bJ [2,1,3] 15 [(3,Z I 2)] [] C3 ?_;refine Fx.part 7 [] [(17,ak (!(c3 == 0))),(4,Z I c3)] [] ?_;refine Fx.splitB (fun hf3=>?_) (fun hf3=>?_)
   ·skip
    replace hk:=hk.elim (fun g=>g.2) (fun g=>absurd g.1 (by simpa using hf3));subst hk;exact Fx.rV [1] [] (fun W M=>⟨rfl,M.below⟩)
   ·skip
    replace hk:=hk.elim (fun g=>absurd (by simpa using hf3) g.1) (fun g=>g.2);try subst hk
    exact Fx.rV [2,2] [] (fun W M=>⟨rfl,M.below⟩)
def Xk (k:Int) (f:Int × Int) (t:(Int × Int) × (Int × Int) × (Int × Int)):(Int × Int) × (Int × Int) × (Int × Int):=if k%3=0 then (f,t.2) else if k%3=1 then (t.1,f,t.2.2) else (t.1,t.2.1,f)
theorem BZ (k:Int) (hk:0≤k∧k≤255) (s t s1 t1 s2 t2 s3 t3:Int) {x1 y1 x2 y2 x3 y3:Int} (h:Xk k (s,t) ((s1,t1),(s2,t2),(s3,t3))=((x1,y1),(x2,y2),(x3,y3))) (w:World) :
  Calls Tryz.prog 21 #[au #[Z .u8 k,Z I s,Z I t],au #[Z I s1,Z I t1,Z I s2,Z I t2,Z I s3,Z I t3]] w
   (fun e w'=>e= ah (au #[Z I x1,Z I y1,Z I x2,Z I y2,Z I x3,Z I y3])∧Below w.heap.size w w'):=by
 have hm:k.tmod 3=k%3:=Int.tmod_eq_emod_of_nonneg hk.1;have hl:k%3=0∨k%3=1∨k%3=2:=by omega
 unfold Xk at h
 rcases hl with hl|hl|hl
 ·rw [hl] at hm h;cases h
  refine Fx.door Tryz.func21 rfl (.nil w []) ?_;refine Fx.new [] 2 #[Z .u8 k,Z I s,Z I t] 66 [] [] fun fT=>?_;refine Fx.new [] 3 #[Z I s1,Z I t1,Z I s2,Z I t2,Z I s3,Z I t3] 42 [] [] fun fJ=>?_;refine Fx.aV [] 4 42 [] [] fun fF=>?_;refine Fx.part 7 [3] [(7,Z .u8 (Int.tmod k 3))] [] ?_;refine Fx.nX (Z .u8 0) (congrArg (Value.int .u8) hm) ?_;exact Fx.iy 2 fF [3,3,4,4,5] [(1,#[Z I s,Z I t,Z I s2,Z I t2,Z I s3,Z I t3]),(2,#[Z I s,Z I t,Z I s2,Z I t2,Z I s3,Z I t3])] (fun W M=>⟨rfl,M.below⟩)
 ·rw [hl] at hm h;cases h
  refine Fx.door Tryz.func21 rfl (.nil w []) ?_;refine Fx.new [] 2 #[Z .u8 k,Z I s,Z I t] 66 [] [] fun fT=>?_;refine Fx.new [] 3 #[Z I s1,Z I t1,Z I s2,Z I t2,Z I s3,Z I t3] 42 [] [] fun fJ=>?_;refine Fx.aV [] 4 42 [] [] fun fF=>?_;refine Fx.part 7 [3] [(7,Z .u8 (Int.tmod k 3))] [] ?_;refine Fx.nX (Z .u8 1) (congrArg (Value.int .u8) hm) ?_;exact Fx.iy 2 fF [3,3,4,4,5] [(1,#[Z I s1,Z I t1,Z I s,Z I t,Z I s3,Z I t3]),(2,#[Z I s1,Z I t1,Z I s,Z I t,Z I s3,Z I t3])] (fun W M=>⟨rfl,M.below⟩)
 ·rw [hl] at hm h;cases h
  refine Fx.door Tryz.func21 rfl (.nil w []) ?_;refine Fx.new [] 2 #[Z .u8 k,Z I s,Z I t] 66 [] [] fun fT=>?_;refine Fx.new [] 3 #[Z I s1,Z I t1,Z I s2,Z I t2,Z I s3,Z I t3] 42 [] [] fun fJ=>?_;refine Fx.aV [] 4 42 [] [] fun fF=>?_;refine Fx.part 7 [3] [(7,Z .u8 (Int.tmod k 3))] [] ?_;refine Fx.nX (Z .u8 2) (congrArg (Value.int .u8) hm) ?_;exact Fx.iy 2 fF [3,3,4,4,5] [(1,#[Z I s1,Z I t1,Z I s2,Z I t2,Z I s,Z I t]),(2,#[Z I s1,Z I t1,Z I s2,Z I t2,Z I s,Z I t])] (fun W M=>⟨rfl,M.below⟩)
end Go.Proofs.aQ
