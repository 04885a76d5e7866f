/- Lemmas for the proof. No condition. -/
import Derived.Test.YtlpjmogillpnbaaGreatDoorTB14
import Derived.Test.YtlpjmogillpnbaaGreatDoorTB27
import Derived.Test.YtlpjmogillpnbaaGreatDoorTB32
set_option linter.unusedVariables false
set_option linter.unusedSimpArgs false
set_option maxRecDepth 100000
set_option maxHeartbeats 16000000
open Bool renaming and_eq_true → aF
open Go.Ending renaming returned → ah
open Go.IntKind renaming i64 → I
open Go.Value renaming agg → au, bool → ay, int → Z, pointer → aA, slice → aj, string → O, tuple → aD
open Nat renaming le_refl → aI, le_trans → aB
namespace Go.Proofs
open Go Go.RowKit Go.SW Go.Num Go.Mem Go.gW
theorem DL (n:Int) (h:n.natAbs≤1000000000000000000):(tH n 1000000000000).2=0:=by
 have hq:Hq 18 ((n:Rat) / ((1000000000000:Int):Rat)):=⟨n,1000000000000,by omega,by decide+kernel,aB h (by decide+kernel),rfl⟩;unfold tH wr;rw [if_neg zo,if_pos (hq.ok zo)]
theorem af9 {s t s' t' y y':ByteArray} {k:Int} (hx:Q9 ⟨s,t⟩ ⟨s',t'⟩=(⟨y,y'⟩,k)) (w:World) (ht:gJ.Pow w):Calls Tryz.prog 12 #[au #[O s,O t],au #[O s',O t']] w (fun e w'=>e= ah (aD #[au #[O y,O y'],Z I k])∧Below w.heap.size w w'):=by
 have h:=dD.zl ⟨s,t⟩ ⟨s',t'⟩ w ht;rw [hx] at h;exact h
theorem QW {s t s' t' y y':ByteArray} {k:Int} (hx:Jt ⟨s,t⟩ ⟨s',t'⟩=(⟨y,y'⟩,k)) (w:World) (ht:gJ.Pow w):Calls Tryz.prog 17 #[au #[O s,O t],au #[O s',O t']] w (fun e w'=>e= ah (aD #[au #[O y,O y'],Z I k])∧Below w.heap.size w w'):=by
 have h:=dD.GK ⟨s,t⟩ ⟨s',t'⟩ w ht;rw [hx] at h;exact h
theorem YD {s t s' t' y y':ByteArray} {k:Int} (hx:MR ⟨s,t⟩ ⟨s',t'⟩=(⟨y,y'⟩,k)) (w:World) (ht:gJ.Pow w):Calls Tryz.prog 113 #[au #[O s,O t],au #[O s',O t']] w (fun e w'=>e= ah (aD #[au #[O y,O y'],Z I k])∧Below w.heap.size w w'):=by
 have h:=dD.yU ⟨s,t⟩ ⟨s',t'⟩ w ht;rw [hx] at h;exact h
theorem af8 {s t s' t' y y':ByteArray} {k:Int} (hx:QH ⟨s,t⟩ ⟨s',t'⟩=(⟨y,y'⟩,k)) (w:World) (ht:gJ.Pow w):Calls Tryz.prog 22 #[au #[O s,O t],au #[O s',O t']] w (fun e w'=>e= ah (aD #[au #[O y,O y'],Z I k])∧Below w.heap.size w w'):=by
 have h:=dD.yY ⟨s,t⟩ ⟨s',t'⟩ w ht;rw [hx] at h;exact h
theorem UJ {s t s' t':ByteArray} {v k:Int} (hx:wh ⟨s,t⟩ ⟨s',t'⟩=(v,k)) (w:World):Calls Tryz.prog 40 #[au #[O s,O t],au #[O s',O t']] w (fun e w'=>e= ah (aD #[Z I v,Z I k])∧Below w.heap.size w w'):=by
 have h:=dD.O1 ⟨s,t⟩ ⟨s',t'⟩ w;rw [hx] at h;exact h
theorem Sr {s t:ByteArray} {v k:Int} (hx:rT ⟨s,t⟩=(v,k)) (w:World):Calls Tryz.prog 18 #[au #[O s,O t]] w (fun e w'=>e= ah (aD #[Z I v,Z I k])∧Below w.heap.size w w'):=by
 have h:=dD.BM ⟨s,t⟩ w;rw [hx] at h;exact h
theorem cOf {n d:Int} {y y':ByteArray} {k:Int} (hx:tH n d=(⟨y,y'⟩,k)) (w:World) (ht:gJ.Pow w) (n0: -9223372036854775808≤n:=by omega) (n1:n≤9223372036854775807:=by omega) (d0: -9223372036854775808≤d:=by omega) (d1:d≤9223372036854775807:=by omega) :
  Calls Tryz.prog 26 #[.int .i64 n,.int .i64 d] w (fun e w'=>e= .returned (.tuple #[.agg #[.string y,.string y'],.int .i64 k])∧Below w.heap.size w w'):=by
 have h:=dD.qI n d n0 n1 d0 d1 w ht;rw [hx] at h;exact h
theorem QY {s t:ByteArray} {x y k:Int} (hx:aQ.jE ⟨s,t⟩=((x,y),k)) (w:World) (ht:gJ.Pow w) (he:whole.Er w):Calls Tryz.prog 24 #[au #[O s,O t]] w (fun e w'=>e= ah (aD #[au #[Z I x,Z I y],Z I k])∧Below w.heap.size w w'):=by
 have h:=aQ.KX ⟨s,t⟩ w ht he;rw [hx] at h;exact h
theorem ED {lo hi q x y k:Int} (hx:power.O5 lo hi 1 q=((x,y),k)) (w:World) (ht:gJ.Pow w) (he:whole.Er w):Calls Tryz.prog 78 #[au #[Z I lo,Z I hi],Z I q] w (fun e w'=>e= ah (aD #[au #[Z I x,Z I y],Z I k])∧Below w.heap.size w w'):=by
 have h:=power.BN lo hi q w ht he;rw [hx] at h;exact h
theorem YH {x y x' y' u v k:Int} (hx:aQ.gU (x,y) (x',y')=((u,v),k)) (w:World):Calls Tryz.prog 121 #[au #[Z I x,Z I y],au #[Z I x',Z I y']] w (fun e w'=>e= ah (aD #[au #[Z I u,Z I v],Z I k])∧Below w.heap.size w w'):=by
 have h:=aQ.zl x y x' y' w;rw [hx] at h;exact h
theorem YF {x y x' y' u v k:Int} (hx:aQ.pU (x,y) (x',y')=((u,v),k)) (w:World):Calls Tryz.prog 120 #[au #[Z I x,Z I y],au #[Z I x',Z I y']] w (fun e w'=>e= ah (aD #[au #[Z I u,Z I v],Z I k])∧Below w.heap.size w w'):=by
 have h:=aQ.GK x y x' y' w;rw [hx] at h;exact h
theorem YG {x y x' y' u v k:Int} (hx:aQ.jo (x,y) (x',y')=((u,v),k)) (w:World):Calls Tryz.prog 125 #[au #[Z I x,Z I y],au #[Z I x',Z I y']] w (fun e w'=>e= ah (aD #[au #[Z I u,Z I v],Z I k])∧Below w.heap.size w w'):=by
 have h:=aQ.yU x y x' y' w;rw [hx] at h;exact h
theorem Sw {x y x' y' u v k:Int} (hx:aQ.vg (x,y) (x',y')=((u,v),k)) (w:World):Calls Tryz.prog 124 #[au #[Z I x,Z I y],au #[Z I x',Z I y']] w (fun e w'=>e= ah (aD #[au #[Z I u,Z I v],Z I k])∧Below w.heap.size w w'):=by
 have h:=aQ.yY x y x' y' w;rw [hx] at h;exact h
theorem QX {x y n d u v k:Int} (hx:aQ.xH (x,y) n d=((u,v),k)) (w:World):Calls Tryz.prog 159 #[au #[Z I x,Z I y],Z I n,Z I d] w (fun e w'=>e= ah (aD #[au #[Z I u,Z I v],Z I k])∧Below w.heap.size w w'):=by
 have h:=aQ.OC x y n d w;rw [hx] at h;exact h
theorem I9 {x y n d u v k:Int} (hx:aQ.zO (x,y) n d=((u,v),k)) (w:World):Calls Tryz.prog 160 #[au #[Z I x,Z I y],Z I n,Z I d] w (fun e w'=>e= ah (aD #[au #[Z I u,Z I v],Z I k])∧Below w.heap.size w w'):=by
 have h:=aQ.O4 x y n d w;rw [hx] at h;exact h
theorem UG {n u v k:Int} (hx:aQ.RU n=((u,v),k)) (w:World):Calls Tryz.prog 266 #[Z I n] w (fun e w'=>e= ah (aD #[au #[Z I u,Z I v],Z I k])∧Below w.heap.size w w'):=by
 have h:=aQ.OH n w;rw [hx] at h;exact h
theorem YE {lo hi k:Int} {y y':ByteArray} (hx:aQ.Gb (lo,hi)=(⟨y,y'⟩,k)) (w:World) (ht:gJ.Pow w) (hb:aQ.jc lo hi=true):Calls Tryz.prog 15 #[au #[Z I lo,Z I hi]] w (fun e w'=>e= ah (aD #[au #[O y,O y'],Z I k])∧Below w.heap.size w w'):=by
 unfold aQ.Gb at hx;rw [if_pos hb] at hx;obtain ⟨h1,h2,h3⟩:=aQ.lK hb
 have hk:k=0:=by
  have:=DL lo zo;have e:(tH lo 1000000000000).2=k:=congrArg Prod.snd hx;rw [← e,this]
 subst hk;exact aQ.Vl lo hi y y' w hb fun W hW=>aQ.yF lo y y' W zo zo (ht.later hW) hx
theorem Sv {lo hi k:Int} {y y':ByteArray} (hx:aQ.yu (lo,hi)=(⟨y,y'⟩,k)) (w:World) (ht:gJ.Pow w) (hb:aQ.jc lo hi=true):Calls Tryz.prog 16 #[au #[Z I lo,Z I hi]] w (fun e w'=>e= ah (aD #[au #[O y,O y'],Z I k])∧Below w.heap.size w w'):=by
 unfold aQ.yu at hx;rw [if_pos hb] at hx;obtain ⟨h1,h2,h3⟩:=aQ.lK hb
 have hk:k=0:=by
  have:=DL hi zo;have e:(tH hi 1000000000000).2=k:=congrArg Prod.snd hx;rw [← e,this]
 subst hk;exact aQ.Rt lo hi y y' w hb fun W hW=>aQ.yF hi y y' W zo zo (ht.later hW) hx
end Go.Proofs
namespace Go.Proofs.verdigrislaw27
open Go.Proofs.iR Go Go.RowKit Go.SW Go.Num Go.Mem Go.Proofs Go.gW Go.Fx
def VT (n d:Int):Bool:=decide (-9000000≤n)&&decide (n≤9000000)&&decide (1≤d)&&decide (d≤9000000)&&zF (q2 n d)
theorem MG {n d:Int} {s t:ByteArray} (e:Fr.of (q2 n d)=⟨s,t⟩) (h:VT n d=true):tH n d=(⟨s,t⟩,0)∧ -9223372036854775808≤n∧n≤9223372036854775807∧ -9223372036854775808≤d∧d≤9223372036854775807:=by
 unfold VT at h;simp only [aF,decide_eq_true_eq] at h;obtain ⟨⟨⟨⟨h1,h2⟩,h3⟩,h4⟩,h5⟩:=h;refine ⟨?_,by omega,by omega,by omega,by omega⟩;unfold tH;rw [if_neg zo]
 show gW.wr (q2 n d)=_
 unfold gW.wr;rw [if_pos h5,e]
theorem nX {n d:Int} {s t:ByteArray} (e:Fr.of (q2 n d)=⟨s,t⟩) (h:VT n d=true) (w:World) (ht:gJ.Pow w) :
  Calls Tryz.prog 9 #[Z I n,Z I d] w (fun e w'=>e= ah (au #[O s,O t])∧Below w.heap.size w w'):=by
 obtain ⟨h0,h1,h2,h3,h4⟩:=MG e h;refine Fx.door Tryz.func9 rfl (.nil w []) ?_;refine Fx.bq [] 4 29 [] [] fun gV=>?_;refine Fx.call [] 10 [] [] (fun W M=>cOf h0 W (ht.later M.below) h1 h2 h3 h4) ?_;refine Fx.bq [] 5 29 [(11,au #[O s,O t]),(12,Z I 0)] [] fun iD=>?_;exact Fx.iC 0 gV [4,4,3] [(0,#[O s,O t]),(1,#[O s,O t])] (fun W M=>⟨rfl,M.below⟩)
theorem lJ {x y z d:Int} {s1 s2 s3 s4 s5 s6:ByteArray} (e:tq x y z d=⟨⟨s1,s2⟩,⟨s3,s4⟩,⟨s5,s6⟩⟩) (h:(VT x d&&VT y d&&VT z d)=true) (w:World) (ht:gJ.Pow w) :
  Calls Tryz.prog 19 #[Z I x,Z I y,Z I z,Z I d] w (fun e w'=>e= ah (au #[O s1,O s2,O s3,O s4,O s5,O s6])∧Below w.heap.size w w'):=by
 simp only [aF] at h;have e1:Fr.of (q2 x d)=⟨s1,s2⟩:=congrArg light.uF.x e;have e2:Fr.of (q2 y d)=⟨s3,s4⟩:=congrArg light.uF.y e;have e3:Fr.of (q2 z d)=⟨s5,s6⟩:=congrArg light.uF.z e;refine Fx.door Tryz.func19 rfl (.nil w []) ?_;refine Fx.bq [] 8 32 [] [] fun gV=>?_;refine Fx.call [] 11 [] [] (fun W M=>nX e1 h.1.1 W (ht.later M.below)) ?_;refine Fx.call [] 14 [] [] (fun W M=>nX e2 h.1.2 W (ht.later M.below)) ?_;refine Fx.call [] 17 [] [] (fun W M=>nX e3 h.2 W (ht.later M.below)) ?_;exact Fx.iC 0 gV [3] [(0,#[O s1,O s2,O s3,O s4,O s5,O s6])] (fun W M=>⟨rfl,M.below⟩)
end Go.Proofs.verdigrislaw27
namespace Go.Proofs
open Go Go.RowKit Go.SW Go.Num Go.Mem Go.gW
theorem Bv {x y u v a b k:Int} {q:Nat} (hx:power.zG [(x,y),(u,v)]=((a,b),k)) (w:World) (hq:aC w q #[Z I x,Z I y,Z I u,Z I v] 35) (ht:gJ.Pow w) (he:whole.Er w):Calls Tryz.prog 67 #[aj (some ⟨q,0,none⟩) 2 2] w (fun e w'=>e= ah (aD #[au #[Z I a,Z I b],Z I k])∧Below w.heap.size w w'):=by
 have h:=power.Je _ _ [(x,y),(u,v)] w (qX.two hq) ht he;rw [hx] at h;exact h
theorem aQ.MW {lo hi x y k:Int} (h:aQ.iH lo hi=((x,y),k)) (h0:k=0):aQ.jc x y=true:=by
 unfold aQ.iH at h;subst h0;cases hb:aQ.jc lo hi<;>rw [hb] at h
 ·cases h
 ·have h2:((lo,hi),(0:Int))=((x,y),0):=h;cases h2
  exact hb
end Go.Proofs
namespace Go.Proofs.aQ
open Go Go.RowKit Go.SW Go.Num Go.Mem Go.Proofs Go.gW Go.Fx
def qY (b:Int × Int):(Int × Int) × Int:=if (nT b.1 b.2).2≠0 then ((0,0),(nT b.1 b.2).2) else
 if (kP (nT b.1 b.2).1.1 (nT b.1 b.2).1.1 1000000000000 false).2=true∧(kP (nT b.1 b.2).1.2 (nT b.1 b.2).1.2 1000000000000 true).2=true then
  iH (kP (nT b.1 b.2).1.1 (nT b.1 b.2).1.1 1000000000000 false).1 (kP (nT b.1 b.2).1.2 (nT b.1 b.2).1.2 1000000000000 true).1 else ((0,0),6)
theorem YR {lo hi a b:Int} (h:nT lo hi=((a,b),0)):a.natAbs≤1000000000000000000∧b.natAbs≤1000000000000000000:=by
 unfold nT at h;split at h
 ·obtain ⟨h1,h2, -⟩:=lK (MW h rfl);exact ⟨h1,h2⟩
 ·cases h
theorem Vf (lo hi:Int) (w:World):Calls Tryz.prog 122 #[au #[Z I lo,Z I hi]] w (fun e w'=>e= ah (dH (qY (lo,hi)))∧Below w.heap.size w w'):=by
 have C:=fun W=>G9 lo hi W;unfold qY dH;obtain ⟨⟨⟨a,b⟩,k⟩,e⟩:∃ z,nT lo hi=z:=⟨_,rfl⟩;simp only [e] at C ⊢
 by_cases hk:k=0
 ·subst hk;obtain ⟨ha,hb⟩:=YR e;rw [if_neg zd];have Q1:=fun W=>ql a a 1000000000000 false ha ha zo zd W;have Q2:=fun W=>ql b b 1000000000000 true hb hb zo zd W;generalize kP a a 1000000000000 false=p at *;generalize kP b b 1000000000000 true=q at *;obtain ⟨p1,p2⟩:=p;obtain ⟨q1,q2⟩:=q;have M:=fun W=>kK p1 q1 W;simp only at *;cases p2
  ·rw [if_neg zi];refine Fx.door Tryz.func122 rfl (.nil w []) ?_;refine Fx.new [] 1 #[Z I lo,Z I hi] 35 [] [] fun gV=>?_;refine Fx.bq [] 2 35 [] [] fun iD=>?_;refine Fx.fC [3] 12 [] [] C ?_;refine Fx.bq [] 4 35 [(13,au #[Z I a,Z I b]),(14,Z I 0)] [] fun iL=>?_;refine Fx.fC [5,2,5,5] 24 [] [(2,#[Z I a,Z I b])] Q1 ?_;refine Fx.fC [5,5] 32 [(7,ay false)] [] Q2 ?_;exact Fx.jG 1 iD [1,4] [(1,#[Z I 0,Z I 0])] (fun W M=>⟨rfl,M.below⟩)
  ·cases q2
   ·rw [if_neg zi];refine Fx.door Tryz.func122 rfl (.nil w []) ?_;refine Fx.new [] 1 #[Z I lo,Z I hi] 35 [] [] fun gV=>?_;refine Fx.bq [] 2 35 [] [] fun iD=>?_;refine Fx.fC [3] 12 [] [] C ?_;refine Fx.bq [] 4 35 [(13,au #[Z I a,Z I b]),(14,Z I 0)] [] fun iL=>?_;refine Fx.fC [5,2,5,5] 24 [] [(2,#[Z I a,Z I b])] Q1 ?_;refine Fx.fC [5,5] 32 [(7,ay true)] [] Q2 ?_;exact Fx.jG 1 iD [1,4] [(1,#[Z I 0,Z I 0])] (fun W M=>⟨rfl,M.below⟩)
   ·rw [if_pos ⟨rfl,rfl⟩];generalize iH p1 q1=m at *;obtain ⟨⟨m1,m2⟩,m3⟩:=m;refine Fx.door Tryz.func122 rfl (.nil w []) ?_;refine Fx.new [] 1 #[Z I lo,Z I hi] 35 [] [] fun gV=>?_;refine Fx.bq [] 2 35 [] [] fun iD=>?_;refine Fx.fC [3] 12 [] [] C ?_;refine Fx.bq [] 4 35 [(13,au #[Z I a,Z I b]),(14,Z I 0)] [] fun iL=>?_;refine Fx.fC [5,2,5,5] 24 [] [(2,#[Z I a,Z I b])] Q1 ?_;refine Fx.fC [5,5] 32 [(6,Z I p1),(7,ay true)] [] Q2 ?_;refine Fx.fC [2] 44 [] [] M ?_;exact Fx.jG 1 iD [4] [(1,#[Z I m1,Z I m2])] (fun W M=>⟨rfl,M.below⟩)
 ·rw [if_pos hk];refine Fx.door Tryz.func122 rfl (.nil w []) ?_;refine Fx.new [] 1 #[Z I lo,Z I hi] 35 [] [] fun gV=>?_;refine Fx.bq [] 2 35 [] [] fun iD=>?_;refine Fx.fC [3] 12 [] [] C ?_;refine Fx.bq [] 4 35 [(13,au #[Z I a,Z I b]),(14,Z I k)] [] fun iL=>?_;refine Fx.part 9 [5] [(16,ay (!(k == 0))),(5,Z I k)] [(2,#[Z I a,Z I b])] ?_;refine Fx.PO true (by simp [hk]) ?_;exact Fx.jG 1 iD [1,4] [(1,#[Z I 0,Z I 0])] (fun W M=>⟨rfl,M.below⟩)
def I8 (k:Nat) (a b:Int × Int):(Int × Int) × Int:=if a=b then (a,0) else ((if k=1 then max a.1 b.1 else min a.1 b.1,max a.2 b.2),0)
def MV (a b:Int × Int):(Int × Int) × Int:=if okB [a,b] then I8 1 a b else ((0,0),30)
def Dw (a b:Int × Int):(Int × Int) × Int:=if okB [a,b] then I8 2 a b else ((0,0),30)
theorem nH (a b c d:Int) (W:World):(Op.equalIn 10000 35 (au #[Z I a,Z I b]) (au #[Z I c,Z I d])).run Tryz.prog W= .ok (decide (a=c)&&decide (b=d)) W:=by
 by_cases h1:a=c
 ·by_cases h2:b=d
  ·subst h1;subst h2;go_simp
  ·subst h1;go_simp
 ·go_simp
theorem o9 (x y:Int) (c:Nat) (w:World) (hc:aC w c #[Z I x,Z I y] 3):Calls Tryz.prog 169 #[aj (some ⟨c,0,none⟩) 2 2] w (fun e w'=>e= ah (Z I (max x y))∧Below w.heap.size w w'):=by
 have:=nJ c 2 [x,y] x rfl _ _ w hc (fun j hj=>by
  have:j<2:=hj;have hj:j=0∨j=1:=by omega
  rcases hj with rfl|rfl<;>rfl) zi
 simpa using this
theorem Gg (x y:Int) (c:Nat) (w:World) (hc:aC w c #[Z I x,Z I y] 3):Calls Tryz.prog 168 #[aj (some ⟨c,0,none⟩) 2 2] w (fun e w'=>e= ah (Z I (min x y))∧Below w.heap.size w w'):=by
 have:=Dk c 2 [x,y] x rfl _ _ w hc (fun j hj=>by
  have:j<2:=hj;have hj:j=0∨j=1:=by omega
  rcases hj with rfl|rfl<;>rfl) zi
 simpa using this
theorem J9 (a1 a2 b1 b2:Int) (h0:okB [(a1,a2),(b1,b2)]=true) (p q r:Nat) (w:World) (hp:aC w p #[Z I a1,Z I a2] 35) (hq:aC w q #[Z I b1,Z I b2] 35) (hr:aC w r #[Z I 1] 3) :
  Calls Tryz.prog 167 #[aA (some ⟨p,0,none⟩),aA (some ⟨q,0,none⟩),aA (some ⟨r,0,none⟩)] w (fun e w'=>e= ah (dH (I8 1 (a1,a2) (b1,b2)))∧Below w.heap.size w w'):=by
 have h0':jc a1 a2=true∧jc b1 b2=true:=by simpa [okB] using h0
 obtain ⟨-, -, ha⟩:=lK h0'.1;obtain ⟨-, -, hb⟩:=lK h0'.2;clear h0 h0';unfold I8;have hle:max a1 b1≤max a2 b2:=by omega
 by_cases hc:(a1,a2)=(b1,b2)
 ·cases hc
  rw [if_pos rfl];unfold dH;simp only;refine Fx.door Tryz.func167 rfl (.ro hp (.ro hq (.ro hr (.nil w [])))) ?_;refine Fx.bq [] 3 35 [] [] fun gV=>?_;refine Fx.eql 8 [3,4] 11 true true 35 (au #[Z I a1,Z I a2]) (au #[Z I a1,Z I a2]) [] [] (fun W=>by rw [← (show (decide (a1=a1)&&decide (a2=a2))=true by simp)];exact nH a1 a2 a1 a2 W) ?_;exact Fx.jG 3 gV [1,3,6] [(3,#[Z I a1,Z I a2])] (fun W M=>⟨rfl,M.below⟩)
 ·rw [if_neg hc];have hf:(decide (a1=b1)&&decide (a2=b2))=false:=by simpa using hc
  have hr2:=fun W=>(nH a1 a2 b1 b2 W).trans (by rw [hf]);rw [show (if (1:Nat)=1 then max (a1,a2).1 (b1,b2).1 else min (a1,a2).1 (b1,b2).1)=max a1 b1 from rfl];unfold dH;simp only;have hm:decide (max a2 b2<max a1 b1)=false:=by simp;omega
  have X:=zh hp;have Y:=zh hq;have bZ:=zh hr;have HF:=zh hf;have HM:=zh hm;clear hp hq hr ha hb hle hc hf hm;obtain ⟨cp,lp,fp⟩:=X.clf;obtain ⟨cq,lq,fq⟩:=Y.clf;obtain ⟨cr,lr,fr⟩:=bZ.clf;go_enter Tryz.func167,Tryz.ntmps167
  go_wp2_with fail
  obtain ⟨wx,EW,hz,R,A,B⟩:=Pf w #[Z I 0,Z I 0] 35 #[.func (.func 168) #[] #[],.func (.func 168) #[] #[],.func (.func 169) #[] #[],.func (.func 169) #[] #[],.func (.func 168) #[] #[],.func (.func 169) #[] #[],.func (.func 169) #[] #[],.func (.func 168) #[] #[]] 219 #[.func (.func 169) #[] #[],.func (.func 169) #[] #[]] 218;rw [EW];clear EW cp lp fp cq lq fq cr lr fr A bZ HF hr2;have HB:=zh hz;replace X:=X.bl hz;replace Y:=Y.bl hz;clear hz;obtain ⟨bx,eb⟩:∃ y,w.heap.size=y:=⟨_,rfl⟩;rw [eb] at R B ⊢;have hb0:w.heap.size≤bx:=by omega
  clear eb;have lx:bx<wx.heap.size:=R.out.lt;have R1:=zh (fun W (hW:Below wx.heap.size wx W)=>R.bl (w':=W) hW);obtain ⟨cp,lp,fp⟩:=X.clf;obtain ⟨cq,lq,fq⟩:=Y.clf;obtain ⟨cx,lc,fx⟩:=B.clf;clear R
  refine FK zk (sS 14 6 zd (nW [(.pure,0),(.read,1),(.pure,2),(.read,3),(.pure,4),(.read,5),(.pure,8),(.read,9),(.pure,10),(.read,11),(.pure,12),(.read,13),(.ext,14),(.ext,6),(.ext,7),(.ext,15),(.fin,16),(.fin,17)] zk zR zP (iQ _ _ _ _ _ _ _ (Wk.out ?oA))) (sS 14 7 zd (nW [(.pure,0),(.read,1),(.pure,2),(.read,3),(.pure,4),(.read,5),(.pure,8),(.read,9),(.pure,10),(.read,11),(.pure,12),(.read,13),(.ext,6),(.ext,14),(.ext,7),(.ext,15),(.fin,16),(.fin,17)] zk zR zP (iQ _ _ _ _ _ _ _ (iQ _ _ _ _ _ _ _ (Wk.out ?oB)))) (nW [(.pure,0),(.read,1),(.pure,2),(.read,3),(.pure,4),(.read,5),(.pure,8),(.read,9),(.pure,10),(.read,11),(.pure,12),(.read,13),(.ext,6),(.ext,7),(.ext,14),(.ext,15),(.fin,16),(.fin,17)] zk zR zP (iQ _ _ _ _ _ _ _ (iQ _ _ _ _ _ _ _ (Wk.out ?oC))))))
  case oA =>
   (iterate 12 refine zU ?_)
   refine gD rfl rfl (fun w1 hba J hJ=>?_);go_simp;refine hJ _ _ aN ?_;clear hJ J;have h2:=aC.new w1 #[Z I a2,Z I b2] 3;have z1:Below (wx.drew).heap.size (wx.drew) (w1.alloc (.cells #[Z I a2,Z I b2] 3)):=aN;clear hba;refine gD rfl rfl (fun w2 hba J hJ=>?_);go_simp;refine hJ _ _ aN ?_;clear hJ J;have h1:=aC.new w2 #[Z I a1,Z I b1] 3;have z2:Below (w1.alloc (.cells #[Z I a2,Z I b2] 3)).heap.size (w1.alloc (.cells #[Z I a2,Z I b2] 3)) (w2.alloc (.cells #[Z I a1,Z I b1] 3)):=aN;clear hba;replace h2:=h2.later z2;refine gD rfl rfl (fun w3 hba J hJ=>?_);replace h1:=h1.later hba;go_simp;refine (o9 a1 b1 _ _ h1).mono ?_;rintro e w4 ⟨rfl,hbb⟩;refine hJ _ _ hbb ?_;clear hJ J h1
   have z3:Below (w2.alloc (.cells #[Z I a1,Z I b1] 3)).heap.size (w2.alloc (.cells #[Z I a1,Z I b1] 3)) w4:=Bt hba hbb;clear hba hbb;replace h2:=h2.later z3;refine gD rfl rfl (fun w5 hba J hJ=>?_);replace h2:=h2.later hba;go_simp;refine (o9 a2 b2 _ _ h2).mono ?_;rintro e w6 ⟨rfl,hbb⟩;refine hJ _ _ hbb ?_;clear hJ J h2;have z4:Below (w4).heap.size (w4) w6:=Bt hba hbb;clear hba hbb;have z:=Bt (Bt (Bt z1 z2) z3) z4;refine oO [_,_] rfl (fun wf hbf=>?_);have zz:Below wx.heap.size wx wf:=Bt (aN:Below wx.heap.size wx wx.drew) (Bt z hbf);have RR:=R1.out wf zz;have HH:=zh (Bt HB.out zz);clear z z1 z2 z3 z4 hbf zz R1 cp lp fp cq lq fq cx lc fx;obtain ⟨cR,lR,fR⟩:=RR.clf;have hm:=HM.out;go_wp2_with fail
   have RX:=RR.out;refine aY rfl rfl bf Tryz.underlying35 rfl zk ?_;exact ⟨rfl,(HH.out.setCell (p:=⟨bx,0,none⟩) hb0 _).setCell (p:=⟨bx,1,none⟩) hb0 _⟩
  case oB =>
   (iterate 12 refine zU ?_)
   refine gD rfl rfl (fun w1 hba J hJ=>?_);go_simp;refine hJ _ _ aN ?_;clear hJ J;have h1:=aC.new w1 #[Z I a1,Z I b1] 3;have z1:Below (wx.drew).heap.size (wx.drew) (w1.alloc (.cells #[Z I a1,Z I b1] 3)):=aN;clear hba;refine gD rfl rfl (fun w2 hba J hJ=>?_);go_simp;refine hJ _ _ aN ?_;clear hJ J;have h2:=aC.new w2 #[Z I a2,Z I b2] 3;have z2:Below (w1.alloc (.cells #[Z I a1,Z I b1] 3)).heap.size (w1.alloc (.cells #[Z I a1,Z I b1] 3)) (w2.alloc (.cells #[Z I a2,Z I b2] 3)):=aN;clear hba;replace h1:=h1.later z2;refine gD rfl rfl (fun w3 hba J hJ=>?_);replace h1:=h1.later hba;go_simp;refine (o9 a1 b1 _ _ h1).mono ?_;rintro e w4 ⟨rfl,hbb⟩;refine hJ _ _ hbb ?_;clear hJ J h1
   have z3:Below (w2.alloc (.cells #[Z I a2,Z I b2] 3)).heap.size (w2.alloc (.cells #[Z I a2,Z I b2] 3)) w4:=Bt hba hbb;clear hba hbb;replace h2:=h2.later z3;refine gD rfl rfl (fun w5 hba J hJ=>?_);replace h2:=h2.later hba;go_simp;refine (o9 a2 b2 _ _ h2).mono ?_;rintro e w6 ⟨rfl,hbb⟩;refine hJ _ _ hbb ?_;clear hJ J h2;have z4:Below (w4).heap.size (w4) w6:=Bt hba hbb;clear hba hbb;have z:=Bt (Bt (Bt z1 z2) z3) z4;refine oO [_,_] rfl (fun wf hbf=>?_);have zz:Below wx.heap.size wx wf:=Bt (aN:Below wx.heap.size wx wx.drew) (Bt z hbf);have RR:=R1.out wf zz;have HH:=zh (Bt HB.out zz);clear z z1 z2 z3 z4 hbf zz R1 cp lp fp cq lq fq cx lc fx;obtain ⟨cR,lR,fR⟩:=RR.clf;have hm:=HM.out;go_wp2_with fail
   have RX:=RR.out;refine aY rfl rfl bf Tryz.underlying35 rfl zk ?_;exact ⟨rfl,(HH.out.setCell (p:=⟨bx,0,none⟩) hb0 _).setCell (p:=⟨bx,1,none⟩) hb0 _⟩
  case oC =>
   (iterate 12 refine zU ?_)
   refine gD rfl rfl (fun w1 hba J hJ=>?_);go_simp;refine hJ _ _ aN ?_;clear hJ J;have h1:=aC.new w1 #[Z I a1,Z I b1] 3;have z1:Below (wx.drew).heap.size (wx.drew) (w1.alloc (.cells #[Z I a1,Z I b1] 3)):=aN;clear hba;refine gD rfl rfl (fun w3 hba J hJ=>?_);replace h1:=h1.later hba;go_simp;refine (o9 a1 b1 _ _ h1).mono ?_;rintro e w4 ⟨rfl,hbb⟩;refine hJ _ _ hbb ?_;clear hJ J h1;have z2:Below (w1.alloc (.cells #[Z I a1,Z I b1] 3)).heap.size (w1.alloc (.cells #[Z I a1,Z I b1] 3)) w4:=Bt hba hbb;clear hba hbb;refine gD rfl rfl (fun w2 hba J hJ=>?_);go_simp;refine hJ _ _ aN ?_;clear hJ J;have h2:=aC.new w2 #[Z I a2,Z I b2] 3;have z3:Below (w4).heap.size (w4) (w2.alloc (.cells #[Z I a2,Z I b2] 3)):=aN;clear hba;refine gD rfl rfl (fun w5 hba J hJ=>?_);replace h2:=h2.later hba;go_simp
   refine (o9 a2 b2 _ _ h2).mono ?_;rintro e w6 ⟨rfl,hbb⟩;refine hJ _ _ hbb ?_;clear hJ J h2;have z4:Below (w2.alloc (.cells #[Z I a2,Z I b2] 3)).heap.size (w2.alloc (.cells #[Z I a2,Z I b2] 3)) w6:=Bt hba hbb;clear hba hbb;have z:=Bt (Bt (Bt z1 z2) z3) z4;refine oO [_,_] rfl (fun wf hbf=>?_);have zz:Below wx.heap.size wx wf:=Bt (aN:Below wx.heap.size wx wx.drew) (Bt z hbf);have RR:=R1.out wf zz;have HH:=zh (Bt HB.out zz);clear z z1 z2 z3 z4 hbf zz R1 cp lp fp cq lq fq cx lc fx;obtain ⟨cR,lR,fR⟩:=RR.clf;have hm:=HM.out;go_wp2_with fail
   have RX:=RR.out;refine aY rfl rfl bf Tryz.underlying35 rfl zk ?_;exact ⟨rfl,(HH.out.setCell (p:=⟨bx,0,none⟩) hb0 _).setCell (p:=⟨bx,1,none⟩) hb0 _⟩
theorem Oh (a1 a2 b1 b2:Int) (w:World):Calls Tryz.prog 123 #[Z I 1,au #[Z I a1,Z I a2],au #[Z I b1,Z I b2]] w (fun e w'=>e= ah (dH (if okB [(a1,a2),(b1,b2)] then I8 1 (a1,a2) (b1,b2) else ((0,0),30)))∧Below w.heap.size w w'):=by
 have C:=fun (p q r t:Nat) (W:World) (hp:aC W p #[Z I a1,Z I a2] 35) (hq:aC W q #[Z I b1,Z I b2] 35) (hr:aC W r #[Z I 1] 3) (h2:aC W t #[Z I a1,Z I a2,Z I b1,Z I b2] 35) =>
  jk 167 #[aA (some ⟨p,0,none⟩),aA (some ⟨q,0,none⟩),aA (some ⟨r,0,none⟩)] (I8 1 (a1,a2) (b1,b2)) _ _ _ W (qX.two h2) (fun h W' hW'=>J9 a1 a2 b1 b2 h p q r W' (hp.later hW') (hq.later hW') (hr.later hW')) (fun args W=>by kernel_rfl)
 generalize (if okB [(a1,a2),(b1,b2)] then I8 1 (a1,a2) (b1,b2) else ((0,0),30))=z at *;obtain ⟨⟨z1,z2⟩,z3⟩:=z;unfold dH at *;simp only at *;refine Fx.door Tryz.func123 rfl (.nil w []) ?_;refine Fx.new [] 3 #[Z I 1] 3 [] [] fun gV=>?_;refine Fx.new [] 4 #[Z I a1,Z I a2] 35 [] [] fun iD=>?_;refine Fx.new [] 5 #[Z I b1,Z I b2] 35 [] [] fun iL=>?_;refine Fx.bq [] 6 35 [] [] fun vo=>?_;refine Fx.newS [4,5] 11 2 2 #[Z I a1,Z I a2,Z I b1,Z I b2] 35 [(8,.func (.func 167) #[] #[aA (some ⟨iD,0,none⟩),aA (some ⟨iL,0,none⟩),aA (some ⟨gV,0,none⟩)])] [] fun rz=>?_;refine Fx.call [] 12 [] [] (fun W M=>C _ _ _ _ _ (M.box (b:=iD) 1) (M.box (b:=iL) 2) (M.box (b:=gV) 0) (M.box (b:=rz) 4)) ?_;exact Fx.jG 3 vo [6] [(3,#[Z I z1,Z I z2])] (fun W M=>⟨rfl,M.below⟩)
theorem J8 (a1 a2 b1 b2:Int) (h0:okB [(a1,a2),(b1,b2)]=true) (p q r:Nat) (w:World) (hp:aC w p #[Z I a1,Z I a2] 35) (hq:aC w q #[Z I b1,Z I b2] 35) (hr:aC w r #[Z I 2] 3) :
  Calls Tryz.prog 167 #[aA (some ⟨p,0,none⟩),aA (some ⟨q,0,none⟩),aA (some ⟨r,0,none⟩)] w (fun e w'=>e= ah (dH (I8 2 (a1,a2) (b1,b2)))∧Below w.heap.size w w'):=by
 have h0':jc a1 a2=true∧jc b1 b2=true:=by simpa [okB] using h0
 obtain ⟨-, -, ha⟩:=lK h0'.1;obtain ⟨-, -, hb⟩:=lK h0'.2;clear h0 h0';unfold I8;have hle:min a1 b1≤max a2 b2:=by omega
 by_cases hc:(a1,a2)=(b1,b2)
 ·cases hc
  rw [if_pos rfl];unfold dH;simp only;refine Fx.door Tryz.func167 rfl (.ro hp (.ro hq (.ro hr (.nil w [])))) ?_;refine Fx.bq [] 3 35 [] [] fun gV=>?_;refine Fx.eql 8 [3,4] 11 true true 35 (au #[Z I a1,Z I a2]) (au #[Z I a1,Z I a2]) [] [] (fun W=>by rw [← (show (decide (a1=a1)&&decide (a2=a2))=true by simp)];exact nH a1 a2 a1 a2 W) ?_;exact Fx.jG 3 gV [1,3,6] [(3,#[Z I a1,Z I a2])] (fun W M=>⟨rfl,M.below⟩)
 ·rw [if_neg hc];have hf:(decide (a1=b1)&&decide (a2=b2))=false:=by simpa using hc
  have hr2:=fun W=>(nH a1 a2 b1 b2 W).trans (by rw [hf]);rw [show (if (2:Nat)=1 then max (a1,a2).1 (b1,b2).1 else min (a1,a2).1 (b1,b2).1)=min a1 b1 from rfl];unfold dH;simp only;have hm:decide (max a2 b2<min a1 b1)=false:=by simp;omega
  have X:=zh hp;have Y:=zh hq;have bZ:=zh hr;have HF:=zh hf;have HM:=zh hm;clear hp hq hr ha hb hle hc hf hm;obtain ⟨cp,lp,fp⟩:=X.clf;obtain ⟨cq,lq,fq⟩:=Y.clf;obtain ⟨cr,lr,fr⟩:=bZ.clf;go_enter Tryz.func167,Tryz.ntmps167
  go_wp2_with fail
  obtain ⟨wx,EW,hz,R,A,B⟩:=Pf w #[Z I 0,Z I 0] 35 #[.func (.func 168) #[] #[],.func (.func 168) #[] #[],.func (.func 169) #[] #[],.func (.func 169) #[] #[],.func (.func 168) #[] #[],.func (.func 169) #[] #[],.func (.func 169) #[] #[],.func (.func 168) #[] #[]] 219 #[.func (.func 168) #[] #[],.func (.func 169) #[] #[]] 218;rw [EW];clear EW cp lp fp cq lq fq cr lr fr A bZ HF hr2;have HB:=zh hz;replace X:=X.bl hz;replace Y:=Y.bl hz;clear hz;obtain ⟨bx,eb⟩:∃ y,w.heap.size=y:=⟨_,rfl⟩;rw [eb] at R B ⊢;have hb0:w.heap.size≤bx:=by omega
  clear eb;have lx:bx<wx.heap.size:=R.out.lt;have R1:=zh (fun W (hW:Below wx.heap.size wx W)=>R.bl (w':=W) hW);obtain ⟨cp,lp,fp⟩:=X.clf;obtain ⟨cq,lq,fq⟩:=Y.clf;obtain ⟨cx,lc,fx⟩:=B.clf;clear R
  refine FK zk (sS 14 6 zd (nW [(.pure,0),(.read,1),(.pure,2),(.read,3),(.pure,4),(.read,5),(.pure,8),(.read,9),(.pure,10),(.read,11),(.pure,12),(.read,13),(.ext,14),(.ext,6),(.ext,7),(.ext,15),(.fin,16),(.fin,17)] zk zR zP (iQ _ _ _ _ _ _ _ (Wk.out ?oA))) (sS 14 7 zd (nW [(.pure,0),(.read,1),(.pure,2),(.read,3),(.pure,4),(.read,5),(.pure,8),(.read,9),(.pure,10),(.read,11),(.pure,12),(.read,13),(.ext,6),(.ext,14),(.ext,7),(.ext,15),(.fin,16),(.fin,17)] zk zR zP (iQ _ _ _ _ _ _ _ (iQ _ _ _ _ _ _ _ (Wk.out ?oB)))) (nW [(.pure,0),(.read,1),(.pure,2),(.read,3),(.pure,4),(.read,5),(.pure,8),(.read,9),(.pure,10),(.read,11),(.pure,12),(.read,13),(.ext,6),(.ext,7),(.ext,14),(.ext,15),(.fin,16),(.fin,17)] zk zR zP (iQ _ _ _ _ _ _ _ (iQ _ _ _ _ _ _ _ (Wk.out ?oC))))))
  case oA =>
   (iterate 12 refine zU ?_)
   refine gD rfl rfl (fun w1 hba J hJ=>?_);go_simp;refine hJ _ _ aN ?_;clear hJ J;have h2:=aC.new w1 #[Z I a2,Z I b2] 3;have z1:Below (wx.drew).heap.size (wx.drew) (w1.alloc (.cells #[Z I a2,Z I b2] 3)):=aN;clear hba;refine gD rfl rfl (fun w2 hba J hJ=>?_);go_simp;refine hJ _ _ aN ?_;clear hJ J;have h1:=aC.new w2 #[Z I a1,Z I b1] 3;have z2:Below (w1.alloc (.cells #[Z I a2,Z I b2] 3)).heap.size (w1.alloc (.cells #[Z I a2,Z I b2] 3)) (w2.alloc (.cells #[Z I a1,Z I b1] 3)):=aN;clear hba;replace h2:=h2.later z2;refine gD rfl rfl (fun w3 hba J hJ=>?_);replace h1:=h1.later hba;go_simp;refine (Gg a1 b1 _ _ h1).mono ?_;rintro e w4 ⟨rfl,hbb⟩;refine hJ _ _ hbb ?_;clear hJ J h1
   have z3:Below (w2.alloc (.cells #[Z I a1,Z I b1] 3)).heap.size (w2.alloc (.cells #[Z I a1,Z I b1] 3)) w4:=Bt hba hbb;clear hba hbb;replace h2:=h2.later z3;refine gD rfl rfl (fun w5 hba J hJ=>?_);replace h2:=h2.later hba;go_simp;refine (o9 a2 b2 _ _ h2).mono ?_;rintro e w6 ⟨rfl,hbb⟩;refine hJ _ _ hbb ?_;clear hJ J h2;have z4:Below (w4).heap.size (w4) w6:=Bt hba hbb;clear hba hbb;have z:=Bt (Bt (Bt z1 z2) z3) z4;refine oO [_,_] rfl (fun wf hbf=>?_);have zz:Below wx.heap.size wx wf:=Bt (aN:Below wx.heap.size wx wx.drew) (Bt z hbf);have RR:=R1.out wf zz;have HH:=zh (Bt HB.out zz);clear z z1 z2 z3 z4 hbf zz R1 cp lp fp cq lq fq cx lc fx;obtain ⟨cR,lR,fR⟩:=RR.clf;have hm:=HM.out;go_wp2_with fail
   have RX:=RR.out;refine aY rfl rfl bf Tryz.underlying35 rfl zk ?_;exact ⟨rfl,(HH.out.setCell (p:=⟨bx,0,none⟩) hb0 _).setCell (p:=⟨bx,1,none⟩) hb0 _⟩
  case oB =>
   (iterate 12 refine zU ?_)
   refine gD rfl rfl (fun w1 hba J hJ=>?_);go_simp;refine hJ _ _ aN ?_;clear hJ J;have h1:=aC.new w1 #[Z I a1,Z I b1] 3;have z1:Below (wx.drew).heap.size (wx.drew) (w1.alloc (.cells #[Z I a1,Z I b1] 3)):=aN;clear hba;refine gD rfl rfl (fun w2 hba J hJ=>?_);go_simp;refine hJ _ _ aN ?_;clear hJ J;have h2:=aC.new w2 #[Z I a2,Z I b2] 3;have z2:Below (w1.alloc (.cells #[Z I a1,Z I b1] 3)).heap.size (w1.alloc (.cells #[Z I a1,Z I b1] 3)) (w2.alloc (.cells #[Z I a2,Z I b2] 3)):=aN;clear hba;replace h1:=h1.later z2;refine gD rfl rfl (fun w3 hba J hJ=>?_);replace h1:=h1.later hba;go_simp;refine (Gg a1 b1 _ _ h1).mono ?_;rintro e w4 ⟨rfl,hbb⟩;refine hJ _ _ hbb ?_;clear hJ J h1
   have z3:Below (w2.alloc (.cells #[Z I a2,Z I b2] 3)).heap.size (w2.alloc (.cells #[Z I a2,Z I b2] 3)) w4:=Bt hba hbb;clear hba hbb;replace h2:=h2.later z3;refine gD rfl rfl (fun w5 hba J hJ=>?_);replace h2:=h2.later hba;go_simp;refine (o9 a2 b2 _ _ h2).mono ?_;rintro e w6 ⟨rfl,hbb⟩;refine hJ _ _ hbb ?_;clear hJ J h2;have z4:Below (w4).heap.size (w4) w6:=Bt hba hbb;clear hba hbb;have z:=Bt (Bt (Bt z1 z2) z3) z4;refine oO [_,_] rfl (fun wf hbf=>?_);have zz:Below wx.heap.size wx wf:=Bt (aN:Below wx.heap.size wx wx.drew) (Bt z hbf);have RR:=R1.out wf zz;have HH:=zh (Bt HB.out zz);clear z z1 z2 z3 z4 hbf zz R1 cp lp fp cq lq fq cx lc fx;obtain ⟨cR,lR,fR⟩:=RR.clf;have hm:=HM.out;go_wp2_with fail
   have RX:=RR.out;refine aY rfl rfl bf Tryz.underlying35 rfl zk ?_;exact ⟨rfl,(HH.out.setCell (p:=⟨bx,0,none⟩) hb0 _).setCell (p:=⟨bx,1,none⟩) hb0 _⟩
  case oC =>
   (iterate 12 refine zU ?_)
   refine gD rfl rfl (fun w1 hba J hJ=>?_);go_simp;refine hJ _ _ aN ?_;clear hJ J;have h1:=aC.new w1 #[Z I a1,Z I b1] 3;have z1:Below (wx.drew).heap.size (wx.drew) (w1.alloc (.cells #[Z I a1,Z I b1] 3)):=aN;clear hba;refine gD rfl rfl (fun w3 hba J hJ=>?_);replace h1:=h1.later hba;go_simp;refine (Gg a1 b1 _ _ h1).mono ?_;rintro e w4 ⟨rfl,hbb⟩;refine hJ _ _ hbb ?_;clear hJ J h1;have z2:Below (w1.alloc (.cells #[Z I a1,Z I b1] 3)).heap.size (w1.alloc (.cells #[Z I a1,Z I b1] 3)) w4:=Bt hba hbb;clear hba hbb;refine gD rfl rfl (fun w2 hba J hJ=>?_);go_simp;refine hJ _ _ aN ?_;clear hJ J;have h2:=aC.new w2 #[Z I a2,Z I b2] 3;have z3:Below (w4).heap.size (w4) (w2.alloc (.cells #[Z I a2,Z I b2] 3)):=aN;clear hba;refine gD rfl rfl (fun w5 hba J hJ=>?_);replace h2:=h2.later hba;go_simp
   refine (o9 a2 b2 _ _ h2).mono ?_;rintro e w6 ⟨rfl,hbb⟩;refine hJ _ _ hbb ?_;clear hJ J h2;have z4:Below (w2.alloc (.cells #[Z I a2,Z I b2] 3)).heap.size (w2.alloc (.cells #[Z I a2,Z I b2] 3)) w6:=Bt hba hbb;clear hba hbb;have z:=Bt (Bt (Bt z1 z2) z3) z4;refine oO [_,_] rfl (fun wf hbf=>?_);have zz:Below wx.heap.size wx wf:=Bt (aN:Below wx.heap.size wx wx.drew) (Bt z hbf);have RR:=R1.out wf zz;have HH:=zh (Bt HB.out zz);clear z z1 z2 z3 z4 hbf zz R1 cp lp fp cq lq fq cx lc fx;obtain ⟨cR,lR,fR⟩:=RR.clf;have hm:=HM.out;go_wp2_with fail
   have RX:=RR.out;refine aY rfl rfl bf Tryz.underlying35 rfl zk ?_;exact ⟨rfl,(HH.out.setCell (p:=⟨bx,0,none⟩) hb0 _).setCell (p:=⟨bx,1,none⟩) hb0 _⟩
theorem Og (a1 a2 b1 b2:Int) (w:World):Calls Tryz.prog 123 #[Z I 2,au #[Z I a1,Z I a2],au #[Z I b1,Z I b2]] w (fun e w'=>e= ah (dH (if okB [(a1,a2),(b1,b2)] then I8 2 (a1,a2) (b1,b2) else ((0,0),30)))∧Below w.heap.size w w'):=by
 have C:=fun (p q r t:Nat) (W:World) (hp:aC W p #[Z I a1,Z I a2] 35) (hq:aC W q #[Z I b1,Z I b2] 35) (hr:aC W r #[Z I 2] 3) (h2:aC W t #[Z I a1,Z I a2,Z I b1,Z I b2] 35) =>
  jk 167 #[aA (some ⟨p,0,none⟩),aA (some ⟨q,0,none⟩),aA (some ⟨r,0,none⟩)] (I8 2 (a1,a2) (b1,b2)) _ _ _ W (qX.two h2) (fun h W' hW'=>J8 a1 a2 b1 b2 h p q r W' (hp.later hW') (hq.later hW') (hr.later hW')) (fun args W=>by kernel_rfl)
 generalize (if okB [(a1,a2),(b1,b2)] then I8 2 (a1,a2) (b1,b2) else ((0,0),30))=z at *;obtain ⟨⟨z1,z2⟩,z3⟩:=z;unfold dH at *;simp only at *;refine Fx.door Tryz.func123 rfl (.nil w []) ?_;refine Fx.new [] 3 #[Z I 2] 3 [] [] fun gV=>?_;refine Fx.new [] 4 #[Z I a1,Z I a2] 35 [] [] fun iD=>?_;refine Fx.new [] 5 #[Z I b1,Z I b2] 35 [] [] fun iL=>?_;refine Fx.bq [] 6 35 [] [] fun vo=>?_;refine Fx.newS [4,5] 11 2 2 #[Z I a1,Z I a2,Z I b1,Z I b2] 35 [(8,.func (.func 167) #[] #[aA (some ⟨iD,0,none⟩),aA (some ⟨iL,0,none⟩),aA (some ⟨gV,0,none⟩)])] [] fun rz=>?_;refine Fx.call [] 12 [] [] (fun W M=>C _ _ _ _ _ (M.box (b:=iD) 1) (M.box (b:=iL) 2) (M.box (b:=gV) 0) (M.box (b:=rz) 4)) ?_;exact Fx.jG 3 vo [6] [(3,#[Z I z1,Z I z2])] (fun W M=>⟨rfl,M.below⟩)
theorem Rm (a1 a2 b1 b2:Int) (w:World):Calls Tryz.prog 74 #[au #[Z I a1,Z I a2],au #[Z I b1,Z I b2]] w (fun e w'=>e= ah (dH (MV (a1,a2) (b1,b2)))∧Below w.heap.size w w'):=by
 have C:=fun W=>Oh a1 a2 b1 b2 W;rw [show (if okB [(a1,a2),(b1,b2)] then I8 1 (a1,a2) (b1,b2) else ((0,0),30))=MV (a1,a2) (b1,b2) from rfl] at C;generalize MV (a1,a2) (b1,b2)=z at *;obtain ⟨⟨z1,z2⟩,z3⟩:=z;unfold dH at *;simp only at *;refine Fx.door Tryz.func74 rfl (.nil w []) ?_;refine Fx.new [] 2 #[Z I a1,Z I a2] 35 [] [] fun gV=>?_;refine Fx.new [] 3 #[Z I b1,Z I b2] 35 [] [] fun iD=>?_;refine Fx.bq [] 4 35 [] [] fun iL=>?_;refine Fx.fC [3,4] 8 [] [] C ?_;exact Fx.jG 2 iL [5] [(2,#[Z I z1,Z I z2])] (fun W M=>⟨rfl,M.below⟩)
theorem OM (a1 a2 b1 b2:Int) (w:World):Calls Tryz.prog 161 #[au #[Z I a1,Z I a2],au #[Z I b1,Z I b2]] w (fun e w'=>e= ah (dH (Dw (a1,a2) (b1,b2)))∧Below w.heap.size w w'):=by
 have C:=fun W=>Og a1 a2 b1 b2 W;rw [show (if okB [(a1,a2),(b1,b2)] then I8 2 (a1,a2) (b1,b2) else ((0,0),30))=Dw (a1,a2) (b1,b2) from rfl] at C;generalize Dw (a1,a2) (b1,b2)=z at *;obtain ⟨⟨z1,z2⟩,z3⟩:=z;unfold dH at *;simp only at *;refine Fx.door Tryz.func161 rfl (.nil w []) ?_;refine Fx.new [] 2 #[Z I a1,Z I a2] 35 [] [] fun gV=>?_;refine Fx.new [] 3 #[Z I b1,Z I b2] 35 [] [] fun iD=>?_;refine Fx.bq [] 4 35 [] [] fun iL=>?_;refine Fx.fC [3,4] 8 [] [] C ?_;exact Fx.jG 2 iL [5] [(2,#[Z I z1,Z I z2])] (fun W M=>⟨rfl,M.below⟩)
end Go.Proofs.aQ
namespace Go.Proofs
open Go Go.RowKit Go.SW Go.Num Go.Mem Go.Proofs Go.gW
theorem Om {x y x' y' u v k:Int} (hx:aQ.MV (x,y) (x',y')=((u,v),k)) (w:World):Calls Tryz.prog 74 #[au #[Z I x,Z I y],au #[Z I x',Z I y']] w (fun e w'=>e= ah (aD #[au #[Z I u,Z I v],Z I k])∧Below w.heap.size w w'):=by
 have h:=aQ.Rm x y x' y' w;rw [hx] at h;exact h
theorem Oo {x y x' y' u v k:Int} (hx:aQ.Dw (x,y) (x',y')=((u,v),k)) (w:World):Calls Tryz.prog 161 #[au #[Z I x,Z I y],au #[Z I x',Z I y']] w (fun e w'=>e= ah (aD #[au #[Z I u,Z I v],Z I k])∧Below w.heap.size w w'):=by
 have h:=aQ.OM x y x' y' w;rw [hx] at h;exact h
theorem YC {x y u v k:Int} (hx:aQ.qY (x,y)=((u,v),k)) (w:World):Calls Tryz.prog 122 #[au #[Z I x,Z I y]] w (fun e w'=>e= ah (aD #[au #[Z I u,Z I v],Z I k])∧Below w.heap.size w w'):=by
 have h:=aQ.Vf x y w;rw [hx] at h;exact h
theorem Sy {x y u v k:Int} (hx:aQ.nT x y=((u,v),k)) (w:World):Calls Tryz.prog 150 #[au #[Z I x,Z I y]] w (fun e w'=>e= ah (aD #[au #[Z I u,Z I v],Z I k])∧Below w.heap.size w w'):=by
 have h:=aQ.G9 x y w;rw [hx] at h;exact h
theorem qX.three {w:World} {T:TypeId} {b:Nat} {x1 x2 x3 x4 x5 x6:Int} (h:aC w b #[Z I x1,Z I x2,Z I x3,Z I x4,Z I x5,Z I x6] T):qX w T (aj (some ⟨b,0,none⟩) 3 3) [(x1,x2),(x3,x4),(x5,x6)] :=
 qX.qm h rfl (aI _) zo fun i hi=>by
  have:i<3:=hi;obtain rfl|rfl|rfl:i=0∨i=1∨i=2:=by omega
  all_goals exact ⟨rfl,rfl⟩
theorem UH {x y u v s t a b k:Int} {q:Nat} (hx:power.zG [(x,y),(u,v),(s,t)]=((a,b),k)) (w:World) (hq:aC w q #[Z I x,Z I y,Z I u,Z I v,Z I s,Z I t] 35) (ht:gJ.Pow w) (he:whole.Er w):Calls Tryz.prog 67 #[aj (some ⟨q,0,none⟩) 3 3] w (fun e w'=>e= ah (aD #[au #[Z I a,Z I b],Z I k])∧Below w.heap.size w w'):=by
 have h:=power.Je _ _ [(x,y),(u,v),(s,t)] w (qX.three hq) ht he;rw [hx] at h;exact h
end Go.Proofs
