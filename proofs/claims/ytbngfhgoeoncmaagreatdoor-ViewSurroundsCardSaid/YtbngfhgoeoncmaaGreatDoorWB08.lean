/- Lemmas for the proof. No condition. -/
import Derived.Test.YtbngfhgoeoncmaaGreatDoorWB04
import Derived.Test.YtbngfhgoeoncmaaGreatDoorWB07
import Derived.Lib.ParseIntBTie
set_option linter.unusedVariables false
set_option linter.unusedSimpArgs false
set_option maxRecDepth 100000
set_option maxHeartbeats 16000000
open Bool renaming and_eq_true → aF
open Go.Ending renaming returned → aj
open Go.IntKind renaming i64 → I
open Go.Value renaming agg → aB, bool → ak, int → Z, pointer → ay, slice → ah, string → O, tuple → aD
open List renaming getD_eq_getElem?_getD → cO, getElem?_append_right → fC, getElem_mem → dx, length_cons → aV, replicate → bJ, set_append_right → jG, set_cons_succ → aN, set_cons_zero → aM
open Nat renaming add_assoc → kY, add_mul → dM, add_zero → fZ, eq_zero_or_pos → aY, le_refl → aC, le_trans → au, lt_of_lt_of_le → aP, lt_or_ge → aH, mul_assoc → dA, mul_comm → aJ, mul_le_mul → fq, mul_le_mul_left → aT, pow_add → gy, pow_le_pow_right → bW, pow_succ → bS, zero_add → dP
namespace Go.Proofs.dZ
open Go Go.RowKit Go.SW Go.Num Go.Mem Go.Proofs Go.Dec Go.fG Go.Fx
theorem TJ {s t s' t':ByteArray} {p q r:Rat} (h:rd ⟨s,t⟩=some p) (k:rd ⟨s',t'⟩=some q) (HF:∀ x y W,gI W x p→gI W y q→Calls Tryz.prog 213 #[x,y] W (fun e w'=>∃ v,e= aj v∧Bw W w'∧gI w' v r)) (w:World) :
  Calls Tryz.prog 38 #[aB #[O s,O t],aB #[O s',O t'],.func (.func 213) #[] #[]] w (fun e w'=>∃ v,e= aj (aD #[v,Z I 0])∧Bw w w'∧gI w' v r):=by
 have R1:=fun W=>(gY h W).mono fun _ _ q=>vX q;have R2:=fun W=>(gY k W).mono fun _ _ q=>vX q;have F:=fun x y W h k=>(HF x y W h k).mono fun _ _ q=>ae8 q;refine Fx.door Tryz.func38 rfl (.nil w []) ?_;have B0:=Fx.Dn.nil w;refine Fx.new [] 3 #[O s,O t] 38 [] [] fun iB=>?_;refine Fx.new [] 4 #[O (s'),O (t')] 38 [] [] fun jX=>?_;refine Fx.bK [] 6 88 [] [] fun jN=>?_;refine Fx.iP [3] 15 [] [] (fun W M=>R1 _) ?_;rintro W w4 e M ⟨p1,l1,c1,b1,q1,m1,d1,rfl,D4,Q1⟩;refine ⟨D4,fun M4=>?_⟩;have B4:=B0.next M4
 refine Fx.bK [] 8 88 [(16,aB #[ah p1 l1 c1,ak b1,ah q1 m1 d1]),(17,ak true)] [] fun PL=>?_;refine Fx.iP [6,4] 20 [(9,ak true)] [(3,#[ah p1 l1 c1,ak b1,ah q1 m1 d1])] (fun W M=>R2 _) ?_;rintro W w6 e M ⟨p2,l2,c2,b2,q2,m2,d2,rfl,D6,Q2⟩;refine ⟨D6,fun M6=>?_⟩;replace Q1:=Q1.keep (M4.keep M6);have B6:=B4.next M6
 refine Fx.bK [] 10 88 [(21,aB #[ah p2 l2 c2,ak b2,ah q2 m2 d2]),(22,ak true)] [] fun Rt=>?_;refine Fx.iP [7,2,6,7] 33 [] [(4,#[ah p2 l2 c2,ak b2,ah q2 m2 d2])] (fun W M=>F _ _ _ (Q1.keep (M6.keep M)) (Q2.keep (M6.keep M))) ?_;rintro W w8 e M ⟨p3,l3,c3,b3,q3,m3,d3,rfl,D8,Q3⟩;refine ⟨D8,fun M8=>?_⟩;have B8:=B6.next M8
 exact Fx.jm (cs:=#[ah p3 l3 c3,ak b3,ah q3 m3 d3]) (y:=Z I 0) 2 jN [5] [(2,#[ah p3 l3 c3,ak b3,ah q3 m3 d3])] (fun W M=>by have HB:=(B8.at M);exact ⟨_,rfl,HB,(Q3.keep (M8.keep M))⟩)
theorem Ib {s t s' t':ByteArray} (h:rd ⟨s,t⟩=none∨rd ⟨s',t'⟩=none) (w:World) :
  Calls Tryz.prog 38 #[aB #[O s,O t],aB #[O s',O t'],.func (.func 213) #[] #[]] w (fun e w'=>e= aj (aD #[aB #[ah none 0 0,ak false,ah none 0 0],Z I 20])∧Bw w w'):=by
 cases h1:rd ⟨s,t⟩ with
 | none =>
  have R1:=fun W=>iE h1 W;cases k:rd ⟨s',t'⟩ with
  | none =>
   have R2:=fun W=>iE k W;refine Fx.door Tryz.func38 rfl (.nil w []) ?_;refine Fx.new [] 3 #[O s,O t] 38 [] [] fun iB=>?_;refine Fx.new [] 4 #[O (s'),O (t')] 38 [] [] fun jX=>?_;refine Fx.bK [] 6 88 [] [] fun jN=>?_;refine Fx.gX [3] 15 [] [] R1 ?_;refine Fx.bK [] 8 88 [(16,aB #[ah none 0 0,ak false,ah none 0 0]),(17,ak false)] [] fun yX=>?_;refine Fx.gX [6,4] 20 [(9,ak false)] [(3,#[ah none 0 0,ak false,ah none 0 0])] R2 ?_;refine Fx.bK [] 10 88 [(21,aB #[ah none 0 0,ak false,ah none 0 0]),(22,ak false)] [] fun PL=>?_;refine Fx.bK [7,1] 12 88 [] [(4,#[ah none 0 0,ak false,ah none 0 0])] fun GJ=>?_;exact Fx.jm 2 jN [8,5] [(2,#[ah none 0 0,ak false,ah none 0 0])] (fun W M=>⟨rfl,M.below⟩)
  | some q =>
   have R2:=fun W=>(gY k W).mono fun _ _ q=>vX q;refine Fx.door Tryz.func38 rfl (.nil w []) ?_;have B0:=Fx.Dn.nil w;refine Fx.new [] 3 #[O s,O t] 38 [] [] fun iB=>?_;refine Fx.new [] 4 #[O (s'),O (t')] 38 [] [] fun jX=>?_;refine Fx.bK [] 6 88 [] [] fun jN=>?_;refine Fx.gX [3] 15 [] [] R1 ?_;refine Fx.bK [] 8 88 [(16,aB #[ah none 0 0,ak false,ah none 0 0]),(17,ak false)] [] fun yX=>?_;refine Fx.iP [6,4] 20 [(9,ak false)] [(3,#[ah none 0 0,ak false,ah none 0 0])] (fun W M=>R2 _) ?_;rintro W w5 e M ⟨p2,l2,c2,b2,q2,m2,d2,rfl,D5, -⟩;refine ⟨D5,fun M5=>?_⟩;have B5:=B0.next M5
   refine Fx.bK [] 10 88 [(21,aB #[ah p2 l2 c2,ak b2,ah q2 m2 d2]),(22,ak true)] [] fun GJ=>?_;refine Fx.bK [7,1] 12 88 [] [(4,#[ah p2 l2 c2,ak b2,ah q2 m2 d2])] fun Rt=>?_;exact Fx.jm 2 jN [8,5] [(2,#[ah none 0 0,ak false,ah none 0 0])] (fun W M=>⟨rfl,(B5.at M)⟩)
 | some p =>
  have R1:=fun W=>(gY h1 W).mono fun _ _ q=>vX q;have k:rd ⟨s',t'⟩=none:=h.resolve_left (by rw [h1];simp);have R2:=fun W=>iE k W;refine Fx.door Tryz.func38 rfl (.nil w []) ?_;have B0:=Fx.Dn.nil w;refine Fx.new [] 3 #[O s,O t] 38 [] [] fun iB=>?_;refine Fx.new [] 4 #[O (s'),O (t')] 38 [] [] fun jX=>?_;refine Fx.bK [] 6 88 [] [] fun jN=>?_;refine Fx.iP [3] 15 [] [] (fun W M=>R1 _) ?_;rintro W w4 e M ⟨p1,l1,c1,b1,q1,m1,d1,rfl,D4, -⟩;refine ⟨D4,fun M4=>?_⟩;have B4:=B0.next M4
  refine Fx.bK [] 8 88 [(16,aB #[ah p1 l1 c1,ak b1,ah q1 m1 d1]),(17,ak true)] [] fun PL=>?_;refine Fx.gX [6,4] 20 [(9,ak true)] [(3,#[ah p1 l1 c1,ak b1,ah q1 m1 d1])] R2 ?_;refine Fx.bK [] 10 88 [(21,aB #[ah none 0 0,ak false,ah none 0 0]),(22,ak false)] [] fun GJ=>?_;refine Fx.bK [7,1] 12 88 [] [(4,#[ah none 0 0,ak false,ah none 0 0])] fun Rt=>?_;exact Fx.jm 2 jN [8,5] [(2,#[ah none 0 0,ak false,ah none 0 0])] (fun W M=>⟨rfl,(B4.at M)⟩)
theorem wZ (a b:Fr) (w:World) (ht:ko.Pow w):Calls Tryz.prog 140 #[a.v,b.v] w (fun e w'=>e= aj (Fr.res (wS a b))∧Bw w w'):=by
 obtain ⟨s,t⟩:=a;obtain ⟨s',t'⟩:=b
 show Calls _ _ #[aB #[O s,O t],aB #[O s',O t']] _ _
 unfold wS
 by_cases hbad:rd ⟨s,t⟩=none∨rd ⟨s',t'⟩=none
 ·have e:∀ f,bin f ⟨s,t⟩ ⟨s',t'⟩=(Fr.no,20):=fun f=>by
   rcases hbad with h|h
   ·exact rU h
   ·exact rT h
  rw [e];have HA:=fun W=>Ib hbad W;refine Fx.door Tryz.func140 rfl (.nil w []) ?_;refine Fx.new [] 2 #[O s,O t] 38 [] [] fun iB=>?_;refine Fx.new [] 3 #[O (s'),O (t')] 38 [] [] fun jX=>?_;refine Fx.bK [] 4 38 [] [] fun jN=>?_;refine Fx.gX [3,4] 8 [] [] HA ?_;refine Fx.call [] 11 [] [] (fun W M=>yK _) ?_;exact Fx.jm 2 jN [5] [(2,#[O (⟨#[]⟩),O (⟨#[]⟩)])] (fun W M=>⟨rfl,M.below⟩)
 ·obtain ⟨p,hp⟩:∃ p,rd ⟨s,t⟩=some p:=Option.ne_none_iff_exists'.1 (fun e=>hbad (.inl e));obtain ⟨q,hq⟩:∃ q,rd ⟨s',t'⟩=some q:=Option.ne_none_iff_exists'.1 (fun e=>hbad (.inr e));rw [kH hp hq];have KP:=lg (ow hp).2;have KQ:=lg (ow hq).2;have HA:=fun W=>TJ (r:=p+q) hp hq (fun x y W h k=>Xv x y p q W h k (KP.mono zo) (KQ.mono zo)) W;have HR:=fun v W h ht=>Bd v (p+q) W h (mQ.mono (k:=135) (CS KP KQ) zo) ht;generalize wr (p+q)=x at *;obtain ⟨⟨s1,t1⟩,e⟩:=x;refine Fx.door Tryz.func140 rfl (.nil w []) ?_;have B0:=Fx.Dn.nil w;refine Fx.new [] 2 #[O s,O t] 38 [] [] fun iB=>?_;refine Fx.new [] 3 #[O (s'),O (t')] 38 [] [] fun jX=>?_;refine Fx.bK [] 4 38 [] [] fun jN=>?_;refine Fx.iP [3,4] 8 [] [] (fun W M=>HA _) ?_;rintro W w4 e M ⟨v1,rfl,D4,Q1⟩;refine ⟨D4,fun M4=>?_⟩;have B4:=B0.next M4
  refine Fx.call [] 11 [] [] (fun W M=>HR _ _ (Q1.keep (M4.keep M)) (ht.later (B4.at M))) ?_;exact Fx.jm 2 jN [5] [(2,#[O s1,O t1])] (fun W M=>⟨rfl,(B4.at M)⟩)
theorem TH {s t s' t':ByteArray} {p q r:Rat} (h:rd ⟨s,t⟩=some p) (k:rd ⟨s',t'⟩=some q) (HF:∀ x y W,gI W x p→gI W y q→Calls Tryz.prog 214 #[x,y] W (fun e w'=>∃ v,e= aj v∧Bw W w'∧gI w' v r)) (w:World) :
  Calls Tryz.prog 38 #[aB #[O s,O t],aB #[O s',O t'],.func (.func 214) #[] #[]] w (fun e w'=>∃ v,e= aj (aD #[v,Z I 0])∧Bw w w'∧gI w' v r):=by
 have R1:=fun W=>(gY h W).mono fun _ _ q=>vX q;have R2:=fun W=>(gY k W).mono fun _ _ q=>vX q;have F:=fun x y W h k=>(HF x y W h k).mono fun _ _ q=>ae8 q;refine Fx.door Tryz.func38 rfl (.nil w []) ?_;have B0:=Fx.Dn.nil w;refine Fx.new [] 3 #[O s,O t] 38 [] [] fun iB=>?_;refine Fx.new [] 4 #[O (s'),O (t')] 38 [] [] fun jX=>?_;refine Fx.bK [] 6 88 [] [] fun jN=>?_;refine Fx.iP [3] 15 [] [] (fun W M=>R1 _) ?_;rintro W w4 e M ⟨p1,l1,c1,b1,q1,m1,d1,rfl,D4,Q1⟩;refine ⟨D4,fun M4=>?_⟩;have B4:=B0.next M4
 refine Fx.bK [] 8 88 [(16,aB #[ah p1 l1 c1,ak b1,ah q1 m1 d1]),(17,ak true)] [] fun PL=>?_;refine Fx.iP [6,4] 20 [(9,ak true)] [(3,#[ah p1 l1 c1,ak b1,ah q1 m1 d1])] (fun W M=>R2 _) ?_;rintro W w6 e M ⟨p2,l2,c2,b2,q2,m2,d2,rfl,D6,Q2⟩;refine ⟨D6,fun M6=>?_⟩;replace Q1:=Q1.keep (M4.keep M6);have B6:=B4.next M6
 refine Fx.bK [] 10 88 [(21,aB #[ah p2 l2 c2,ak b2,ah q2 m2 d2]),(22,ak true)] [] fun Rt=>?_;refine Fx.iP [7,2,6,7] 33 [] [(4,#[ah p2 l2 c2,ak b2,ah q2 m2 d2])] (fun W M=>F _ _ _ (Q1.keep (M6.keep M)) (Q2.keep (M6.keep M))) ?_;rintro W w8 e M ⟨p3,l3,c3,b3,q3,m3,d3,rfl,D8,Q3⟩;refine ⟨D8,fun M8=>?_⟩;have B8:=B6.next M8
 exact Fx.jm (cs:=#[ah p3 l3 c3,ak b3,ah q3 m3 d3]) (y:=Z I 0) 2 jN [5] [(2,#[ah p3 l3 c3,ak b3,ah q3 m3 d3])] (fun W M=>by have HB:=(B8.at M);exact ⟨_,rfl,HB,(Q3.keep (M8.keep M))⟩)
theorem Ia {s t s' t':ByteArray} (h:rd ⟨s,t⟩=none∨rd ⟨s',t'⟩=none) (w:World) :
  Calls Tryz.prog 38 #[aB #[O s,O t],aB #[O s',O t'],.func (.func 214) #[] #[]] w (fun e w'=>e= aj (aD #[aB #[ah none 0 0,ak false,ah none 0 0],Z I 20])∧Bw w w'):=by
 cases h1:rd ⟨s,t⟩ with
 | none =>
  have R1:=fun W=>iE h1 W;cases k:rd ⟨s',t'⟩ with
  | none =>
   have R2:=fun W=>iE k W;refine Fx.door Tryz.func38 rfl (.nil w []) ?_;refine Fx.new [] 3 #[O s,O t] 38 [] [] fun iB=>?_;refine Fx.new [] 4 #[O (s'),O (t')] 38 [] [] fun jX=>?_;refine Fx.bK [] 6 88 [] [] fun jN=>?_;refine Fx.gX [3] 15 [] [] R1 ?_;refine Fx.bK [] 8 88 [(16,aB #[ah none 0 0,ak false,ah none 0 0]),(17,ak false)] [] fun yX=>?_;refine Fx.gX [6,4] 20 [(9,ak false)] [(3,#[ah none 0 0,ak false,ah none 0 0])] R2 ?_;refine Fx.bK [] 10 88 [(21,aB #[ah none 0 0,ak false,ah none 0 0]),(22,ak false)] [] fun PL=>?_;refine Fx.bK [7,1] 12 88 [] [(4,#[ah none 0 0,ak false,ah none 0 0])] fun GJ=>?_;exact Fx.jm 2 jN [8,5] [(2,#[ah none 0 0,ak false,ah none 0 0])] (fun W M=>⟨rfl,M.below⟩)
  | some q =>
   have R2:=fun W=>(gY k W).mono fun _ _ q=>vX q;refine Fx.door Tryz.func38 rfl (.nil w []) ?_;have B0:=Fx.Dn.nil w;refine Fx.new [] 3 #[O s,O t] 38 [] [] fun iB=>?_;refine Fx.new [] 4 #[O (s'),O (t')] 38 [] [] fun jX=>?_;refine Fx.bK [] 6 88 [] [] fun jN=>?_;refine Fx.gX [3] 15 [] [] R1 ?_;refine Fx.bK [] 8 88 [(16,aB #[ah none 0 0,ak false,ah none 0 0]),(17,ak false)] [] fun yX=>?_;refine Fx.iP [6,4] 20 [(9,ak false)] [(3,#[ah none 0 0,ak false,ah none 0 0])] (fun W M=>R2 _) ?_;rintro W w5 e M ⟨p2,l2,c2,b2,q2,m2,d2,rfl,D5, -⟩;refine ⟨D5,fun M5=>?_⟩;have B5:=B0.next M5
   refine Fx.bK [] 10 88 [(21,aB #[ah p2 l2 c2,ak b2,ah q2 m2 d2]),(22,ak true)] [] fun GJ=>?_;refine Fx.bK [7,1] 12 88 [] [(4,#[ah p2 l2 c2,ak b2,ah q2 m2 d2])] fun Rt=>?_;exact Fx.jm 2 jN [8,5] [(2,#[ah none 0 0,ak false,ah none 0 0])] (fun W M=>⟨rfl,(B5.at M)⟩)
 | some p =>
  have R1:=fun W=>(gY h1 W).mono fun _ _ q=>vX q;have k:rd ⟨s',t'⟩=none:=h.resolve_left (by rw [h1];simp);have R2:=fun W=>iE k W;refine Fx.door Tryz.func38 rfl (.nil w []) ?_;have B0:=Fx.Dn.nil w;refine Fx.new [] 3 #[O s,O t] 38 [] [] fun iB=>?_;refine Fx.new [] 4 #[O (s'),O (t')] 38 [] [] fun jX=>?_;refine Fx.bK [] 6 88 [] [] fun jN=>?_;refine Fx.iP [3] 15 [] [] (fun W M=>R1 _) ?_;rintro W w4 e M ⟨p1,l1,c1,b1,q1,m1,d1,rfl,D4, -⟩;refine ⟨D4,fun M4=>?_⟩;have B4:=B0.next M4
  refine Fx.bK [] 8 88 [(16,aB #[ah p1 l1 c1,ak b1,ah q1 m1 d1]),(17,ak true)] [] fun PL=>?_;refine Fx.gX [6,4] 20 [(9,ak true)] [(3,#[ah p1 l1 c1,ak b1,ah q1 m1 d1])] R2 ?_;refine Fx.bK [] 10 88 [(21,aB #[ah none 0 0,ak false,ah none 0 0]),(22,ak false)] [] fun GJ=>?_;refine Fx.bK [7,1] 12 88 [] [(4,#[ah none 0 0,ak false,ah none 0 0])] fun Rt=>?_;exact Fx.jm 2 jN [8,5] [(2,#[ah none 0 0,ak false,ah none 0 0])] (fun W M=>⟨rfl,(B4.at M)⟩)
theorem BF (a b:Fr) (w:World) (ht:ko.Pow w):Calls Tryz.prog 141 #[a.v,b.v] w (fun e w'=>e= aj (Fr.res (yE a b))∧Bw w w'):=by
 obtain ⟨s,t⟩:=a;obtain ⟨s',t'⟩:=b
 show Calls _ _ #[aB #[O s,O t],aB #[O s',O t']] _ _
 unfold yE
 by_cases hbad:rd ⟨s,t⟩=none∨rd ⟨s',t'⟩=none
 ·have e:∀ f,bin f ⟨s,t⟩ ⟨s',t'⟩=(Fr.no,20):=fun f=>by
   rcases hbad with h|h
   ·exact rU h
   ·exact rT h
  rw [e];have HA:=fun W=>Ia hbad W;refine Fx.door Tryz.func141 rfl (.nil w []) ?_;refine Fx.new [] 2 #[O s,O t] 38 [] [] fun iB=>?_;refine Fx.new [] 3 #[O (s'),O (t')] 38 [] [] fun jX=>?_;refine Fx.bK [] 4 38 [] [] fun jN=>?_;refine Fx.gX [3,4] 8 [] [] HA ?_;refine Fx.call [] 11 [] [] (fun W M=>yK _) ?_;exact Fx.jm 2 jN [5] [(2,#[O (⟨#[]⟩),O (⟨#[]⟩)])] (fun W M=>⟨rfl,M.below⟩)
 ·obtain ⟨p,hp⟩:∃ p,rd ⟨s,t⟩=some p:=Option.ne_none_iff_exists'.1 (fun e=>hbad (.inl e));obtain ⟨q,hq⟩:∃ q,rd ⟨s',t'⟩=some q:=Option.ne_none_iff_exists'.1 (fun e=>hbad (.inr e));rw [kH hp hq];have KP:=lg (ow hp).2;have KQ:=lg (ow hq).2;have HA:=fun W=>TH (r:=p - q) hp hq (fun x y W h k=>an6 x y p q W h k (KP.mono zo) (KQ.mono zo)) W;have HR:=fun v W h ht=>Bd v (p - q) W h (mQ.mono (k:=135) (YJ KP KQ) zo) ht;generalize wr (p - q)=x at *;obtain ⟨⟨s1,t1⟩,e⟩:=x;refine Fx.door Tryz.func141 rfl (.nil w []) ?_;have B0:=Fx.Dn.nil w;refine Fx.new [] 2 #[O s,O t] 38 [] [] fun iB=>?_;refine Fx.new [] 3 #[O (s'),O (t')] 38 [] [] fun jX=>?_;refine Fx.bK [] 4 38 [] [] fun jN=>?_;refine Fx.iP [3,4] 8 [] [] (fun W M=>HA _) ?_;rintro W w4 e M ⟨v1,rfl,D4,Q1⟩;refine ⟨D4,fun M4=>?_⟩;have B4:=B0.next M4
  refine Fx.call [] 11 [] [] (fun W M=>HR _ _ (Q1.keep (M4.keep M)) (ht.later (B4.at M))) ?_;exact Fx.jm 2 jN [5] [(2,#[O s1,O t1])] (fun W M=>⟨rfl,(B4.at M)⟩)
end Go.Proofs.dZ
namespace Go.Proofs.dZ
open Go Go.RowKit Go.SW Go.Num Go.Mem Go.Proofs Go.Dec Go.fG
theorem aa6 (s t s' t':ByteArray) (w:World) (h:rd ⟨s,t⟩=none∨rd ⟨s',t'⟩=none) :
  Calls Tryz.prog 78 #[aB #[O s,O t],aB #[O s',O t']] w (fun e w'=>e= aj (aD #[aB #[O ⟨#[]⟩,O ⟨#[]⟩],Z I 20])∧Bw w w'):=by
 cases h1:rd ⟨s,t⟩ with
 | none =>
  have HR:=zh (iE h1);cases k:rd ⟨s',t'⟩ with
  | none =>
   have HS:=zh (iE k);clear h k h1;go_enter Tryz.func78,Tryz.ntmps78
   go_wp2_with fail
   refine (HR.out _).mono ?_;rintro e v1 ⟨rfl,hc1⟩;have BR:=aA.later (aA.at2 _ _ _ _ _) hc1;have dL:=BR.cell;have dK:=BR.free;have iQ:=BR.lt;have B1:=aA.later (aA.alloc (aA.qW _ _ _ _) _) hc1;have cB1:=B1.cell;have ru:=B1.free;have lB1:=B1.lt;go_wp2_with fail
   refine (HS.out _).mono ?_;rintro e v2 ⟨rfl,hc2⟩;replace BR:aA _ (w.heap.size+1+1) _ _:=aA.later bq hc2;(try simp only [List.setIfInBounds_toArray,aM,aN] at BR);replace dL:=BR.cell;replace dK:=BR.free;replace iQ:=BR.lt;go_wp2_with fail
   refine bX rfl rfl bq Tryz.underlying38 rfl zk ?_;exact ⟨rfl,aI⟩
  | some q =>
   have HS:=zh (gY k);clear h k h1;go_enter Tryz.func78,Tryz.ntmps78
   go_wp2_with fail
   refine (HR.out _).mono ?_;rintro e v1 ⟨rfl,hc1⟩;have BR:=aA.later (aA.at2 _ _ _ _ _) hc1;have dL:=BR.cell;have dK:=BR.free;have iQ:=BR.lt;have B1:=aA.later (aA.alloc (aA.qW _ _ _ _) _) hc1;have cB1:=B1.cell;have ru:=B1.free;have lB1:=B1.lt;go_wp2_with fail
   refine (HS.out _).mono ?_;rintro e v2 ⟨v,rfl,hc2,hv⟩;obtain ⟨Cq,Ub,Cy,GX,Yc,H7,rfl,Hq,vI⟩:=hv;replace Hq:=zh Hq;replace vI:=zh vI;replace BR:aA _ (w.heap.size+1+1) _ _:=aA.later bq hc2;(try simp only [List.setIfInBounds_toArray,aM,aN] at BR);replace dL:=BR.cell;replace dK:=BR.free;replace iQ:=BR.lt;go_wp2_with fail
   refine bX rfl rfl bq Tryz.underlying38 rfl zk ?_;exact ⟨rfl,aI⟩
 | some p =>
  have HR:=zh (gY h1);cases k:rd ⟨s',t'⟩ with
  | none =>
   have HS:=zh (iE k);clear h k h1;go_enter Tryz.func78,Tryz.ntmps78
   go_wp2_with fail
   refine (HR.out _).mono ?_;rintro e v1 ⟨v,rfl,hc1,hv⟩;obtain ⟨OH,lHp,PK,Sw,mHp,TA,rfl,Hp,yt⟩:=hv;replace Hp:=zh Hp;replace yt:=zh yt;have BR:=aA.later (aA.at2 _ _ _ _ _) hc1;have dL:=BR.cell;have dK:=BR.free;have iQ:=BR.lt;have B1:=aA.later (aA.alloc (aA.qW _ _ _ _) _) hc1;have cB1:=B1.cell;have ru:=B1.free;have lB1:=B1.lt;go_wp2_with fail
   refine (HS.out _).mono ?_;rintro e v2 ⟨rfl,hc2⟩;replace BR:aA _ (w.heap.size+1+1) _ _:=aA.later bq hc2;(try simp only [List.setIfInBounds_toArray,aM,aN] at BR);replace dL:=BR.cell;replace dK:=BR.free;replace iQ:=BR.lt;go_wp2_with fail
   refine bX rfl rfl bq Tryz.underlying38 rfl zk ?_;exact ⟨rfl,aI⟩
  | some q=>rw [h1,k] at h;simp at h
theorem div_zero (s t s' t':ByteArray) (w:World) (p:Rat) (h:rd ⟨s,t⟩=some p) (k:rd ⟨s',t'⟩=some 0) :
  Calls Tryz.prog 78 #[aB #[O s,O t],aB #[O s',O t']] w (fun e w'=>e= aj (aD #[aB #[O ⟨#[]⟩,O ⟨#[]⟩],Z I 7])∧Bw w w'):=by
 have HR:=zh (gY h);have HS:=zh (gY k);clear h k;obtain ⟨n,En⟩:∃ y:Nat,Hid ((0:Rat).num.natAbs=y):=⟨_,zh rfl⟩;have hz:decide (n=0)=true:=by rw [← En.out];rfl
 have HZ:=zh hz;clear hz;go_enter Tryz.func78,Tryz.ntmps78
 go_wp2_with fail
 refine (HR.out _).mono ?_;rintro e v1 ⟨v,rfl,hc1,hv⟩;obtain ⟨OH,lHp,PK,Sw,mHp,TA,rfl,Hp,yt⟩:=hv;replace Hp:=zh Hp;replace yt:=zh yt;have BR:=aA.later (aA.at2 _ _ _ _ _) hc1;have dL:=BR.cell;have dK:=BR.free;have iQ:=BR.lt;have B1:=aA.later (aA.alloc (aA.qW _ _ _ _) _) hc1;have cB1:=B1.cell;have ru:=B1.free;have lB1:=B1.lt;go_wp2_with fail
 refine (HS.out _).mono ?_;rintro e v2 ⟨v,rfl,hc2,hv⟩;obtain ⟨Cq,Ub,Cy,GX,Yc,H7,rfl,Hq,vI⟩:=hv;replace Hq:=zh Hq;replace vI:=zh vI;replace BR:aA _ (w.heap.size+1+1) _ _:=aA.later bq hc2;(try simp only [List.setIfInBounds_toArray,aM,aN] at BR);replace dL:=BR.cell;replace dK:=BR.free;replace iQ:=BR.lt;go_wp2_with fail
 rw [En.out] at Hq;refine (iI _ n _ aR).mono ?_;rintro e v5 ⟨rfl,rfl⟩;rw [HZ.out];go_wp2_with fail
 refine bX rfl rfl bq Tryz.underlying38 rfl zk ?_;exact ⟨rfl,aI⟩
theorem Xb (s t s' t':ByteArray) (w:World) (p q:Rat) (h:rd ⟨s,t⟩=some p) (k:rd ⟨s',t'⟩=some q) (h0:q≠0) (ht:ko.Pow w) :
  Calls Tryz.prog 78 #[aB #[O s,O t],aB #[O s',O t']] w (fun e w'=>e= aj (Fr.res (wr (p / q)))∧Bw w w'):=by
 have HR:=zh (gY h);have HS:=zh (gY k);have kp:=lg (ow h).2;have kq:=lg (ow k).2;have ki:=Qo kq h0
 have hz:decide (q.num.natAbs=0)=false:=by
  simp [h0]
 have HZ:=zh hz;have HQ0:=zh h0;have HT:=zh ht;rw [Rat.div_def];have km:=CK kp ki;obtain ⟨i,Ei⟩:∃ y:Rat,Hid (q⁻¹=y):=⟨_,zh rfl⟩;rw [Ei.out] at km ki ⊢;obtain ⟨r,Er⟩:∃ y:Rat,Hid (p*i=y):=⟨_,zh rfl⟩;rw [Er.out] at km ⊢;have KP:=zh (kp.mono (show 67≤1000000 by omega));have KI:=zh (ki.mono (show 67≤1000000 by omega));have KR:=zh (km.mono (show 2*67≤1000000 by omega));obtain ⟨x,Ex⟩:∃ y:FrI,Hid (wr r=y):=⟨_,zh rfl⟩;rw [Ex.out];obtain ⟨⟨s1,t1⟩,e⟩:=x;rw [rZ];clear h k kp kq ki hz h0 ht km;go_enter Tryz.func78,Tryz.ntmps78
 go_wp2_with fail
 refine (HR.out _).mono ?_;rintro e v1 ⟨v,rfl,hc1,hv⟩;obtain ⟨OH,lHp,PK,Sw,mHp,TA,rfl,Hp,yt⟩:=hv;replace Hp:=zh Hp;replace yt:=zh yt;have BR:=aA.later (aA.at2 _ _ _ _ _) hc1;have dL:=BR.cell;have dK:=BR.free;have iQ:=BR.lt;have B1:=aA.later (aA.alloc (aA.qW _ _ _ _) _) hc1;have cB1:=B1.cell;have ru:=B1.free;have lB1:=B1.lt;go_wp2_with fail
 refine (HS.out _).mono ?_;rintro e v2 ⟨v,rfl,hc2,hv⟩;obtain ⟨Cq,Ub,Cy,GX,Yc,H7,rfl,Hq,vI⟩:=hv;replace Hq:=zh Hq;replace vI:=zh vI;replace Hp:=zh (aZ.carry Hp.out aR hc2);replace yt:=zh (aZ.carry yt.out aR hc2);replace X1:aA _ (v1.heap.size) _ _:=aA.later bq hc2;(try simp only [List.setIfInBounds_toArray,aM,aN] at X1);replace qx:=X1.cell;replace sS:=X1.free;replace qo:=X1.lt;replace BR:aA _ (w.heap.size+1+1) _ _:=aA.later bq hc2;(try simp only [List.setIfInBounds_toArray,aM,aN] at BR);replace dL:=BR.cell;replace dK:=BR.free;replace iQ:=BR.lt;go_wp2_with fail
 refine (iI _ q.num.natAbs _ aR).mono ?_;rintro e v5 ⟨rfl,rfl⟩;rw [HZ.out];go_wp2_with fail
 refine aO [(.read,0),(.read,1),(.ext,2),(.ext,3),(.ext,4),(.pure,5),(.pure,6),(.fin,7),(.fin,8)] zk zk zR zP ?_;refine zV ?_;refine aL rfl rfl (fun w3 hb3 J hJ=>?_);go_simp;replace Hp:=zh (aZ.carry Hp.out aR hb3);replace yt:=zh (aZ.carry yt.out aR hb3);replace BR:aA _ (w.heap.size+1+1) _ _:=aA.later bq hb3;(try simp only [List.setIfInBounds_toArray,aM,aN] at BR);replace dL:=BR.cell;replace dK:=BR.free;replace iQ:=BR.lt;refine ((O6 _ q _ (gI.of aR aR) HQ0.out).mono (by rw [Ei.out];exact fun _ _ h=>h)).mono ?_;rintro e v3 ⟨v,rfl,hc3,hv⟩;obtain ⟨aR7,lHv,aY0,be5,mHv,bj7,rfl,Hv,Hvd⟩:=hv;replace Hv:=zh Hv;replace Hvd:=zh Hvd;replace Hp:=zh (aZ.later Hp.out hc3);replace yt:=zh (aZ.later yt.out hc3);replace BR:=aA.later (BR) hc3;replace dL:=BR.cell;replace dK:=BR.free;replace iQ:=BR.lt
 refine hJ _ _ hc3 ?_;clear hJ J;refine aL rfl rfl (fun w4 hb4 J hJ=>?_);go_simp;replace Hp:=zh (aZ.later Hp.out hb4);replace yt:=zh (aZ.later yt.out hb4);replace Hv:=zh (aZ.later Hv.out hb4);replace Hvd:=zh (aZ.later Hvd.out hb4);replace BR:=aA.later (BR) hb4;replace dL:=BR.cell;replace dK:=BR.free;replace iQ:=BR.lt;refine ((VH _ _ p i _ (gI.of aR aR) (gI.of aR aR) KP.out KI.out).mono (by rw [Er.out];exact fun _ _ h=>h)).mono ?_;rintro e v4 ⟨v,rfl,hc4,hv⟩;obtain ⟨Vo,lHr,Xn,ao7,mHr,ax2,rfl,Hr,P9⟩:=hv;replace Hr:=zh Hr;replace P9:=zh P9;replace Hp:=zh (aZ.later Hp.out hc4);replace yt:=zh (aZ.later yt.out hc4);replace Hv:=zh (aZ.later Hv.out hc4);replace Hvd:=zh (aZ.later Hvd.out hc4);replace BR:=aA.later (BR) hc4;replace dL:=BR.cell;replace dK:=BR.free;replace iQ:=BR.lt;refine hJ _ _ hc4 ?_;clear hJ J
 refine aL rfl rfl (fun w5 hb5 J hJ=>?_);go_simp;replace Hr:=zh (aZ.later Hr.out hb5);replace P9:=zh (aZ.later P9.out hb5);replace BR:=aA.later (BR) hb5;replace dL:=BR.cell;replace dK:=BR.free;replace iQ:=BR.lt;refine ((kV _ r _ (gI.of aR aR) KR.out (HT.out.later aI)).mono (by rw [Ex.out,rZ];exact fun _ _ h=>h)).mono ?_;rintro e v5 ⟨rfl,nO⟩;replace Hr:=zh (aZ.later Hr.out nO);replace P9:=zh (aZ.later P9.out nO);replace BR:=aA.later (BR) nO;replace dL:=BR.cell;replace dK:=BR.free;replace iQ:=BR.lt;refine hJ _ _ nO ?_;clear hJ J;refine zV ?_;refine cZ [_,_] rfl (fun w9 rJ=>?_);replace BR:=aA.later (BR) rJ;replace dL:=BR.cell;replace dK:=BR.free;replace iQ:=BR.lt;go_wp2_with fail
 refine bX rfl rfl bq Tryz.underlying38 rfl zk ?_;exact ⟨rfl,aI⟩
theorem qX (a b:Fr) (w:World) (ht:ko.Pow w) :
  Calls Tryz.prog 78 #[a.v,b.v] w (fun e w'=>e= aj (Fr.res (nP a b))∧Bw w w'):=by
 obtain ⟨s,t⟩:=a;obtain ⟨s',t'⟩:=b
 show Calls _ _ #[aB #[O s,O t],aB #[O s',O t']] _ _
 unfold nP
 by_cases hbad:rd ⟨s,t⟩=none∨rd ⟨s',t'⟩=none
 ·have e:∀ f,bin f ⟨s,t⟩ ⟨s',t'⟩=(Fr.no,20):=fun f=>by
   rcases hbad with h|h
   ·exact rU h
   ·exact rT h
  rw [e];exact aa6 s t s' t' w hbad
 ·obtain ⟨p,hp⟩:∃ p,rd ⟨s,t⟩=some p:=Option.ne_none_iff_exists'.1 (fun e=>hbad (.inl e));obtain ⟨q,hq⟩:∃ q,rd ⟨s',t'⟩=some q:=Option.ne_none_iff_exists'.1 (fun e=>hbad (.inr e));rw [kH hp hq]
  by_cases h0:q=0
  ·rw [if_pos h0];subst h0;exact div_zero s t s' t' w p hp hq
  ·rw [if_neg h0];exact Xb s t s' t' w p q hp hq h0 ht
theorem IX {z:Int} {d:Nat} (hd:0<d) (h:z<0):z / (d:Int)= -((z.natAbs / d+(if z.natAbs%d=0 then 0 else 1):Nat):Int):=by
 have h1:=fB.QS z.natAbs d hd;have e:z= -(z.natAbs:Int):=by omega
 conv=>lhs;rw [e]
 rw [h1];unfold fB.vE
 by_cases c:z.natAbs%d=0
 ·rw [if_neg zo,if_pos c,fZ]
 ·rw [if_pos ⟨by omega,rfl⟩,if_neg c]
theorem WS (v u:Value) (z:Int) (d:Nat) (w:World) (h:dS w v z) (hu:aZ w u d) (hd:0<d) (kz:sz 1000000000 z.natAbs≤549755813888) (kd:sz 1000000000 d≤549755813888) :
  Calls Tryz.prog 290 #[v,u] w (fun e w'=>∃ r,e= aj r∧Bw w w'∧dS w' r (z / (d:Int))):=by
 obtain ⟨IE,lH,I7,rfl,H⟩:=h;replace H:=zh H;obtain ⟨Ya,lG,Yi,rfl⟩:=hu.slice;have G:=zh hu;clear hu;have HD:=zh hd;have KZ:=zh kz;have KD:=zh kd;have KQ:Hid (sz 1000000000 (z.natAbs / d)≤549755813888):=zh (au (iJ zo (Nat.div_le_self _ _)) kz);obtain ⟨q,Eq⟩:∃ y:Nat,Hid (z.natAbs / d=y):=⟨_,zh rfl⟩;obtain ⟨r,Er⟩:∃ y:Nat,Hid (z.natAbs%d=y):=⟨_,zh rfl⟩;rw [Eq.out] at KQ;clear hd kz kd
 by_cases hz:z<0
 ·have g1:decide (z<0)=true:=decide_eq_true hz;go_enter Tryz.func290,Tryz.ntmps290
  go_wp2_with fail
  refine ((eZ _ _ z.natAbs d _ aR aR HD.out KZ.out).mono (by rw [Eq.out,Er.out];exact fun _ _ h=>h)).mono ?_;rintro e v1 ⟨v,vr,rfl,hc1,hv,kR⟩;obtain ⟨Cq,Ub,Cy,rfl⟩:=hv.slice;have Hq:=zh hv;clear hv;obtain ⟨aE2,aU2,aL2,rfl⟩:=kR.slice;have Hqr:=zh kR;clear kR;have BR:=aA.later (aA.qW _ _ _ _) hc1;have dL:=BR.cell;have dK:=BR.free;have iQ:=BR.lt;have B0:=aA.later (aA.alloc (aA.new _ _ _) _) hc1;have cB0:=B0.cell;have kJ:=B0.free;have lB0:=B0.lt;go_wp2_with fail
  by_cases hr:r=0
  ·have HR0:=zh hr;refine (iI _ r _ aR).mono ?_;rintro e v5 ⟨rfl,rfl⟩;rw [show decide (r=0)=true from decide_eq_true hr];clear hr;go_wp2_with fail
   refine (fF _ q true _ aR).mono ?_;rintro e v3 ⟨v,rfl,hc3,hv⟩;obtain ⟨Co,Ua,Cx,rfl,Hs⟩:=hv;replace Hs:=zh Hs;replace BR:=aA.later (BR) hc3;replace dL:=BR.cell;replace dK:=BR.free;replace iQ:=BR.lt;replace B0:=aA.later (B0) hc3;replace cB0:=B0.cell;replace kJ:=B0.free;replace lB0:=B0.lt;go_wp2_with fail
   have HE:Hid (iR q true=z / (d:Int)):=by
    rw [IX HD.out hz,Er.out,Eq.out,if_pos HR0.out,fZ];rfl
   refine gG rfl rfl bq Tryz.underlying86 rfl zk ?_;exact ⟨_,rfl,aI,(dS.dV aR).cast HE.out⟩
  ·have HR0:=zh hr;refine (iI _ r _ aR).mono ?_;rintro e v5 ⟨rfl,rfl⟩;rw [show decide (r=0)=false from decide_eq_false hr];clear hr;go_wp2_with fail
   refine (zL _ _ q 1 _ aR (aZ.lit zo zo) (au KQ.out zo) (by have:=dF (B:=1000000000) zo 1 1 zo;omega)).mono ?_;rintro e v2 ⟨v,rfl,hc2,hv⟩;obtain ⟨OH,lHp,PK,rfl⟩:=hv.slice;have Hp:=zh hv;clear hv;replace BR:aA _ (w.heap.size+1) _ _:=aA.later bq hc2;(try simp only [List.setIfInBounds_toArray,aM,aN] at BR);replace dL:=BR.cell;replace dK:=BR.free;replace iQ:=BR.lt;replace B0:aA _ (w.heap.size) _ _:=aA.later bq hc2;(try simp only [List.setIfInBounds_toArray,aM,aN] at B0);replace cB0:=B0.cell;replace kJ:=B0.free;replace lB0:=B0.lt;go_wp2_with fail
   refine (fF _ (q+1) true _ aR).mono ?_;rintro e v3 ⟨v,rfl,hc3,hv⟩;obtain ⟨Co,Ua,Cx,rfl,Hs⟩:=hv;replace Hs:=zh Hs;replace BR:=aA.later (BR) hc3;replace dL:=BR.cell;replace dK:=BR.free;replace iQ:=BR.lt;replace B0:=aA.later (B0) hc3;replace cB0:=B0.cell;replace kJ:=B0.free;replace lB0:=B0.lt;go_wp2_with fail
   have HE:Hid (iR (q+1) true=z / (d:Int)):=by
    rw [IX HD.out hz,Er.out,Eq.out,if_neg HR0.out];rfl
   refine gG rfl rfl bq Tryz.underlying86 rfl zk ?_;exact ⟨_,rfl,aI,(dS.dV aR).cast HE.out⟩
 ·have g1:decide (z<0)=false:=decide_eq_false hz;go_enter Tryz.func290,Tryz.ntmps290
  go_wp2_with fail
  refine ((eZ _ _ z.natAbs d _ aR aR HD.out KZ.out).mono (by rw [Eq.out,Er.out];exact fun _ _ h=>h)).mono ?_;rintro e v1 ⟨v,vr,rfl,hc1,hv,kR⟩;obtain ⟨Cq,Ub,Cy,rfl⟩:=hv.slice;have Hq:=zh hv;clear hv;obtain ⟨aE2,aU2,aL2,rfl⟩:=kR.slice;have Hqr:=zh kR;clear kR;have BR:=aA.later (aA.qW _ _ _ _) hc1;have dL:=BR.cell;have dK:=BR.free;have iQ:=BR.lt;have B0:=aA.later (aA.alloc (aA.new _ _ _) _) hc1;have cB0:=B0.cell;have kJ:=B0.free;have lB0:=B0.lt;go_wp2_with fail
  refine (fF _ q false _ aR).mono ?_;rintro e v3 ⟨v,rfl,hc3,hv⟩;obtain ⟨Co,Ua,Cx,rfl,Hs⟩:=hv;replace Hs:=zh Hs;replace BR:=aA.later (BR) hc3;replace dL:=BR.cell;replace dK:=BR.free;replace iQ:=BR.lt;replace B0:=aA.later (B0) hc3;replace cB0:=B0.cell;replace kJ:=B0.free;replace lB0:=B0.lt;go_wp2_with fail
  have HE:Hid (iR q false=z / (d:Int)):=by
   have h1:=Eq.out;have h2:(z.natAbs:Int)=z:=by omega
   rw [← h2,← h1]
   show ((z.natAbs / d:Nat):Int)=_
   rw [Int.natCast_ediv]
  refine gG rfl rfl bq Tryz.underlying86 rfl zk ?_;exact ⟨_,rfl,aI,(dS.dV aR).cast HE.out⟩
theorem Zp {n m d:Nat} {z:Int} (hn:sz 1000000000 n≤1000000) (hs:sz 1000000000 m≤1000000) (hd:sz 1000000000 d≤1000000) (hz:z.natAbs≤n*(m*2)+d) :
  sz 1000000000 (m*2)≤1000001∧sz 1000000000 (n*(m*2))≤2000001∧sz 1000000000 z.natAbs≤2000002∧sz 1000000000 (d*2)≤1000001:=by
 have h2:=dF (B:=1000000000) zo 1 2 zo;have h3:=mR (B:=1000000000) zo m 2;have h4:=mR (B:=1000000000) zo n (m*2);have h5:=mR (B:=1000000000) zo d 2;have h6:=AZ (B:=1000000000) zo (n*(m*2)) d;have h7:=iJ (B:=1000000000) zo hz;refine ⟨by omega,by omega,by omega,by omega⟩
theorem Zq (x y:Value) (q:Rat) (m:Nat) (w:World) (hx:gI w x q) (hy:aZ w y m) (kn:sz 1000000000 q.num.natAbs≤1000000) (kd:sz 1000000000 q.den≤1000000) (km:sz 1000000000 m≤1000000) :
  Calls Tryz.prog 252 #[x,y] w (fun e w'=>∃ r,e= aj r∧Bw w w'∧dS w' r (fB.jW (q.num*(m:Int)) q.den)):=by
 obtain ⟨IE,lH,I7,X7,mH,Yh,rfl,H,Hd⟩:=hx;replace H:=zh H;replace Hd:=zh Hd;obtain ⟨Ya,lG,Yi,rfl⟩:=hy.slice;have G:=zh hy;clear hy;have hd:0<q.den:=q.den_pos;have HZ:=zh (Zp (z:=q.num*((m*2:Nat):Int)+(q.den:Int)) kn km kd (by have h1:=Int.natAbs_add_le (q.num*((m*2:Nat):Int)) (q.den:Int);rw [Int.natAbs_mul,Int.natAbs_natCast,Int.natAbs_natCast] at h1;exact h1))
 have HE:Hid ((q.num*((m*2:Nat):Int)+(q.den:Int)) / ((q.den*2:Nat):Int)=fB.jW (q.num*(m:Int)) q.den):=by
  refine zh ?_;unfold fB.jW;rw [Int.natCast_mul,Int.natCast_mul,Int.mul_comm 2 (q.num*(m:Int)),Int.mul_assoc,Int.mul_comm 2 (q.den:Int)];rfl
 have KN:=zh kn;have KD:=zh kd;have KM:=zh km;have HD:=zh hd;have KM1:Hid (sz 1000000000 (q.num*((m*2:Nat):Int)).natAbs≤2000001):=zh (by rw [Int.natAbs_mul,Int.natAbs_natCast];exact HZ.out.2.1);have KD1:Hid (sz 1000000000 (iR q.den false).natAbs≤1000000):=zh (by rw [jD];exact kd);have HS:Hid (iR q.den false=(q.den:Int)):=zh rfl;obtain ⟨r,Er⟩:∃ y:Int,Hid (fB.jW (q.num*(m:Int)) q.den=y):=⟨_,zh rfl⟩;rw [Er.out] at HE ⊢;obtain ⟨n,En⟩:∃ y:Int,Hid (q.num=y):=⟨_,zh rfl⟩;obtain ⟨d,Ed⟩:∃ y:Nat,Hid (q.den=y):=⟨_,zh rfl⟩;rw [En.out] at H HE KN KM1 HZ ⊢;rw [Ed.out] at Hd HE KD KD1 HS HD HZ;obtain ⟨k,Ek⟩:∃ y:Nat,Hid (m*2=y):=⟨_,zh rfl⟩;obtain ⟨e,Ee⟩:∃ y:Nat,Hid (d*2=y):=⟨_,zh rfl⟩;obtain ⟨y,Ey⟩:∃ y:Int,Hid (n*(k:Int)+iR d false=y):=⟨_,zh rfl⟩;rw [Ek.out] at HE KM1 HZ;rw [Ee.out] at HE HZ;rw [← HS.out,Ey.out] at HE HZ;have HD2:Hid (0<e):=zh (by have:=HD.out;have:=Ee.out;omega)
 clear kn kd km hd;go_enter Tryz.func252,Tryz.ntmps252
 go_wp2_with fail
 have HL:Hid _:=zh (aZ.lit (w:=(w.alloc (.cells #[ah IE lH I7,ak (decide (n<0)),ah X7 mH Yh] 88)).alloc (.cells #[ah none 0 0,ak false] 86)) (d:=2) zo zo);simp at HL
 refine aO [(.pure,0),(.read,1),(.pure,2),(.pure,3),(.pure,6),(.read,7),(.ext,4),(.ext,5),(.ext,8),(.ext,9),(.alloc #[ah none 0 0,ak false] 86,10),(.fin,11)] zk zk zR zP ?_;refine zV ?_;refine aL rfl rfl (fun w1 hb1 J hJ=>?_);go_simp;replace H:=zh (aZ.carry H.out aR hb1);replace Hd:=zh (aZ.carry Hd.out aR hb1);replace HL:=zh (aZ.carry HL.out aR hb1);have BR:=aA.later (aA.drew (aA.alloc (aA.qW _ _ _ _) _)) hb1;have dL:=BR.cell;have dK:=BR.free;have iQ:=BR.lt;have B0:=aA.later (aA.drew (aA.alloc (aA.alloc (aA.new _ _ _) _) _)) hb1;have cB0:=B0.cell;have kJ:=B0.free;have lB0:=B0.lt;refine ((jB _ _ m 2 _ aR aR (au KM.out zo) (by have:=dF (B:=1000000000) zo 1 2 zo;omega)).mono (by rw [Ek.out];exact fun _ _ h=>h)).mono ?_;rintro e v1 ⟨v,rfl,hc1,hv⟩;obtain ⟨aE5,lHa,aL5,rfl⟩:=hv.slice;have Ha:=zh hv;clear hv
 replace H:=zh (aZ.later H.out hc1);replace Hd:=zh (aZ.later Hd.out hc1);replace HL:=zh (aZ.later HL.out hc1);replace BR:=aA.later (BR) hc1;replace dL:=BR.cell;replace dK:=BR.free;replace iQ:=BR.lt;replace B0:=aA.later (B0) hc1;replace cB0:=B0.cell;replace kJ:=B0.free;replace lB0:=B0.lt;refine hJ _ _ hc1 ?_;clear hJ J;refine aL rfl rfl (fun w2 hb2 J hJ=>?_);go_simp;replace Ha:=zh (aZ.later Ha.out hb2);replace H:=zh (aZ.later H.out hb2);replace Hd:=zh (aZ.later Hd.out hb2);replace HL:=zh (aZ.later HL.out hb2);replace BR:=aA.later (BR) hb2;replace dL:=BR.cell;replace dK:=BR.free;replace iQ:=BR.lt;replace B0:=aA.later (B0) hb2;replace cB0:=B0.cell;replace kJ:=B0.free;replace lB0:=B0.lt;refine (oD _ _ n k _ (dS.dV aR) aR (au KN.out zo) (au HZ.out.1 zo)).mono ?_;rintro e v2 ⟨v,rfl,hc2,hv⟩
 obtain ⟨Y5,lHb,ab4,rfl,Hb⟩:=hv;replace Hb:=zh Hb;replace Ha:=zh (aZ.later Ha.out hc2);replace H:=zh (aZ.later H.out hc2);replace Hd:=zh (aZ.later Hd.out hc2);replace HL:=zh (aZ.later HL.out hc2);replace BR:=aA.later (BR) hc2;replace dL:=BR.cell;replace dK:=BR.free;replace iQ:=BR.lt;replace B0:=aA.later (B0) hc2;replace cB0:=B0.cell;replace kJ:=B0.free;replace lB0:=B0.lt;refine hJ _ _ hc2 ?_;clear hJ J;refine aL rfl rfl (fun w3 hb3 J hJ=>?_);go_simp;replace Hb:=zh (aZ.later Hb.out hb3);replace Hd:=zh (aZ.later Hd.out hb3);replace HL:=zh (aZ.later HL.out hb3);replace BR:=aA.later (BR) hb3;replace dL:=BR.cell;replace dK:=BR.free;replace iQ:=BR.lt;replace B0:=aA.later (B0) hb3;replace cB0:=B0.cell;replace kJ:=B0.free;replace lB0:=B0.lt;refine (fF _ d false _ aR).mono ?_;rintro e v3 ⟨v,rfl,hc3,hv⟩;obtain ⟨aE4,lHc,aL4,rfl,Hc⟩:=hv;replace Hc:=zh Hc
 replace Hb:=zh (aZ.later Hb.out hc3);replace Hd:=zh (aZ.later Hd.out hc3);replace HL:=zh (aZ.later HL.out hc3);replace BR:=aA.later (BR) hc3;replace dL:=BR.cell;replace dK:=BR.free;replace iQ:=BR.lt;replace B0:=aA.later (B0) hc3;replace cB0:=B0.cell;replace kJ:=B0.free;replace lB0:=B0.lt;refine hJ _ _ hc3 ?_;clear hJ J;refine aL rfl rfl (fun w4 hb4 J hJ=>?_);go_simp;replace Hd:=zh (aZ.later Hd.out hb4);replace HL:=zh (aZ.later HL.out hb4);replace Hc:=zh (aZ.later Hc.out hb4);replace BR:=aA.later (BR) hb4;replace dL:=BR.cell;replace dK:=BR.free;replace iQ:=BR.lt;replace B0:=aA.later (B0) hb4;replace cB0:=B0.cell;replace kJ:=B0.free;replace lB0:=B0.lt;refine ((yD _ _ (n*(k:Int)) (iR d false) _ (dS.dV aR) (dS.dV aR) (au KM1.out zo) (au KD1.out zo)).mono (by rw [Ey.out];exact fun _ _ h=>h)).mono ?_;rintro e v4 ⟨v,rfl,hc4,hv⟩
 obtain ⟨Co,Ua,Cx,rfl,Hs⟩:=hv;replace Hs:=zh Hs;replace Hd:=zh (aZ.later Hd.out hc4);replace HL:=zh (aZ.later HL.out hc4);replace Hc:=zh (aZ.later Hc.out hc4);replace BR:=aA.later (BR) hc4;replace dL:=BR.cell;replace dK:=BR.free;replace iQ:=BR.lt;replace B0:=aA.later (B0) hc4;replace cB0:=B0.cell;replace kJ:=B0.free;replace lB0:=B0.lt;refine hJ _ _ hc4 ?_;clear hJ J;refine dU rfl (fun b w5 hw5 hNb bi4 hAb hxb=>?_);go_simp;replace hxb:aA _ _ _ _:=hxb;have hWb:w.heap.size≤b:=(by first|omega|exact au (Below.size (B:=w.heap.size) aI) hNb);refine cZ [_] rfl (fun w6 hb6=>?_);replace hxb:=aA.later (hxb) hb6;replace aX9:=hxb.cell;replace aX5:=hxb.free;replace aU0:=hxb.lt;have h46:Bw v4 w6:=aI;replace BR:=aA.later (BR) h46;replace dL:=BR.cell;replace dK:=BR.free;replace iQ:=BR.lt;replace Hs:=zh (aZ.later Hs.out h46)
 replace B0:=aA.later (B0) h46;replace cB0:=B0.cell;replace kJ:=B0.free;replace lB0:=B0.lt;replace Hd:=zh (aZ.later Hd.out h46);replace HL:=zh (aZ.later HL.out h46);have hNe:w.heap.size+1+1+1≤b:=hNb;have n0:w.heap.size≠b:=by omega
 have n1:w.heap.size+1≠b:=by omega
 have h6:Bw w w6:=aI;go_wp2_with fail
 obtain ⟨w7,E7⟩:∃ x,(w6.setCell ⟨b,0,none⟩ (ah Co Ua Cx)).setCell ⟨b,1,none⟩ (ak (decide (y<0)))=x:=⟨_,rfl⟩
 have h7:Bw w w7:=by
  rw [← E7];have:w.heap.size≤b:=by omega
  exact (h6.setCell this _).setCell this _
 replace BR:aA w7 (w.heap.size+1) #[ah none 0 0,ak false] 86:=by rw [← E7];exact (BR.setOther _ n1).setOther _ n1
 replace B0:aA w7 w.heap.size #[ah IE lH I7,ak (decide (n<0)),ah X7 mH Yh] 88:=by rw [← E7];exact (B0.setOther _ n0).setOther _ n0
 have YP:∀ {v:Value} {x:Nat},aZ w6 v x→aZ w7 v x:=fun h=>by rw [← E7];exact (h.setOther hxb zd _ _).setOther (hxb.set 0 _) zd _ _
 replace Hs:=zh (YP Hs.out);replace Hd:=zh (YP Hd.out);replace HL:=zh (YP HL.out);replace hxb:aA w7 b #[ah Co Ua Cx,ak (decide (y<0))] 86:=by rw [← E7];exact (hxb.set 0 _).set 1 _
 rw [E7];clear E7 YP h6 h46 hb6 hb1 hc1 hc2 hc3 hc4;have dL:=aA.cell BR;have iQ:=aA.lt BR;have dK:=aA.free BR;have cB0:=aA.cell B0;have lB0:=aA.lt B0;have kJ:=aA.free B0;have aX9:=aA.cell hxb;have aU0:=aA.lt hxb;have aX5:=aA.free hxb;refine aO [(.read,0),(.pure,1),(.read,2),(.pure,3),(.ext,4),(.ext,5),(.fin,6)] zk zk zR zP ?_;refine zV ?_;refine aL rfl rfl (fun w5 hb5 J hJ=>?_);go_simp;replace Hs:=zh (aZ.carry Hs.out aR hb5);replace BR:aA _ (w.heap.size+1) _ _:=aA.later bq hb5;(try simp only [List.setIfInBounds_toArray,aM,aN] at BR);replace dL:=BR.cell;replace dK:=BR.free;replace iQ:=BR.lt;refine ((jB _ _ d 2 _ aR aR (au KD.out zo) (by have:=dF (B:=1000000000) zo 1 2 zo;omega)).mono (by rw [Ee.out];exact fun _ _ h=>h)).mono ?_;rintro e v5 ⟨v,rfl,nO,hv⟩
 obtain ⟨aE5,lHa,aL5,rfl⟩:=hv.slice;have Ha:=zh hv;clear hv;replace Hs:=zh (aZ.later Hs.out nO);replace BR:=aA.later (BR) nO;replace dL:=BR.cell;replace dK:=BR.free;replace iQ:=BR.lt;refine hJ _ _ nO ?_;clear hJ J;refine aL rfl rfl (fun w6 hb6 J hJ=>?_);go_simp;replace BR:=aA.later (BR) hb6;replace dL:=BR.cell;replace dK:=BR.free;replace iQ:=BR.lt;refine ((WS _ _ y e _ (dS.dV aR) aR HD2.out (au HZ.out.2.2.1 zo) (au HZ.out.2.2.2 zo)).mono (by rw [HE.out];exact fun _ _ h=>h)).mono ?_;rintro e v6 ⟨v,rfl,hc6,hv⟩;obtain ⟨Vo,lHr,Xn,rfl,Hr⟩:=hv;replace Hr:=zh Hr;replace BR:=aA.later (BR) hc6;replace dL:=BR.cell;replace dK:=BR.free;replace iQ:=BR.lt;refine hJ _ _ hc6 ?_;clear hJ J;refine cZ [_] rfl (fun w9 rJ=>?_);replace BR:=aA.later (BR) rJ;replace dL:=BR.cell;replace dK:=BR.free;replace iQ:=BR.lt;go_wp2_with fail
 refine gG rfl rfl bq Tryz.underlying86 rfl zk ?_;exact ⟨_,rfl,aI,dS.dV aR⟩
end Go.Proofs.dZ
namespace Go.Dec
open Go Go.Lib
theorem uK:∀ (l:List UInt8) (acc:Nat),rA l→acc≤18446744073709551615→parseUintM 18446744073709551615 acc l=if acc*10^l.length+num l≤18446744073709551615 then .ok (acc*10^l.length+num l) else .range
 | [],acc,_,ha=>by
  simp only [parseUintM,List.length_nil,Nat.pow_zero,Nat.mul_one,JQ,fZ];rw [if_pos ha]
 | b::l,acc,hd,ha=>by
  have hb:=hd b zi;have hl:rA l:=fun x hx=>hd x (by simp [hx])
  have hn:num (b::l)=(b.toNat - 48)*10^l.length+num l:=by
   have:=Fb [b] l;simp only [List.singleton_append] at this;rw [this];simp [num]
  have hp:0<10^l.length:=Nat.pow_pos zo
  have e:acc*10^(b::l).length+num (b::l)=(acc*10+(b.toNat - 48))*10^l.length+num l:=by
   rw [hn,aV,bS,dM,kY]
   congr 1
   rw [dA,aJ 10]
  rw [e];have hge:∀ x,x≤x*10^l.length+num l:=fun x=>au (Nat.le_mul_of_pos_right x hp) (Nat.le_add_right _ _);unfold parseUintM;rw [if_pos hb]
  by_cases h1:1844674407370955162≤acc
  ·rw [if_pos h1,if_neg];have:=hge (acc*10+(b.toNat - 48));omega
  ·rw [if_neg h1]
   by_cases h2:18446744073709551615<acc*10+(b.toNat - 48)
   ·rw [if_pos h2,if_neg];have:=hge (acc*10+(b.toNat - 48));omega
   ·rw [if_neg h2];exact uK l _ hl zo
theorem ET (n:Nat):parseIntB 64 (itoa (n:Int))=if n<9223372036854775808 then .ok (n:Int) else .range:=by
 have hi:itoa (n:Int)=decDigits n:=rfl;rw [hi]
 obtain ⟨c,r,hc⟩:∃ c r,decDigits n=c::r:=by
  cases h:decDigits n with
  | nil=>exact absurd h (wM n)
  | cons c r=>exact ⟨c,r,rfl⟩
 have hd:=nZ n;have hn:=oM n;rw [hc] at hd hn ⊢;have hcd:=hd c zi;rw [parseIntB_plain 64 c r zo zo]
 have hu:parseUintB 64 (c::r)=parseUintM 18446744073709551615 0 (c::r):=by
  unfold parseUintB;rw [if_neg zi]
 rw [hu,uK _ _ hd zo,hn,Nat.zero_mul,dP];have e:(2:Nat)^(64 - 1)=9223372036854775808:=by decide
 rw [e]
 by_cases h:n≤18446744073709551615
 ·rw [if_pos h];unfold signlessC
  by_cases h2:n<9223372036854775808
  ·simp only;rw [if_neg zo,if_pos h2]
  ·simp only;rw [if_pos zo,if_neg h2]
 ·rw [if_neg h,if_neg zo];rfl
end Go.Dec
namespace Go.Proofs.whole
open Go Go.RowKit Go.SW Go.Num Go.Mem Go.Proofs Go.Dec Go.fG
def Er (w : World) : Prop := ∃ tp p, w.var? Tryz.prog "strconv.ErrRange" = some #[.iface tp p] ∧ (Tryz.prog.globalNamed "strconv.ErrRange").getD 0 < w.heap.size
theorem Er.later {w w':World} (h:Er w) (hb:Bw w w'):Er w':=by
 obtain ⟨tp,p,h1,h2⟩:=h
 refine ⟨tp, p, var?_below hb (g := (Tryz.prog.globalNamed "strconv.ErrRange").getD 0) ?_ h2 h1, aP h2 hb.size⟩
 exact Tryz.laysC174.m16
def ar2 (n:Nat):Value:=if n<9223372036854775808 then aD #[Z I (n:Int),Z I 0] else aD #[Z I 0,Z I 6]
theorem Vn (n:Nat) (hs:(Lib.itoa (n:Int)).length≤601) (w:World) (he:Er w) :
  Calls Tryz.prog 250 #[fO (n:Int),Z I 10,Z I 64] w (fun e w'=>(if n<9223372036854775808 then e= aj (aD #[Z I (n:Int),.nilIface]) else ∃ T p,e= aj (aD #[Z I (Lib.intSat 64 (Lib.itoa (n:Int))),.iface T (ay (some p))]))∧Bw w w'):=by
 have hz:(⟨(Lib.itoa (n:Int)).toArray⟩:ByteArray).size≤601:=hs;have hp:=ET n
 by_cases h:n<9223372036854775808
 ·rw [if_pos h] at hp;refine (Tryz.strconv_ParseInt_10_at64_ok ⟨(Lib.itoa (n:Int)).toArray⟩ zo (n:Int) hp w).mono ?_;rintro e w1 ⟨rfl,hw⟩;refine ⟨by rw [if_pos h],?_⟩
  rcases hw with rfl|⟨t,rfl⟩
  ·exact Below.refl _ _
  ·exact Lib.bytesWorld_below _ _ _
 ·rw [if_neg h] at hp;obtain ⟨tp,p,h1,h2⟩:=he;have hc:=World.var?_cell (P:=Tryz.prog) (w:=w) Tryz.laysC174.m16 h1 0;refine (Tryz.strconv_ParseInt_10_at64_range ⟨(Lib.itoa (n:Int)).toArray⟩ zo hp (.iface tp p) w hc (Or.inr ⟨tp,p,rfl⟩)).mono ?_;rintro e w1 ⟨N,rfl, -, -, hb⟩;refine ⟨?_,hb⟩;rw [if_neg h];exact ⟨_,_,rfl⟩
theorem az8 (n:Nat) (hn:ou n=true) (w:World) (he:Er w) :
  Calls Tryz.prog 175 #[fO (n:Int)] w (fun e w'=>e= aj (ar2 n)∧Bw w w'):=by
 have hd:(Lib.decDigits n).length≤600:=fJ.1 hn
 have hi:(Lib.itoa (n:Int)).length≤601:=by
  have:Lib.itoa (n:Int)=Lib.decDigits n:=rfl;rw [this];omega
 have hw:(whole (Lib.itoa (n:Int))).isSome=true:=by rw [gF (by rw [Int.natAbs_natCast];exact hd)];rfl
 have HC:=zh (fun W=>mE ⟨(Lib.itoa (n:Int)).toArray⟩ W)
 have HC:Hid (∀ W:World,Calls Tryz.prog 146 #[fO (n:Int)] W (fun e w'=>e= aj (Z I 0)∧Bw W w')):=zh (by
  intro W;have:=HC.out W;rw [show (⟨(Lib.itoa (n:Int)).toArray⟩:ByteArray).data.toList=Lib.itoa (n:Int) from rfl,hw] at this;exact this)
 have HP:=zh (fun W h=>Vn n hi W h);have HE:=zh he;unfold ar2;clear hd hi hw he hn;unfold fO at *;generalize Lib.itoa (n:Int)=t at *
 by_cases h:n<9223372036854775808
 ·simp only [if_pos h] at HP ⊢;go_enter Tryz.func175,Tryz.ntmps175
  go_wp2_with fail
  refine (HC.out _).mono ?_;rintro e w1 ⟨rfl,hb1⟩;have HB1:=zh hb1;clear hb1;go_wp2_with fail
  refine (HP.out _ (HE.out.later HB1.out)).mono ?_;rintro e w2 ⟨rfl,hb2⟩;have hw:=Bt HB1.out hb2;clear hb2 HB1;go_wp2_with fail
  go_ret2
  exact ⟨rfl,hw⟩
 ·simp only [if_neg h] at HP ⊢;go_enter Tryz.func175,Tryz.ntmps175
  go_wp2_with fail
  refine (HC.out _).mono ?_;rintro e w1 ⟨rfl,hb1⟩;have HB1:=zh hb1;clear hb1;go_wp2_with fail
  refine (HP.out _ (HE.out.later HB1.out)).mono ?_;rintro e w2 ⟨⟨T,p,rfl⟩,hb2⟩;have hw:=Bt HB1.out hb2;clear hb2 HB1;go_wp2_with fail
  go_ret2
  exact ⟨rfl,hw⟩
end Go.Proofs.whole
namespace Go.Dec
open Go Go.Lib
theorem OG (n:Nat):parseUintB 64 (decDigits n)=if n≤18446744073709551615 then .ok n else .range:=by
 obtain ⟨c,r,hc⟩:∃ c r,decDigits n=c::r:=by
  cases h:decDigits n with
  | nil=>exact absurd h (wM n)
  | cons c r=>exact ⟨c,r,rfl⟩
 have hd:=nZ n;have hn:=oM n;rw [hc] at hd hn ⊢
 have hu:parseUintB 64 (c::r)=parseUintM 18446744073709551615 0 (c::r):=by
  unfold parseUintB;rw [if_neg zi]
 rw [hu,uK _ _ hd zo,hn,Nat.zero_mul,dP]
theorem LU (z:Int):parseIntB 64 (itoa z)=if -9223372036854775808≤z∧z<9223372036854775808 then .ok z else .range:=by
 rcases Int.lt_or_le z 0 with h|h
 ·obtain ⟨n,rfl⟩:∃ n:Nat,z= -(n:Int):=⟨z.natAbs,by omega⟩
  have hi:itoa (-(n:Int))=45::decDigits n:=by
   unfold itoa;rw [if_pos h,Int.natAbs_neg,Int.natAbs_natCast]
  rw [hi,parseIntB_minus,OG];have e:(2:Nat)^(64 - 1)=9223372036854775808:=by decide
  rw [e]
  by_cases h1:n≤18446744073709551615
  ·rw [if_pos h1];unfold signedC
   by_cases h2:9223372036854775808<n
   ·simp only;rw [if_pos h2,if_neg zo]
   ·simp only;rw [if_neg h2,if_pos zo]
  ·rw [if_neg h1,if_neg zo];rfl
 ·obtain ⟨n,rfl⟩:∃ n:Nat,z=(n:Int):=⟨z.natAbs,by omega⟩;rw [ET]
  by_cases h2:n<9223372036854775808
  ·rw [if_pos h2,if_pos zo]
  ·rw [if_neg h2,if_neg zo]
end Go.Dec
namespace Go.Proofs.whole
open Go Go.RowKit Go.SW Go.Num Go.Mem Go.Proofs Go.Dec Go.fG
def ar1 (z:Int):Value:=if -9223372036854775808≤z∧z<9223372036854775808 then aD #[Z I z,Z I 0] else aD #[Z I 0,Z I 6]
theorem Sz (z:Int) (hs:(Lib.itoa z).length≤601) (w:World) (he:Er w) :
  Calls Tryz.prog 250 #[fO z,Z I 10,Z I 64] w (fun e w'=>(if -9223372036854775808≤z∧z<9223372036854775808 then e= aj (aD #[Z I z,.nilIface]) else ∃ T p,e= aj (aD #[Z I (Lib.intSat 64 (Lib.itoa z)),.iface T (ay (some p))]))∧Bw w w'):=by
 have hz:(⟨(Lib.itoa z).toArray⟩:ByteArray).size≤601:=hs;have hp:=LU z
 by_cases h: -9223372036854775808≤z∧z<9223372036854775808
 ·rw [if_pos h] at hp;refine (Tryz.strconv_ParseInt_10_at64_ok ⟨(Lib.itoa z).toArray⟩ zo z hp w).mono ?_;rintro e w1 ⟨rfl,hw⟩;refine ⟨by rw [if_pos h],?_⟩
  rcases hw with rfl|⟨t,rfl⟩
  ·exact Below.refl _ _
  ·exact Lib.bytesWorld_below _ _ _
 ·rw [if_neg h] at hp;obtain ⟨tp,p,h1,h2⟩:=he;have hc:=World.var?_cell (P:=Tryz.prog) (w:=w) Tryz.laysC174.m16 h1 0;refine (Tryz.strconv_ParseInt_10_at64_range ⟨(Lib.itoa z).toArray⟩ zo hp (.iface tp p) w hc (Or.inr ⟨tp,p,rfl⟩)).mono ?_;rintro e w1 ⟨N,rfl, -, -, hb⟩;refine ⟨?_,hb⟩;rw [if_neg h];exact ⟨_,_,rfl⟩
theorem ad4 (z:Int) (hn:ou z.natAbs=true) (w:World) (he:Er w) :
  Calls Tryz.prog 175 #[fO z] w (fun e w'=>e= aj (ar1 z)∧Bw w w'):=by
 have hd:(Lib.decDigits z.natAbs).length≤600:=fJ.1 hn
 have hi:(Lib.itoa z).length≤601:=by
  unfold Lib.itoa
  by_cases h:z<0
  ·rw [if_pos h,aV];omega
  ·rw [if_neg h,show z.toNat=z.natAbs by omega];omega
 have hw:(whole (Lib.itoa z)).isSome=true:=by rw [gF hd];rfl
 have HC:Hid (∀ W:World,Calls Tryz.prog 146 #[fO z] W (fun e w'=>e= aj (Z I 0)∧Bw W w')):=zh (by
  intro W;have:=mE ⟨(Lib.itoa z).toArray⟩ W;rw [show (⟨(Lib.itoa z).toArray⟩:ByteArray).data.toList=Lib.itoa z from rfl,hw] at this;exact this)
 have HP:=zh (fun W h=>Sz z hi W h);have HE:=zh he;unfold ar1;clear hd hi hw he hn;unfold fO at *;generalize Lib.itoa z=t at *
 by_cases h: -9223372036854775808≤z∧z<9223372036854775808
 ·simp only [if_pos h] at HP ⊢;go_enter Tryz.func175,Tryz.ntmps175
  go_wp2_with fail
  refine (HC.out _).mono ?_;rintro e w1 ⟨rfl,hb1⟩;have HB1:=zh hb1;clear hb1;go_wp2_with fail
  refine (HP.out _ (HE.out.later HB1.out)).mono ?_;rintro e w2 ⟨rfl,hb2⟩;have hw:=Bt HB1.out hb2;clear hb2 HB1;go_wp2_with fail
  go_ret2
  exact ⟨rfl,hw⟩
 ·simp only [if_neg h] at HP ⊢;go_enter Tryz.func175,Tryz.ntmps175
  go_wp2_with fail
  refine (HC.out _).mono ?_;rintro e w1 ⟨rfl,hb1⟩;have HB1:=zh hb1;clear hb1;go_wp2_with fail
  refine (HP.out _ (HE.out.later HB1.out)).mono ?_;rintro e w2 ⟨⟨T,p,rfl⟩,hb2⟩;have hw:=Bt HB1.out hb2;clear hb2 HB1;go_wp2_with fail
  go_ret2
  exact ⟨rfl,hw⟩
end Go.Proofs.whole
namespace Go.Proofs.dZ
open Go Go.RowKit Go.SW Go.Num Go.Mem Go.Proofs Go.Dec Go.fG
def JX (z:Int):Bool:=decide (-9223372036854775808≤z∧z<9223372036854775808)
theorem ad3 (z:Int) (w:World) (he:whole.Er w) :
  Calls Tryz.prog 175 #[fO z] w (fun e w'=>(∃ x k,(k=0↔JX z=true)∧(JX z=true→x=z)∧e= aj (aD #[Z I x,Z I k]))∧Bw w w'):=by
 cases h:ou z.natAbs with
 | true =>
  refine (whole.ad4 z h w he).mono ?_;rintro e w1 ⟨rfl,hb⟩;refine ⟨?_,hb⟩;unfold whole.ar1 JX
  by_cases c: -9223372036854775808≤z∧z<9223372036854775808
  ·rw [if_pos c,decide_eq_true c];exact ⟨z,0,by simp,fun _=>rfl,rfl⟩
  ·rw [if_neg c,decide_eq_false c];exact ⟨0,6,by simp,(fun h=>by cases h),rfl⟩
 | false =>
  have hn:whole (Lib.itoa z)=none:=by
   cases e:whole (Lib.itoa z) with
   | none=>rfl
   | some n =>
    obtain ⟨h1,h2⟩:=oz e;rw [← zY h1,← fJ,h] at h2;cases h2
  have hr:JX z=false:=by
   unfold JX;refine decide_eq_false fun c=>?_
   have h3:ou z.natAbs=true:=by
    unfold ou;refine decide_eq_true (aP (show z.natAbs<9223372036854775809 by omega) ?_)
    decide+kernel
   rw [h] at h3;cases h3
  have HC:=zh (fun W=>F4 (s:=⟨(Lib.itoa z).toArray⟩) hn W);rw [hr];clear hn hr h;unfold fO;generalize Lib.itoa z=t at *;go_enter Tryz.func175,Tryz.ntmps175
  go_wp2_with fail
  refine (HC.out _).mono ?_;rintro e w1 ⟨rfl,hb1⟩;go_wp2_with fail
  go_ret2
  exact ⟨⟨0,10,by simp,(fun h=>by cases h),rfl⟩,hb1⟩
theorem Zt (N:Int) (d:Nat):(fB.jW N d).natAbs≤2*N.natAbs+d:=by
 unfold fB.jW;have h1:=Int.natAbs_ediv_le_natAbs (2*N+(d:Int)) (2*(d:Int));have h2:=Int.natAbs_add_le (2*N) (d:Int);rw [Int.natAbs_mul,Int.natAbs_natCast] at h2;omega
theorem TR (s t:ByteArray) (k:Int) (h:rd ⟨s,t⟩=none) (w:World) :
  Calls Tryz.prog 179 #[aB #[O s,O t],Z I k] w (fun e w'=>e= aj (aD #[Z I 0,Z I 20])∧Bw w w'):=by
 have HR:=zh (iE h);clear h;go_enter Tryz.func179,Tryz.ntmps179
 go_wp2_with fail
 refine (HR.out _).mono ?_;rintro e v1 ⟨rfl,hc1⟩;have BR:=aA.later (aA.new _ _ _) hc1;have dL:=BR.cell;have dK:=BR.free;have iQ:=BR.lt;go_wp2_with fail
 go_ret2
 exact ⟨rfl,aI⟩
theorem TQ (s t:ByteArray) (k:Nat) (q:Rat) (h:rd ⟨s,t⟩=some q) (k1:1≤k) (k2:(k:Int)≤1000000000000) (w:World) (ht:ko.Pow w) (he:whole.Er w) :
  Calls Tryz.prog 179 #[aB #[O s,O t],Z I (k:Int)] w (fun e w'=>e= aj (if JX (fB.jW (q.num*(k:Int)) q.den) then aD #[Z I (fB.jW (q.num*(k:Int)) q.den),Z I 0] else aD #[Z I 0,Z I 6])∧Bw w w'):=by
 have HR:=zh (gY h);have KP:=lg (ow h).2;have HK1:Hid (sz 1000000000 k≤1000000):=zh (by have:=dF (B:=1000000000) zo 2 k zo;omega);have HKN:Hid (sz 1000000000 q.num.natAbs≤1000000):=zh (au KP.1 zo);have HKD:Hid (sz 1000000000 q.den≤1000000):=zh (au KP.2 zo)
 have HZ:Hid (sz 1000000000 (fB.jW (q.num*(k:Int)) q.den).natAbs≤1099511627776):=by
  refine zh ?_;have h1:=iJ (B:=1000000000) zo (Zt (q.num*(k:Int)) q.den);have h2:=AZ (B:=1000000000) zo (2*(q.num*(k:Int)).natAbs) q.den;have h3:=mR (B:=1000000000) zo 2 (q.num*(k:Int)).natAbs;have h4:=mR (B:=1000000000) zo q.num.natAbs k;have h5:=dF (B:=1000000000) zo 1 2 zo;rw [← Int.natAbs_natCast k,← Int.natAbs_mul,Int.natAbs_natCast k] at h4;have:=HK1.out;have:=HKN.out;have:=HKD.out;omega
 have HT:=zh ht;have HE:=zh he;have g1:decide ((k:Int)<1)=false:=decide_eq_false zo;have g2:decide ((1000000000000:Int)<(k:Int))=false:=decide_eq_false zo
 have g3:IntKind.u64.wrap (k:Int)=(k:Int):=by
  simp [IntKind.wrap,IntKind.bits,IntKind.signed]
  omega
 obtain ⟨z,Ez⟩:∃ y:Int,Hid (fB.jW (q.num*(k:Int)) q.den=y):=⟨_,zh rfl⟩;rw [Ez.out] at HZ ⊢;obtain ⟨R,ER⟩:∃ y:Value,Hid ((if JX z then aD #[Z I z,Z I 0] else aD #[Z I 0,Z I 6]:Value)=y):=⟨_,zh rfl⟩;rw [ER.out];have HK2:Hid (k≤18446744073709551615):=zh zo;clear ht he h KP k1 k2;go_enter Tryz.func179,Tryz.ntmps179
 go_wp2_with fail
 refine (HR.out _).mono ?_;rintro e v1 ⟨v,rfl,hc1,hv⟩;obtain ⟨Cq,Ub,Cy,GX,Yc,H7,rfl,Hq,vI⟩:=hv;replace Hq:=zh Hq;replace vI:=zh vI;have BR:=aA.later (aA.new _ _ _) hc1;have dL:=BR.cell;have dK:=BR.free;have iQ:=BR.lt;go_wp2_with fail
 refine aO [(.read,0),(.pure,1),(.pure,2),(.ext,3),(.ext,4),(.ext,5),(.ext,6),(.pure,7),(.pure,8),(.pure,9),(.fin,10),(.fin,11)] zk zk zR zP ?_;refine zV ?_;refine aL rfl rfl (fun w3 hb3 J hJ=>?_);go_simp;replace Hq:=zh (aZ.carry Hq.out aR hb3);replace vI:=zh (aZ.carry vI.out aR hb3);refine (mM k _ HK2.out).mono ?_;rintro e v3 ⟨v,rfl,hc3,hv⟩;obtain ⟨Co,Ua,Cx,rfl⟩:=hv.slice;have Hs:=zh hv;clear hv;replace Hq:=zh (aZ.later Hq.out hc3);replace vI:=zh (aZ.later vI.out hc3);refine hJ _ _ hc3 ?_;clear hJ J;refine aL rfl rfl (fun w4 hb4 J hJ=>?_);go_simp;refine ((Zq _ _ q k _ (gI.of aR aR) aR HKN.out HKD.out HK1.out).mono (by rw [Ez.out];exact fun _ _ h=>h)).mono ?_;rintro e v4 ⟨v,rfl,hc4,hv⟩;obtain ⟨bf8,lHn,bl3,rfl,Hn⟩:=hv;replace Hn:=zh Hn;refine hJ _ _ hc4 ?_;clear hJ J;refine aL rfl rfl (fun w5 hb5 J hJ=>?_);go_simp
 refine (CG _ z _ (dS.dV aR) HZ.out (HT.out.later aI)).mono ?_;rintro e v5 ⟨rfl,nO⟩;refine hJ _ _ nO ?_;clear hJ J;refine aL rfl rfl (fun w6 hb6 J hJ=>?_);go_simp;refine (ad3 z _ (HE.out.later aI)).mono ?_;rintro e v6 ⟨⟨x,c,h1,h2,rfl⟩,hc6⟩;refine hJ _ _ hc6 ?_;clear hJ J;refine zV ?_;refine cZ [_,_] rfl (fun w7 jY=>?_);cases hz:JX z with
 | true =>
  obtain rfl:=h1.2 hz;obtain rfl:=h2 hz;clear h1 h2;have hR: aD #[Z I x,Z I 0]=R:=by rw [← ER.out,hz];rfl
  go_wp2_with fail
  go_ret2
  exact ⟨congrArg Ending.returned hR,aI⟩
 | false =>
  have hc:decide (c=0)=false:=decide_eq_false fun e=>by rw [h1.1 e] at hz;cases hz
  have hn:¬ c=0:=of_decide_eq_false hc;clear h1 h2;have hR: aD #[Z I 0,Z I 6]=R:=by rw [← ER.out,hz];rfl
  go_wp2_with fail
  all_goals go_ret2
  all_goals exact ⟨congrArg Ending.returned hR,aI⟩
end Go.Proofs.dZ
namespace Go.Proofs.fB
open Go Go.RowKit Go.SW Go.Num Go.Mem Go.Proofs Go.Dec Go.fG
theorem Zr (z:Int) {E:Nat} (hE:0<E) (hz:z.natAbs<9223372036854775809) (hE2:E<9223372036854775809) :
  ∃ s t,Fr.res (lI z (E:Int))= aD #[aB #[O s,O t],Z I 0]∧rd ⟨s,t⟩=some ((z:Rat) / ((E:Nat):Rat)):=by
 have hk:jk ((z:Rat) / ((E:Nat):Rat))=true:=by
  rw [← Rat.mkRat_eq_div];have hp:=wu z hE;have ht:9223372036854775809≤kL 600:=by unfold kL;decide+kernel
  unfold jk ou;rw [aF];refine ⟨decide_eq_true ?_,decide_eq_true ?_⟩
  ·rw [hp.1,jD];have:=Nat.div_le_self z.natAbs (z.natAbs.gcd E);omega
  ·rw [hp.2];have:=Nat.div_le_self E (z.natAbs.gcd E);omega
 refine ⟨(Fr.of ((z:Rat) / ((E:Nat):Rat))).n,(Fr.of ((z:Rat) / ((E:Nat):Rat))).d,?_,je hk⟩;unfold lI wr;rw [if_neg zo,Rat.intCast_natCast,if_pos hk];rfl
theorem aT7 (o:Int):∃ m:Int,(m=if o<0 then o else 0)∧(∀ (ts:Array TypeId) (t:TypeId) (W:World),(Builtin.min_ ts t #[Z I o,Z I 0]).run Tryz.prog W= .ok (Z I m) W):=by
 by_cases h:o<0
 ·refine ⟨o,by rw [if_pos h],fun ts t W=>?_⟩;have h1:¬ (0:Int)<o:=by omega
  rw [run_min_int2];simp [h1]
 ·refine ⟨0,by rw [if_neg h],fun ts t W=>?_⟩;rw [run_min_int2]
  by_cases h1:(0:Int)<o
  ·simp [h1]
  ·obtain rfl:o=0:=by omega
   simp
theorem aT8 (o:Int):∃ m:Int,(m=if 0<o then o else 0)∧(∀ (ts:Array TypeId) (t:TypeId) (W:World),(Builtin.max_ ts t #[Z I o,Z I 0]).run Tryz.prog W= .ok (Z I m) W):=by
 by_cases h:0<o
 ·refine ⟨o,by rw [if_pos h],fun ts t W=>?_⟩;have h1:¬ o<(0:Int):=by omega
  rw [run_max_int2];simp [h1]
 ·refine ⟨0,by rw [if_neg h],fun ts t W=>?_⟩;rw [run_max_int2]
  by_cases h1:o<(0:Int)
  ·simp [h1]
  ·obtain rfl:o=0:=by omega
   simp
theorem F9 (s t:ByteArray) (k:Int) (hk:¬ k=0) (w:World) (HN:Hid (∀ W,Bw w W→Calls Tryz.prog 179 #[aB #[O s,O t],Z I 1000000000000] W (fun e w'=>e= aj (aD #[Z I 0,Z I k])∧Bw W w'))) :
  Calls Tryz.prog 113 #[aB #[O s,O t]] w (fun e w'=>e= aj (jg ((0,0),k))∧Bw w w'):=by
 unfold jg;have hk0:decide (k=0)=false:=decide_eq_false hk;go_enter Tryz.func113,Tryz.ntmps113
 go_wp2_with fail
 refine (HN.out _ aI).mono ?_;rintro e v1 ⟨rfl,hc1⟩;have BR:=aA.later (aA.qW _ _ _ _) hc1;have dL:=BR.cell;have dK:=BR.free;have iQ:=BR.lt;go_wp2_with fail
 refine bX rfl rfl bq Tryz.underlying26 rfl zk ?_;exact ⟨rfl,aI⟩
theorem Np (s t s1 t1:ByteArray) (z o:Int) (w:World) (ho: -1≤o∧o≤1) (HN:Hid (∀ W,Bw w W→Calls Tryz.prog 179 #[aB #[O s,O t],Z I 1000000000000] W (fun e w'=>e= aj (aD #[Z I z,Z I 0])∧Bw W w')))
  (HO:Hid (∀ W,Bw w W→Calls Tryz.prog 35 #[Z I z,Z I 1000000000000] W (fun e w'=>e= aj (aD #[aB #[O s1,O t1],Z I 0])∧Bw W w')))
  (HC:Hid (∀ W,Calls Tryz.prog 36 #[aB #[O s,O t],aB #[O s1,O t1]] W (fun e w'=>e= aj (aD #[Z I o,Z I 0])∧Bw W w'))) :
  Calls Tryz.prog 113 #[aB #[O s,O t]] w (fun e w'=>e= aj (jg (if jl z z then jK (z+(if o<0 then -1 else 0)) (z+(if 0<o then 1 else 0)) else ((0,0),6)))∧Bw w w'):=by
 have HV:=zh (fun W=>oP z z W);cases hb:jl z z with
 | false =>
  rw [if_neg zi];unfold jg;rw [hb] at HV;clear hb ho;go_enter Tryz.func113,Tryz.ntmps113
  go_wp2_with fail
  refine (HN.out _ aI).mono ?_;rintro e v1 ⟨rfl,hc1⟩;have BR:=aA.later (aA.qW _ _ _ _) hc1;have dL:=BR.cell;have dK:=BR.free;have iQ:=BR.lt;have B0:=aA.later (aA.alloc (aA.new _ _ _) _) hc1;have cB0:=B0.cell;have kJ:=B0.free;have lB0:=B0.lt;go_wp2_with fail
  refine (HO.out _ aI).mono ?_;rintro e v2 ⟨rfl,hc2⟩;replace BR:=aA.later (BR) hc2;replace dL:=BR.cell;replace dK:=BR.free;replace iQ:=BR.lt;replace B0:=aA.later (B0) hc2;replace cB0:=B0.cell;replace kJ:=B0.free;replace lB0:=B0.lt;go_wp2_with fail
  refine (HC.out _).mono ?_;rintro e v3 ⟨rfl,hc3⟩;replace BR:aA _ (w.heap.size+1) _ _:=aA.later bq hc3;(try simp only [List.setIfInBounds_toArray,aM,aN] at BR);replace dL:=BR.cell;replace dK:=BR.free;replace iQ:=BR.lt;go_wp2_with fail
  refine (HV.out _).mono ?_;rintro e v4 ⟨rfl,hc4⟩;replace BR:=aA.later (BR) hc4;replace dL:=BR.cell;replace dK:=BR.free;replace iQ:=BR.lt;go_wp2_with fail
  refine bX rfl rfl bq Tryz.underlying26 rfl zk ?_;exact ⟨rfl,aI⟩
 | true =>
  rw [if_pos rfl];rw [hb] at HV;obtain ⟨l,hl,hmin⟩:=aT7 o;obtain ⟨m,hm,hmax⟩:=aT8 o;have el:(if o<0 then (-1:Int) else 0)=l:=by rw [hl];by_cases h:o<0<;>simp only [if_pos,if_neg,h,if_true,if_false]<;>omega
  have em:(if 0<o then (1:Int) else 0)=m:=by rw [hm];by_cases h:0<o<;>simp only [if_pos,if_neg,h,if_true,if_false]<;>omega
  rw [el,em]
  have hr: -1000000000000000000≤z∧z≤1000000000000000000:=by
   unfold jl at hb;simp only [aF,decide_eq_true_eq] at hb;omega
  have hl2: -1≤l∧l≤0:=by rw [← el];by_cases h:o<0<;>simp [h]
  have hm2:0≤m∧m≤1:=by rw [← em];by_cases h:0<o<;>simp [h]
  have w1:I.wrap (z+l)=z+l:=by simp [IntKind.wrap,IntKind.bits,IntKind.signed];omega
  have w2:I.wrap (z+m)=z+m:=by simp [IntKind.wrap,IntKind.bits,IntKind.signed];omega
  have HM:=zh (fun W=>oN (z+l) (z+m) W);clear hb ho hl hm el em hr hl2 hm2;generalize jK (z+l) (z+m)=x at *;obtain ⟨⟨x1,x2⟩,x3⟩:=x;unfold jg at *;simp only at *;go_enter Tryz.func113,Tryz.ntmps113
  go_wp2_with fail
  refine (HN.out _ aI).mono ?_;rintro e v1 ⟨rfl,hc1⟩;have BR:=aA.later (aA.qW _ _ _ _) hc1;have dL:=BR.cell;have dK:=BR.free;have iQ:=BR.lt;have B0:=aA.later (aA.alloc (aA.new _ _ _) _) hc1;have cB0:=B0.cell;have kJ:=B0.free;have lB0:=B0.lt;go_wp2_with fail
  refine (HO.out _ aI).mono ?_;rintro e v2 ⟨rfl,hc2⟩;replace BR:=aA.later (BR) hc2;replace dL:=BR.cell;replace dK:=BR.free;replace iQ:=BR.lt;replace B0:=aA.later (B0) hc2;replace cB0:=B0.cell;replace kJ:=B0.free;replace lB0:=B0.lt;go_wp2_with fail
  refine (HC.out _).mono ?_;rintro e v3 ⟨rfl,hc3⟩;replace BR:aA _ (w.heap.size+1) _ _:=aA.later bq hc3;(try simp only [List.setIfInBounds_toArray,aM,aN] at BR);replace dL:=BR.cell;replace dK:=BR.free;replace iQ:=BR.lt;go_wp2_with fail
  refine (HV.out _).mono ?_;rintro e v4 ⟨rfl,hc4⟩;replace BR:=aA.later (BR) hc4;replace dL:=BR.cell;replace dK:=BR.free;replace iQ:=BR.lt;go_wp2_with fail
  refine (HM.out _).mono ?_;rintro e v5 ⟨rfl,nO⟩;replace BR:=aA.later (BR) nO;replace dL:=BR.cell;replace dK:=BR.free;replace iQ:=BR.lt;go_wp2_with fail
  refine bX rfl rfl bq Tryz.underlying26 rfl zk ?_;exact ⟨rfl,aI⟩
def jI (a:Fr):(Int × Int) × Int:=match rd a with
 | some q=>jK (q9 (q.num*1000000000000) q.den false) (q9 (q.num*1000000000000) q.den true)
 | none=>((0,0),20)
theorem TY (a:Fr) (w:World) (ht:ko.Pow w) (he:whole.Er w) :
  Calls Tryz.prog 113 #[a.v] w (fun e w'=>e= aj (jg (jI a))∧Bw w w'):=by
 obtain ⟨s,t⟩:=a
 show Calls _ _ #[aB #[O s,O t]] _ _
 unfold jI;cases h:rd ⟨s,t⟩ with
 | none=>exact F9 s t 20 zo w (zh fun W _=>dZ.TR s t 1000000000000 h W)
 | some q =>
  have hd:0<q.den:=q.den_pos;simp only;rw [← az0 _ hd];have hn:∀ W,Bw w W→ _:=fun W hW=>dZ.TQ s t 1000000000000 q h zo zo W (ht.later hW) (he.later hW);have e1:((1000000000000:Nat):Int)=1000000000000:=rfl;rw [e1] at hn;unfold arE;unfold dZ.JX at hn;generalize hz:jW (q.num*1000000000000) q.den=z at *
  by_cases c: -9223372036854775808≤z∧z<9223372036854775808
  ·rw [if_pos c];rw [decide_eq_true c,if_pos rfl] at hn;obtain ⟨s1,t1,hof,hrd⟩:=Zr z (E:=1000000000000) zo zo zo;rw [e1] at hof;have hc:=fun W=>dZ.KX ⟨s,t⟩ ⟨s1,t1⟩ W;have hce:tQ ⟨s,t⟩ ⟨s1,t1⟩=(gZ q ((z:Rat) / ((1000000000000:Nat):Rat)),0):=by unfold tQ;rw [h,hrd]
   rw [hce,Tx q z zo,e1] at hc;have aG4:∀ W,Bw w W→ _:=fun W hW=>dZ.uf z 1000000000000 zo zo zo zo W (ht.later hW);rw [hof] at aG4;refine (Np s t s1 t1 z _ w ?_ (zh hn) (zh aG4) (zh hc)).mono ?_
   ·split
    ·omega
    ·split<;>omega
   ·rintro e w1 ⟨rfl,hb⟩;refine ⟨?_,hb⟩
    congr 2
    by_cases h1:q.num*1000000000000<z*(q.den:Int)
    ·have h2:¬ z*(q.den:Int)<q.num*1000000000000:=by omega
     simp [h1,h2]
    ·by_cases h2:z*(q.den:Int)<q.num*1000000000000
     ·simp [h1,h2]
     ·simp [h1,h2]
  ·rw [if_neg c];rw [decide_eq_false c,if_neg zi] at hn;exact F9 s t 6 zo w (zh hn)
end Go.Proofs.fB
namespace Go.Proofs.whole
open Go Go.RowKit Go.SW Go.Num Go.Mem Go.Proofs Go.Dec
theorem zI (z:Int) (hz:(Lib.decDigits z.natAbs).length≤600) (w:World) :
  Calls Tryz.prog 163 #[fO z] w (fun e w'=>∃ v,e= aj (aD #[v,ak true])∧Bw w w'∧dS w' v z):=by
 have HC:=zh (uS ⟨(Lib.itoa z).toArray⟩);have e1:(⟨(Lib.itoa z).toArray⟩:ByteArray).data.toList=Lib.itoa z:=rfl;rw [e1,MU] at HC;have hd:=nZ z.natAbs;have hn:=oM z.natAbs;have hl:=wO z.natAbs;have hh:(Lib.decDigits z.natAbs).head? =some 48→z=0:=fun h=>Int.natAbs_eq_zero.1 (wP h);have hz1:z=0→(Lib.decDigits z.natAbs).length≤1:=fun h=>by rw [h];decide+kernel
 unfold fO;generalize (Lib.itoa z).toArray=txt at *;generalize Lib.decDigits z.natAbs=d at *;have hsz:(⟨d.toArray⟩:ByteArray).size=d.length:=rfl;have g0:((d.length:Int) == 0)=false:=beq_eq_false_iff_ne.2 zo;have g1:decide ((600:Int)<(d.length:Int))=false:=by simp;omega
 have g2:¬ d=[]:=fun h=>by rw [h] at hl;simp at hl
 have hbx:aA (w.alloc (.cells #[ah none 0 0,ak false] 234 (0,0))) w.heap.size #[ah none 0 0,ak false] 234:=aA.new _ _ _;have hbl:Below w.heap.size w (w.alloc (.cells #[ah none 0 0,ak false] 234 (0,0))):=(Below.refl _ _).alloc (aC _) _;have ug:=zh hbx;have HD:=zh hd;have HN:=zh hn;have HH:=zh hh;have HZ:=zh hz1;clear hbx hd hn hh hz1 e1;go_enter Tryz.func163,Tryz.ntmps163
 go_wp2_with (go_at_call 221;refine (HC.out _).mono ?_;rintro e w1 ⟨rfl,rfl⟩)
 go_loopw [23] (fun v wr=>∃ i:Nat,v= Z I (i:Int)∧i≤d.length∧w.alloc (.cells #[ah none 0 0,ak false] 234 (0,0))=wr) (fun v _=>d.length - (intOf v).toNat)
 case atStart=>exact ⟨0,rfl,by omega,rfl⟩
 case round =>
  obtain ⟨i,rfl,hi,rfl⟩:=hrel
  rcases aH i d.length with hlt|hge
  ·have hgt:(⟨d.toArray⟩:ByteArray)[i]'(by exact hlt)=d[i]:=rfl;have hdig:=HD.out d[i] (dx hlt);have q1:decide (((⟨d.toArray⟩:ByteArray)[i]'(by exact hlt)).toNat<(48:Int))=false:=by rw [hgt];simp;omega
   have q2:decide ((57:Int)<((⟨d.toArray⟩:ByteArray)[i]'(by exact hlt)).toNat)=false:=by rw [hgt];simp;omega
   clear hgt hdig;go_wp2_with fail
   exact ⟨⟨i+1,rfl,by omega,trivial⟩,by simp only [intOf];omega⟩
  ·obtain rfl:i=d.length:=by omega
   have hgt:(⟨d.toArray⟩:ByteArray)[0]'(by exact hl)=d[0]:=rfl;have HG:=zh (tN ⟨d.toArray⟩ (by rw [hsz];omega) HD.out (w.alloc (.cells #[ah none 0 0,ak false] 234 (0,0))));have e2:num (⟨d.toArray⟩:ByteArray).data.toList=z.natAbs:=HN.out;rw [e2] at HG;have hx:d[0].toNat=48→z=0:=fun h=>HH.out (by rw [List.head?_eq_getElem?, List.getElem?_eq_getElem hl];exact congrArg some (UInt8.toNat_inj.mp h));cases hq:decide (d[0].toNat=48) with
   | true =>
    have h0:=hx (of_decide_eq_true hq);have h1:=HZ.out h0;have q1:decide ((1:Int)<(d.length:Int))=false:=by simp;omega
    have q2:decide (z<0)=false:=by simp;omega
    have q0:((((⟨d.toArray⟩:ByteArray)[0]'(by exact hl)).toNat:Int) == 48)=true:=by rw [hgt];simp at hq ⊢;omega
    clear hgt hx hq e2 hge hi h0;go_wp2_with (go_at_call 232;refine (HG.out).mono ?_;rintro e w2 ⟨v,rfl,hb2,hv⟩;have HV:=zh hv;obtain ⟨pa,ca,rfl, -⟩:=hv;have tL:=ug.out.later hb2;have cb:=tL.cell;have fb:=tL.free)
    refine bX rfl rfl (((ug.out.later hb2).set 0 _).set 1 _) Tryz.underlying234 rfl zk ?_;refine ⟨_,rfl,((Bt hbl hb2).setCell (aC _) _).setCell (aC _) _,pa,_,ca,?_,(HV.out.setOther tL zd 0 _).setOther (tL.set 0 _) zd 1 _⟩;rw [q2];rfl
   | false =>
    have q0:((((⟨d.toArray⟩:ByteArray)[0]'(by exact hl)).toNat:Int) == 48)=false:=by rw [hgt];simp at hq ⊢;omega
    clear hgt hx hq e2 hge hi;go_wp2_with (go_at_call 232;refine (HG.out).mono ?_;rintro e w2 ⟨v,rfl,hb2,hv⟩;have HV:=zh hv;obtain ⟨pa,ca,rfl, -⟩:=hv;have tL:=ug.out.later hb2;have cb:=tL.cell;have fb:=tL.free)
    refine bX rfl rfl (((ug.out.later hb2).set 0 _).set 1 _) Tryz.underlying234 rfl zk ?_;exact ⟨_,rfl,((Bt hbl hb2).setCell (aC _) _).setCell (aC _) _,pa,_,ca,rfl,(HV.out.setOther tL zd 0 _).setOther (tL.set 0 _) zd 1 _⟩
end Go.Proofs.whole
namespace Go.Proofs.whole
open Go Go.RowKit Go.SW Go.Num Go.Mem Go.Proofs
theorem iI (v:Value) (n:Nat) (w:World) (h:aZ w v n) :
  Calls Tryz.prog 170 #[v] w fun e w'=>e= aj (ak (decide (n=0)))∧w=w':=zs4
def sQ (a b:Nat):Int:=if a<b then -1 else if b<a then 1 else 0
theorem qH {a b:Nat} (h:a<b):sQ a b= -1:=if_pos h
theorem pK {a b:Nat} (h:b<a):sQ a b=1:=by unfold sQ;rw [if_neg zo,if_pos h]
theorem rY (a:Nat):sQ a a=0:=by unfold sQ;simp
theorem Ki (a b:Nat) (w:World):Calls Tryz.prog 230 #[Z I a,Z I b] w fun e w'=>e= aj (Z I (sQ a b))∧w=w':=zs5
theorem Kh (a b:Nat) (w:World):Calls Tryz.prog 231 #[Z .u32 a,Z .u32 b] w fun e w'=>e= aj (Z I (sQ a b))∧w=w':=zs6
theorem wQ (a b:Option Addr) (m n c d:Nat) (w:World) (h:m≠n) :
  Calls Tryz.prog 244 #[ah a m c,ah b n d] w fun e w'=>e= aj (Z I (sQ m n))∧w=w':=zs7
theorem uV (pa pb:Option Addr) (ca cb:Nat) (l m:List Nat) (w:World) (hlen:l.length=m.length) (hm:l.length≤9223372036854775807) (hl:fV 1000000000 l) (hmd:fV 1000000000 m)
   (hc:∀ k,k<l.length→∃ b off,pa=some ⟨b,off,none⟩∧b<w.heap.size∧w.cell? ⟨b,off+k,none⟩=some (.int .u32 (l.getD k 0:Nat)))
   (hd:∀ k,k<m.length→∃ b off,pb=some ⟨b,off,none⟩∧b<w.heap.size∧w.cell? ⟨b,off+k,none⟩=some (.int .u32 (m.getD k 0:Nat))) :
    Calls Tryz.prog 244 #[ah pa l.length ca,ah pb m.length cb] w fun e w'=>e= aj (Z I (sQ (val 1000000000 l) (val 1000000000 m)))∧Bw w w':=zs8
theorem jT (x y:Value) (a b:Nat) (w:World) (hx:aZ w x a) (hy:aZ w y b) :
  Calls Tryz.prog 244 #[x,y] w fun e w'=>e= aj (Z I (sQ a b))∧Bw w w':=zs9
theorem Aa:(Tryz.prog.info? 22).map (fun i=>(i.zero,i.size,i.bytes))=some (some (.int .u32 0),1,4):=by kernel_rfl
theorem xA {B:Nat} {l m s:List Nat} {k c d c':Nat} (hk:k<l.length) (hs:s.length=k) (he:val B s+c*B^k=val B (l.take k)+val B (m.take k)) (h:d+c'*B=l.getD k 0+c+m.getD k 0) :
  val B (s++[d])+c'*B^(k+1)=val B (l.take (k+1))+val B (m.take (k+1)):=aj9
theorem xw (pl ps:Option Addr) (cl cs:Nat) (l m:List Nat) (v0 v1:Value) (w:World) (hl:fV 1000000000 l) (hmd:fV 1000000000 m) (hb1:l.length≤1099511627776) (hml:m.length≤l.length)
   (hv:(v0= ah pl l.length cl∧v1= ah ps m.length cs)∨(v1= ah pl l.length cl∧v0= ah ps m.length cs∧m.length<l.length))
   (hc:∀ k,k<l.length→∃ b off,pl=some ⟨b,off,none⟩∧b<w.heap.size∧w.cell? ⟨b,off+k,none⟩=some (.int .u32 (l.getD k 0:Nat)))
   (hd:∀ k,k<m.length→∃ b off,ps=some ⟨b,off,none⟩∧b<w.heap.size∧w.cell? ⟨b,off+k,none⟩=some (.int .u32 (m.getD k 0:Nat))) :
    Calls Tryz.prog 172 #[v0,v1] w fun e w'=>∃ s v,e= aj v∧Bw w w'∧nR w' v s∧fV 1000000000 s∧val 1000000000 s=val 1000000000 l+val 1000000000 m∧l.length≤s.length∧(l.length<s.length→Top s):=aj8
theorem zL (x y:Value) (a b:Nat) (w:World) (hx:aZ w x a) (hy:aZ w y b) (ha:sz 1000000000 a≤1099511627776) (hb:sz 1000000000 b≤1099511627776) :
  Calls Tryz.prog 172 #[x,y] w fun e w'=>∃ v,e= aj v∧Bw w w'∧aZ w' v (a+b):=zs12
theorem JG {x y:Nat} (hx:x<1000000000) (hy:y<1000000000):(0:Int)≤(x:Int)*(y:Int)∧(x:Int)*(y:Int)≤999999998000000001:=by
 have h:x*y≤999999999*999999999:=fq zo zo;rw [← Int.natCast_mul];omega
theorem yA (pl ps:Option Addr) (cl cs:Nat) (l m:List Nat) (w:World) (hl:fV 1000000000 l) (hmd:fV 1000000000 m) (hb1:l.length≤1099511627776) (hb2:m.length≤1099511627776)
   (hc:∀ k,k<l.length→∃ b off,pl=some ⟨b,off,none⟩∧b<w.heap.size∧w.cell? ⟨b,off+k,none⟩=some (.int .u32 (l.getD k 0:Nat)))
   (hd:∀ k,k<m.length→∃ b off,ps=some ⟨b,off,none⟩∧b<w.heap.size∧w.cell? ⟨b,off+k,none⟩=some (.int .u32 (m.getD k 0:Nat))) :
    Calls Tryz.prog 235 #[ah pl l.length cl,ah ps m.length cs] w fun e w'=>∃ v,e= aj v∧Bw w w'∧aZ w' v (val 1000000000 l*val 1000000000 m):=aj7
theorem jB (x y:Value) (a b:Nat) (w:World) (hx:aZ w x a) (hy:aZ w y b) (ha:sz 1000000000 a≤1099511627776) (hb:sz 1000000000 b≤1099511627776) :
  Calls Tryz.prog 235 #[x,y] w fun e w'=>∃ v,e= aj v∧Bw w w'∧aZ w' v (a*b):=aj6
theorem qG (pl:Option Addr) (cl:Nat) (l:List Nat) (d:Nat) (w:World) (hl:fV 1000000000 l) (hb1:l.length≤1099511627776) (hd0:0<d) (hd1:d≤1000000000)
   (hc:∀ k,k<l.length→∃ b off,pl=some ⟨b,off,none⟩∧b<w.heap.size∧w.cell? ⟨b,off+k,none⟩=some (.int .u32 (l.getD k 0:Nat))) :
    Calls Tryz.prog 245 #[ah pl l.length cl,Z .u32 d] w fun e w'=>∃ v,e= aj (aD #[v,Z .u32 (val 1000000000 l%d:Nat)])∧Bw w w'∧aZ w' v (val 1000000000 l / d):=aj5
theorem vP (x:Value) (a d:Nat) (w:World) (hx:aZ w x a) (ha:sz 1000000000 a≤1099511627776) (hd0:0<d) (hd1:d≤1000000000) :
  Calls Tryz.prog 245 #[x,Z .u32 d] w fun e w'=>∃ v,e= aj (aD #[v,Z .u32 (a%d:Nat)])∧Bw w w'∧aZ w' v (a / d):=by
 obtain ⟨pa,ca,rfl,h1,h2,h3⟩:=nR.read hx.Cv;have:=qG pa ca _ d w (dw zo a) ha hd0 hd1 h3
 rwa [bN zo] at this
theorem mM (a:Nat) (w:World) (ha:a≤18446744073709551615) :
  Calls Tryz.prog 246 #[Z .u64 a] w fun e w'=>∃ v,e= aj v∧Bw w w'∧aZ w' v a:=aj4
def u7 (w:World) (g k:Nat) (pre u post v:List Nat) (e:Ending) (w':World):Prop :=
 e= aj (Z .u32 (val 1000000000 u / val 1000000000 v:Nat))∧w.grownBy w' (some g) ∧
   ∃ s,aA w' g (dX (pre++(s++[0])++post)).toArray 22∧s.length=k+2∧fV 1000000000 s∧val 1000000000 s=val 1000000000 u%val 1000000000 v
theorem vV (g j k cu:Nat) (pv:Option Addr) (cv:Nat) (pre u post v:List Nat) (w:World) (hj:pre.length=j) (hu:u.length=k+3) (hv:v.length=k+2) (du:fV 1000000000 u) (dv:fV 1000000000 v) (hk:k≤1099511627776)
  (ht:1000000000≤2*v.getD (k+1) 0) (hlt:val 1000000000 u<val 1000000000 v*1000000000) (ZU:aA w g (dX (pre++u++post)).toArray 22)
  (hd:∀ i,i<k+2→∃ b off,pv=some ⟨b,off,none⟩∧b≠g∧b<w.heap.size∧w.cell? ⟨b,off+i,none⟩=some (.int .u32 (v.getD i 0:Nat))) :
  Calls Tryz.prog 247 #[ah (some ⟨g,j,none⟩) (k+3) cu,ah pv (k+2) cv] w (u7 w g k pre u post v):=aj3
def kT (w:World) (q r:Nat) (e:Ending) (w':World):Prop:=∃ vq vr,e= aj (aD #[vq,vr])∧Bw w w'∧aZ w' vq q∧aZ w' vr r
theorem wL (x y:Value) (a b:Nat) (w:World) (hx:aZ w x a) (hy:aZ w y b) (h:a<b) :
  Calls Tryz.prog 171 #[x,y] w (kT w (a / b) (a%b)):=aj2
theorem uR (pa pb:Option Addr) (ca cb:Nat) (a b:Nat) (w:World) (hx:aZ w (ah pa (sz 1000000000 a) ca) a) (hy:aZ w (ah pb 1 cb) b) (hb0:0<b) (hb1:b<1000000000) (h:b≤a) (ha:sz 1000000000 a≤549755813888) :
  Calls Tryz.prog 171 #[ah pa (sz 1000000000 a) ca,ah pb 1 cb] w (kT w (a / b) (a%b)):=aj1
theorem wK (pa pb:Option Addr) (ca cb:Nat) (a b k:Nat) (w:World) (hx:aZ w (ah pa (sz 1000000000 a) ca) a) (hy:aZ w (ah pb (k+2) cb) b) (hsb:sz 1000000000 b=k+2) (h:b≤a) (ha:sz 1000000000 a≤549755813888) :
  Calls Tryz.prog 171 #[ah pa (sz 1000000000 a) ca,ah pb (k+2) cb] w (kT w (a / b) (a%b)):=aj0
theorem eZ (x y:Value) (a b:Nat) (w:World) (hx:aZ w x a) (hy:aZ w y b) (hb:0<b) (ha:sz 1000000000 a≤549755813888) :
  Calls Tryz.prog 171 #[x,y] w (kT w (a / b) (a%b)):=ai9
end Go.Proofs.whole
namespace Go.Proofs.whole
open Go Go.RowKit Go.SW Go.Num Go.Mem Go.Proofs Go.Proofs.ko Go.Dec
theorem JE (B b d wd:Nat) (l:List UInt8) (w:World) (h:P8 B b (Lib.byteCells l) w) (hB:B≤w.heap.size) (hw:wd≤9) (hd:d<1000000000) (hl:l.length≤140737488355000) (ht:Pow w) :
  Calls Tryz.prog 281 #[Z .u32 d,Z I wd,ay (some ⟨b,0,none⟩)] w fun e w'=>e= aj (aD #[])∧P8 B b (Lib.byteCells (l++(bJ (wd - (Lib.decDigits d).length) 48++Lib.decDigits d))) w'∧Below B w w':=ai8
def wT (w:World) (n:Nat) (e:Ending) (w':World):Prop:=e= aj (O ⟨(Lib.decDigits n).toArray⟩)∧Bw w w'
theorem oG (x:Value) (a:Nat) (w:World) (hx:aZ w x a) (ha:sz 1000000000 a≤1099511627776) (ht:Pow w) :
  Calls Tryz.prog 234 #[x] w (wT w a):=ai7
theorem iW (x:Value) (a:Nat) (w:World) (hx:aZ w x a) (ha:sz 1000000000 a≤1099511627776) (ht:Pow w) :
  Calls Tryz.prog 233 #[x] w (fun e w'=>e= aj (Z I ((Lib.decDigits a).length:Nat))∧Bw w w'):=ai6
end Go.Proofs.whole
namespace Go.Proofs.whole
open Go Go.RowKit Go.SW Go.Num Go.Mem Go.Proofs
theorem aZ.inj {w:World} {v:Value} {m n:Nat} (h:aZ w v m) (k:aZ w v n):m=n:=ai5
open Classical in
noncomputable def yg (w:World) (v:Value):Nat:=if h:∃ n,aZ w v n then h.choose else 0
theorem tH {w:World} {v:Value} {n:Nat} (h:aZ w v n):yg w v=n:=by
 unfold yg;rw [dif_pos ⟨n,h⟩];exact aZ.inj (Exists.choose_spec (⟨n,h⟩:∃ n,aZ w v n)) h
end Go.Proofs.whole
namespace Go.Proofs.whole
open Go Go.RowKit Go.SW Go.Num Go.Mem Go.Proofs Go.Dec
theorem fF (m:Value) (n:Nat) (b:Bool) (w:World) (h:aZ w m n) :
  Calls Tryz.prog 165 #[m,ak b] w (fun e w'=>∃ v,e= aj v∧Bw w w'∧dS w' v (iR n b)):=ai4
end Go.Proofs.whole
namespace Go.Proofs.whole
open Go Go.RowKit Go.SW Go.Num Go.Mem Go.Proofs
theorem LJ (x:Value) (a k:Nat) (w:World) (hx:aZ w x a) (hk:k≤9223372036854775807) (hb:∀ i,i≤k→sz 1000000000 (a^i)≤1099511627776) (ha:sz 1000000000 a≤1099511627776) :
  Calls Tryz.prog 166 #[x,Z I (k:Int)] w (fun e w'=>∃ v,e= aj v∧Bw w w'∧aZ w' v (a^k)):=by
 have Q0:∀ (fn:Fn) (first cap:Array Value) (w:World),(Instr.makeFunc fn first cap).run Tryz.prog w= .ok (.func fn first cap) w:=fun _ _ _ _=>rfl;obtain ⟨pa,l,ca,rfl⟩:=hx.slice;have HX:=zh hx;have HBD:=zh hb;have HA:=zh ha;clear hx hb ha;go_enter Tryz.func166,Tryz.ntmps166
 go_wp2_with fail
 have hb1:Below w.heap.size w (w.alloc (.cells #[Z .u32 1] 22)):=aI;have h1:Hid (aZ (w.alloc (.cells #[Z .u32 1] 22)) (ah (some ⟨w.heap.size,0,none⟩) 1 1) 1):=zh (by have:=aZ.lit (w:=w) (d:=1) zo zo;simpa using this);obtain ⟨w1,EW⟩:∃ y,w.alloc (.cells #[Z .u32 1] 22)=y:=⟨_,rfl⟩;rw [EW] at hb1 h1 ⊢;have HB1:=zh hb1;clear EW hb1
 go_loopw [5,11] (fun pv iv wr=>∃ i:Nat,iv= Z I (i:Int)∧i≤k∧Hid (aZ wr pv (a^i))∧Bw w1 wr) (fun _ iv _=>k - (intOf iv).toNat)
 case atStart=>exact ⟨0,rfl,by omega,zh (by rw [Nat.pow_zero];exact h1.out),Below.refl _ _⟩
 case round =>
  obtain ⟨i,rfl,hi,HP,hb⟩:=hrel;obtain ⟨pp,lp,cp,rfl⟩:=HP.out.slice
  rcases aH i k with hlt|hge
  ·have HT:=zh (jB _ _ a (a^i) wr (HX.out.later (Bt HB1.out hb)) HP.out HA.out (HBD.out i hi));go_wp2_with fail
   refine HT.out.mono ?_;rintro e w2 ⟨v,rfl,hb2,hv⟩;obtain ⟨pq,lq,cq,rfl⟩:=hv.slice;have oL:Hid (aZ w2 (ah pq lq cq) (a^(i+1))):=zh (by rw [bS,aJ];exact hv);have hz:=Bt hb hb2;clear hv hb2 HT HP;go_wp2_with fail
   go_roundw
   case rel=>exact ⟨i+1,by go_num,by omega,oL,hz⟩
   case measure=>exact zM
  ·obtain rfl:i=k:=by omega
   go_wp2_with fail
   go_ret
   exact ⟨_,rfl,Bt HB1.out hb,HP.out⟩
theorem Uw (k d:Nat):(bJ (k+1) 0).set k d=bJ k 0++[d]:=by
 rw [List.replicate_succ'];rw [jG _ _ zi];simp
theorem YF {w:World} {v:Value} {k d:Nat} (h:nR w v ((bJ (k+1) 0).set k d)) (h0:0<d) (h1:d<1000000000):aZ w v (1000000000^k*d):=by
 rw [Uw] at h
 have:=aZ.OO h (fun x hx=>by
  rcases List.mem_append.1 hx with hx|hx
  ·rw [List.eq_of_mem_replicate hx];omega
  ·simp at hx;omega) (fun j hj=>by
  have e:j=k:=by simpa using hj.symm
  subst e;rw [cO,fC zi];simp
  omega)
 rwa [jy,xk,List.length_replicate,dP] at this
theorem uq (n:Nat) (hn:n≤100000) (w:World) :
  Calls Tryz.prog 287 #[Z I (n:Int)] w (fun e w'=>∃ v,e= aj v∧Bw w w'∧aZ w' v (10^n)):=by
 obtain ⟨i0,hi,hz0,hz1,hz2⟩:=info_parts Aa;have W0:∀ z:Int,0≤z∧z≤1000000000→I.wrap z=z:=fun z h=>by unfold IntKind.wrap;simp [IntKind.bits,IntKind.signed];omega
 obtain ⟨k,hk⟩:∃ k,n / 9=k:=⟨_,rfl⟩;obtain ⟨r,hr⟩:∃ r,n%9=r:=⟨_,rfl⟩
 have e10:10^n=1000000000^k*10^r:=by
  rw [show (1000000000:Nat)=10^9 by decide,← Nat.pow_mul,← gy]
  congr 1
  omega
 rw [e10];have t1:(n:Int).tdiv 9=(k:Int):=by rw [Int.tdiv_eq_ediv_of_nonneg zo];omega
 have t2:(n:Int).tmod 9=(r:Int):=by rw [Int.tmod_eq_emod_of_nonneg zo];omega
 have u1:=W0 (k:Int) zo;have u2:=W0 ((k:Int)+1) zo;have u3:=W0 (r:Int) zo;have hr8:r≤8:=by omega
 have hk9:k≤100000:=by omega
 have HT:Hid (∀ i,i≤r→0<10^i∧10^i≤100000000):=zh fun i hi=>⟨Nat.pow_pos zo,au (bW zo (show i≤8 by omega)) zd⟩;clear e10 hk hr W0;go_enter Tryz.func287,Tryz.ntmps287
 go_wp2_with (at_make;refine wpList_make_full _ rfl _ _ 232 rfl w.heap.size 22 i0 (Z .u32 0) 1 Tryz.underlying232 hi hz0 hz1 _ _ _ _ (k+1) rfl rfl zo zo (by rw [hz2];omega) (by unfold maxLen;omega) (aC _) ?_)
 intro w0 hown0 lZ;rw [tJ] at hown0;have hb0:Bw w w0:=(Below.refl _ _).grown lZ (aC _) (fun k h=>by cases h);have HO:=zh hown0;have HB:=zh hb0;clear hown0 lZ hb0;go_wp2_with fail
 go_loopw [4,11] (fun tv iv wr=>∃ i:Nat,iv= Z I (i:Int)∧i≤r∧tv= Z .u32 ((10^i:Nat):Int)∧wr=w0) (fun _ iv _=>r - (intOf iv).toNat)
 case atStart=>exact ⟨0,rfl,by omega,rfl,rfl⟩
 case round =>
  obtain ⟨i,rfl,hi,rfl,rfl⟩:=hrel;obtain ⟨h1,h2⟩:=HT.out i hi
  rcases aH i r with hlt|hge
  ·have h3:=(HT.out (i+1) zo).2;obtain ⟨b,hB⟩:∃ b,Hid (10^(i+1)=b):=⟨_,zh rfl⟩;rw [hB.out] at h3;have e:((10^i:Nat):Int)*10=(b:Int):=by rw [← hB.out,bS];omega
   have he:IntKind.u32.wrap (((10^i:Nat):Int)*10)=(b:Int):=by rw [e];unfold IntKind.wrap;simp [IntKind.bits,IntKind.signed];omega
   clear e h3 h1 h2;generalize 10^i=a at *;go_wp2_with fail
   go_roundw
   case rel=>exact ⟨i+1,by go_num,by omega,by rw [hB.out],trivial⟩
   case measure=>exact zM
  ·obtain rfl:i=r:=by omega
   obtain ⟨d,hD⟩:∃ d,Hid (10^i=d):=⟨_,zh rfl⟩;rw [hD.out] at h1 h2 ⊢;have q1:wr.cell? ⟨w.heap.size,k,none⟩=some (.int .u32 0):=by rw [HO.out.cellAt k zo,oQ zi];simp
   have q2:wr.frozen? ⟨w.heap.size,k,none⟩=false:=HO.out.frozenAt k
   have HS:Hid (aZ (wr.setCell ⟨w.heap.size,k,none⟩ (Z .u32 (d:Int))) (ah (some ⟨w.heap.size,0,none⟩) (k+1) (k+1)) (1000000000^k*d)):=zh (by
    have h3:=(HO.out.stored k (Z .u32 (d:Int))).1;rw [mX] at h3;exact YF (nR.gP h3) h1 zo)
   have hb:Below w.heap.size w (wr.setCell ⟨w.heap.size,k,none⟩ (Z .u32 (d:Int))):=HB.out.setCell (aC _) _;go_wp2_with fail
   go_ret
   exact ⟨_,rfl,hb,by rw [hD.out];exact HS.out⟩
end Go.Proofs.whole
namespace Go.Proofs.whole
open Go Go.RowKit Go.SW Go.Num Go.Mem Go.Proofs Go.Dec
theorem Oq {y s:Nat} (hy:sz 1000000000 y≤s):∀ i,sz 1000000000 (y^i)≤s*i+1
 | 0=>dF zo _ _ (by rw [Nat.mul_zero,Nat.pow_zero];decide)
 | i+1=>by
  rw [bS];have h:=mR (B:=1000000000) zo (y^i) y;have:=Oq hy i;rw [Nat.mul_succ];omega
theorem an4 {l:Nat}:sz 1000000000 (10^l)≤l+1:=by
 refine dF zo _ _ ?_;have h1:10^l≤1000000000^l:=Nat.pow_le_pow_left zo l;have h2:1000000000^l<1000000000^(l+1):=Nat.pow_lt_pow_right zo zo;omega
theorem CX (x:Value) (a k:Nat) (w:World) (hx:aZ w x a) (hk:1≤k) (k12:k≤12) (hl:(Lib.decDigits a).length≤10000) (ha:sz 1000000000 a≤10000) (ht:ko.Pow w) :
  Calls Tryz.prog 249 #[x,Z I (k:Int)] w (fun e w'=>∃ v,e= aj v∧Bw w w'∧aZ w' v (iX k a)):=by
 obtain ⟨pa,la,ca,rfl⟩:=hx.slice
 rcases aY a with rfl|ha0
 ·have hr:iX k 0=0:=Nat.le_antisymm (Mq hk (by rw [dP,Nat.one_pow];omega)) (Nat.zero_le _);rw [hr];have HX:=zh hx;clear hx hl ha ht hr;go_enter Tryz.func249,Tryz.ntmps249
  go_wp2_with fail
  refine (iI _ 0 _ HX.out).mono ?_;rintro e w1 ⟨rfl,rfl⟩;go_wp2_with fail
  go_ret
  exact ⟨_,rfl,Below.refl _ _,aZ.zero _⟩
 ·have W0:∀ z:Int,0≤z∧z≤1000000000→I.wrap z=z:=fun z h=>by unfold IntKind.wrap;simp [IntKind.bits,IntKind.signed];omega
  have d0:decide (a=0)=false:=by simp;omega
  have hs:=OT (k:=k) (m:=a) hk (FV a);obtain ⟨l,El⟩:∃ l,Hid ((Lib.decDigits a).length=l):=⟨_,zh rfl⟩;have HLEN:=zh (fun W (hW:Bw w W)=>iW _ a W (hx.later hW) (au ha zo) (ht.later hW));rw [El.out] at hs hl HLEN;obtain ⟨j,Ej⟩:∃ j,l / k=j:=⟨_,rfl⟩;have hjl:j≤l:=by rw [← Ej];exact Nat.div_le_self _ _
  have t1:(l:Int).tdiv (k:Int)=(j:Int):=by rw [Int.tdiv_eq_ediv_of_nonneg zo,← Ej];rfl
  rw [Ej] at hs;have kz:¬ k=0:=by omega
  have kz2:(k:Int)≠0:=by omega
  have kz3:((k:Int) == 0)=false:=by simp;omega
  have u1:=W0 (j:Int) zo;have u2:=W0 ((j:Int)+1) zo;obtain ⟨m,hm⟩:∃ m,Hid (k=m+1):=⟨k - 1,zh zo⟩;have e1:(k:Int) - 1=(m:Int):=by have:=hm.out;omega
  have bi3:m≤11:=by have:=hm.out;omega
  have u3:=W0 (m:Int) zo;have u4:IntKind.u64.wrap (m:Int)=(m:Int):=by unfold IntKind.wrap;simp [IntKind.bits,IntKind.signed];omega
  have u5:IntKind.u32.wrap (k:Int)=(k:Int):=by unfold IntKind.wrap;simp [IntKind.bits,IntKind.signed];omega
  have ba1:=zh (fun W=>uq (j+1) zo W);have HX:=zh hx;have HA:=zh ha;have HS:=zh hs;have HA0:=zh ha0;have HRP:Hid (1≤iX k a):=zh (zX hk (by rw [Nat.one_pow];exact ha0));clear hx ha hs ht W0 Ej;go_enter Tryz.func249,Tryz.ntmps249
  go_wp2_with fail
  refine (iI _ a _ HX.out).mono ?_;rintro e w1 ⟨rfl,rfl⟩;rw [d0];go_wp2_with fail
  refine (HLEN.out _ (Below.refl _ _)).mono ?_;rintro e w2 ⟨rfl,hb2⟩;go_wp2_with fail
  refine (ba1.out _).mono ?_;rintro e w3 ⟨v,rfl,hb3,hv⟩;obtain ⟨pv,lv,cv,rfl⟩:=hv.slice;have HV:=zh hv;have HB:=zh (Bt hb2 hb3);clear hv hb2 hb3;go_wp2_with fail
  go_loopw [5] (fun xv wr=>∃ y:Nat,Hid (aZ wr xv y)∧Hid (iX k a≤y∧y≤10^(j+1))∧Bw w wr) (fun xv wr=>yg wr xv)
  case atStart=>exact ⟨_,HV,zh ⟨HS.out,aC _⟩,HB.out⟩
  case round =>
   obtain ⟨y,HY,HR,hb⟩:=hrel;obtain ⟨py,ly,cy,rfl⟩:=HY.out.slice;have hy0:0<y:=by have:=HR.out.1;have:=HRP.out;omega
   have hys:sz 1000000000 y≤10002:=au (iJ zo HR.out.2) (au an4 zo);have RH:=zh (LJ _ y m wr HY.out zo (fun i hi=>au (Oq hys i) (by have:=aT 10002 (show i≤12 by omega);omega)) (au hys zo));have HYS:=zh hys;have HY0:=zh hy0;have HBr:=zh hb;clear hb hys hy0;go_wp2_with fail
   refine RH.out.mono ?_;rintro e w4 ⟨v4,rfl,hb4,hv4⟩;obtain ⟨p4,l4,c4,rfl⟩:=hv4.slice;have HV4:=zh hv4;have HB4:=zh hb4;clear hv4 hb4 RH;have HD:=zh (eZ _ _ a (y^m) _ (HX.out.later (Bt HBr.out HB4.out)) HV4.out (Nat.pow_pos HY0.out) (au HA.out zo));go_wp2_with fail
   refine HD.out.mono ?_;rintro e w5 ⟨v5,v6,rfl,hb5,hv5, -⟩;obtain ⟨p5,l5,c5,rfl⟩:=hv5.slice;have HV5:=zh hv5;have HB5:=zh (Bt HB4.out hb5);clear hv5 hb5 HD HV4 HB4;go_wp2_with fail
   refine (mM m _ zo).mono ?_;rintro e w6 ⟨v7,rfl,hb6,hv6⟩;obtain ⟨p6,l6,c6,rfl⟩:=hv6.slice;have sm:sz 1000000000 m≤2:=dF zo 2 _ zo;have HM:=zh (jB _ _ y m _ (HY.out.later (Bt HB5.out hb6)) hv6 (au HYS.out zo) (au sm zo));have aO4:=zh (HV5.out.later hb6);have XR:=zh (Bt HB5.out hb6);clear hv6 hb6 HV5 HB5;go_wp2_with fail
   refine HM.out.mono ?_;rintro e w7 ⟨v8,rfl,jY,hv7⟩;obtain ⟨p7,l7,c7,rfl⟩:=hv7.slice
   have s7:sz 1000000000 (y*m)≤10100:=by
    have h1:=mR (B:=1000000000) zo y m;have h2:=HYS.out;omega
   have s5:sz 1000000000 (a / y^m)≤10000:=au (iJ zo (Nat.div_le_self _ _)) HA.out;have HP:=zh (zL _ _ (y*m) (a / y^m) _ hv7 (aO4.out.later jY) (au s7 zo) (au s5 zo))
   have aO7:Hid (sz 1000000000 (y*m+a / y^m)≤1099511627776):=zh (by
    have:=AZ (B:=1000000000) zo (y*m) (a / y^m);omega)
   have HB7:=zh (Bt XR.out jY);clear hv7 jY HM aO4 XR s7 s5;go_wp2_with fail
   refine HP.out.mono ?_;rintro e w8 ⟨v9,rfl,o7,wF⟩;obtain ⟨p8,l8,c8,rfl⟩:=wF.slice;have HSH:=zh (vP _ _ k _ wF aO7.out zo zo);have HB8:=zh (Bt HB7.out o7);clear wF o7 HP aO7 HB7;have en:(y*m+a / y^m) / k=OV k a y:=by unfold OV;rw [show k - 1=m by have:=hm.out;omega]
   rw [en] at HSH;obtain ⟨z,Ez⟩:∃ z,Hid (OV k a y=z):=⟨_,zh rfl⟩;rw [Ez.out] at HSH;clear en;go_wp2_with fail
   refine HSH.out.mono ?_;rintro e w9 ⟨v10,rfl,rJ,hv9⟩;obtain ⟨p9,l9,c9,rfl⟩:=hv9.slice;have HV9:=zh hv9;have HB9:=zh (Bt HB8.out rJ);have HCM:=zh (jT _ _ z y _ hv9 (HY.out.later (Bt HB8.out rJ)));clear hv9 rJ HSH HB8;go_wp2_with fail
   refine HCM.out.mono ?_;rintro e w10 ⟨rfl,lN⟩;have aA3:=zh (Bt HB9.out lN);have aO6:=zh (HV9.out.later lN);have HYZ:=zh (HY.out.later aA3.out);clear HCM HB9 HV9 lN
   rcases aH z y with hlt|hge
   ·rw [qH hlt];have hz:=Bt HBr.out aA3.out;go_wp2_with fail
    go_roundw
    case rel=>exact ⟨z,aO6,zh ⟨by rw [← Ez.out];exact Zj hk HY0.out,by have:=HR.out.2;omega⟩,hz⟩
    case measure=>rw [tH aO6.out,tH HY.out];exact hlt
   ·have g:decide ((0:Int)≤sQ z y)=true:=by
     rcases Nat.eq_or_lt_of_le hge with h|h
     ·rw [h,rY];rfl
     ·rw [pK h];rfl
    have hw:=Bt HBr.out aA3.out;have HE:Hid (y=iX k a):=zh (VB hk HY0.out HR.out.1 (by rw [Ez.out];exact hge));go_wp2_with fail
    go_ret
    exact ⟨_,rfl,hw,by rw [← HE.out];exact HYZ.out⟩
end Go.Proofs.whole
namespace Go.Proofs.whole
open Go Go.RowKit Go.SW Go.Num Go.Mem Go.Proofs Go.Dec Go.fG
def K7 (z:Int):Value:=if ou z.natAbs=true then aD #[fO z,Z I 0] else aD #[O ⟨#[]⟩,Z I 6]
theorem kV (v:Value) (z:Int) (w:World) (h:dS w v z) (kz:sz 1000000000 z.natAbs≤1099511627776) (ht:ko.Pow w) :
  Calls Tryz.prog 164 #[v] w (fun e w'=>e= aj (K7 z)∧Bw w w'):=by
 obtain ⟨pa,l,ca,rfl,hm⟩:=h
 have hlen:((1+(Lib.decDigits z.natAbs).length:Nat):Int)≤9223372036854775807:=by
  have h1:=wN (dw (B:=1000000000) zo z.natAbs);rw [bN zo] at h1;unfold sz at kz;omega
 have af9:¬ 9223372036854775807<1+(Lib.decDigits z.natAbs).length:=by omega
 have Oe:=zh (fun W (hW:Bw w W)=>iW _ z.natAbs W (hm.later hW) kz (ht.later hW));have HDI:=zh (fun W (hW:Bw w W)=>oG _ z.natAbs W (hm.later hW) kz (ht.later hW));unfold K7;clear hm kz ht hlen
 rcases aH 600 (Lib.decDigits z.natAbs).length with hb|hb
 ·rw [if_neg (by rw [E5 hb];decide)];have g:decide ((600:Int)<((Lib.decDigits z.natAbs).length:Int))=true:=by simp;omega
  clear hb af9;generalize (Lib.decDigits z.natAbs).length=n at *;generalize decide (z<0)=b at *;go_enter Tryz.func164,Tryz.ntmps164
  go_wp2_with fail
  refine (Oe.out _ aI).mono ?_;rintro e w1 ⟨rfl,hb1⟩;have hw:=Bt (show Below w.heap.size w (w.alloc (.cells #[ah pa l ca,ak b] 234)) from aI) hb1;go_wp2_with fail
  go_ret2
  exact ⟨rfl,hw⟩
 ·rw [if_pos (fJ.2 hb)];have g:decide ((600:Int)<((Lib.decDigits z.natAbs).length:Int))=false:=by simp;omega
  by_cases hz:z<0
  ·have e:fO z= O ⟨(45::Lib.decDigits z.natAbs).toArray⟩:=by unfold fO Lib.itoa;rw [if_pos hz]
   rw [e,decide_eq_true hz];clear e hz hb;go_enter Tryz.func164,Tryz.ntmps164
   go_wp2_with fail
   refine (Oe.out _ aI).mono ?_;rintro e w1 ⟨rfl,hb1⟩;have hx:=aA.later (aA.new w #[ah pa l ca,ak true] 234) hb1;have cx:=hx.cell;have lx:=hx.lt;have HW:=zh (Bt (show Below w.heap.size w (w.alloc (.cells #[ah pa l ca,ak true] 234)) from aI) hb1);go_wp2_with fail
   refine (HDI.out _ HW.out).mono ?_;rintro e w2 ⟨rfl,hb2⟩;have hw:=Bt HW.out hb2;go_wp2_with fail
   go_ret2
   exact ⟨rfl,hw⟩
  ·have e:fO z= O ⟨(Lib.decDigits z.natAbs).toArray⟩:=by unfold fO Lib.itoa;rw [if_neg hz,show z.toNat=z.natAbs by omega]
   rw [e,decide_eq_false hz];clear e hz hb;go_enter Tryz.func164,Tryz.ntmps164
   go_wp2_with fail
   refine (Oe.out _ aI).mono ?_;rintro e w1 ⟨rfl,hb1⟩;have hx:=aA.later (aA.new w #[ah pa l ca,ak false] 234) hb1;have cx:=hx.cell;have lx:=hx.lt;have HW:=zh (Bt (show Below w.heap.size w (w.alloc (.cells #[ah pa l ca,ak false] 234)) from aI) hb1);go_wp2_with fail
   refine (HDI.out _ HW.out).mono ?_;rintro e w2 ⟨rfl,hb2⟩;have hw:=Bt HW.out hb2;go_wp2_with fail
   go_ret2
   exact ⟨rfl,hw⟩
theorem wh {a b:Nat} (h:ou b=true) (hab:a≤b):ou a=true:=by
 unfold ou at *;have:=of_decide_eq_true h;exact decide_eq_true zo
theorem uO {k a:Nat} (hk:1≤k):iX k a≤a:=by
 have h:=(nC hk a).1
 rcases aY (iX k a) with h0|h0
 ·omega
 ·have:=Nat.le_self_pow (by omega:k≠0) (iX k a);omega
theorem AU {a:Nat} (h:ou a=true):K7 (a:Int)= aD #[fO (a:Int),Z I 0]:=by
 unfold K7;rw [Int.natAbs_natCast,if_pos h]
theorem KJ (a k:Nat) (ha:ou a=true) (hk:1≤k) (k12:k≤12) (w:World) (ht:ko.Pow w) :
  Calls Tryz.prog 174 #[fO (a:Int),Z I (k:Int)] w (fun e w'=>e= aj (aD #[fO (iX k a:Nat),Z I 0])∧Bw w w'):=by
 have hd:(Lib.decDigits a).length≤600:=fJ.1 ha;have hs:=ni ha;have hro:ou (iX k a)=true:=wh ha (uO hk);have HR:=zh (fun W=>zI (a:Int) (by rw [Int.natAbs_natCast];exact hd) W);have HRT:=zh (fun x W hx hp=>CX x a k W hx hk k12 zo zo hp);have NI:=zh (fun v W h hp=>kV v (iX k a:Nat) W h (by rw [Int.natAbs_natCast];exact au (ni hro) zo) hp);rw [AU hro] at NI;have HP:=zh ht;have g0:decide ((a:Int)<0)=false:=by simp
 have g1:decide ((k:Int)<1)=false:=by simp;omega
 have g2:decide ((12:Int)<(k:Int))=false:=by simp;omega
 clear hd hs hro ha ht;obtain ⟨r,Er⟩:∃ r,iX k a=r:=⟨_,rfl⟩;rw [Er] at HRT NI ⊢;clear Er;unfold fO at HR NI ⊢;generalize (⟨(Lib.itoa (a:Int)).toArray⟩:ByteArray)=ta at *;generalize (⟨(Lib.itoa (r:Int)).toArray⟩:ByteArray)=tr at *;go_enter Tryz.func174,Tryz.ntmps174
 go_wp2_with fail
 refine (HR.out _).mono ?_;rintro e w1 ⟨v,rfl,hb1,hv⟩;obtain ⟨pa,l,ca,rfl,hm⟩:=hv;rw [Int.natAbs_natCast] at hm;rw [g0];have HM:=zh hm;have HB1:=zh hb1;clear hm hb1;go_wp2_with fail
 have hb2:Below w1.heap.size w1 (w1.alloc (.cells #[ah pa l ca,ak false] 234)):=aI;refine (HRT.out _ _ (HM.out.later hb2) (HP.out.later (Bt HB1.out hb2))).mono ?_;rintro e w2 ⟨v,rfl,hb3,hv⟩;obtain ⟨p2,l2,c2,rfl⟩:=hv.slice;have HM2:=zh hv;have HB2:=zh (Bt HB1.out (Bt hb2 hb3));clear hv hb2 hb3;go_wp2_with fail
 refine (fF _ r false _ HM2.out).mono ?_;rintro e w3 ⟨v,rfl,hb4,hv⟩;obtain ⟨p3,l3,c3,rfl,hm3⟩:=id hv;have HI:=zh (hv.cast (show iR r false=(r:Int) from rfl));have HB3:=zh (Bt HB2.out hb4);have g3:decide (iR r false<0)=false:=by unfold iR;simp
 rw [g3] at HI ⊢;clear hv hm3 hb4;go_wp2_with fail
 refine (NI.out _ _ HI.out (HP.out.later HB3.out)).mono ?_;rintro e w4 ⟨rfl,hb5⟩;have hw:=Bt HB3.out hb5;go_wp2_with fail
 go_ret2
 exact ⟨rfl,hw⟩
theorem BG (a n:Nat) (ha:ou a=true) (n40:n≤40) (w:World) (ht:ko.Pow w) :
  Calls Tryz.prog 99 #[fO (a:Int),Z I (n:Int)] w (fun e w'=>e= aj (K7 (a^n:Nat))∧Bw w w'):=by
 have hd:(Lib.decDigits a).length≤600:=fJ.1 ha;have hs:=ni ha;have hp:∀ i,i≤n→sz 1000000000 (a^i)≤10000:=fun i hi=>au (Oq hs i) (by have:=aT 67 (show i≤40 by omega);omega);have HR:=zh (fun W=>zI (a:Int) (by rw [Int.natAbs_natCast];exact hd) W);have HRT:=zh (fun x W hx=>LJ x a n W hx zo (fun i hi=>au (hp i hi) zo) zo);have NI:=zh (fun v W h hq=>kV v (a^n:Nat) W h (by rw [Int.natAbs_natCast];exact au (hp n (aC _)) zo) hq);have HP:=zh ht;have g0:decide ((a:Int)<0)=false:=by simp
 have g1:decide ((n:Int)<0)=false:=by simp
 have g2:decide ((40:Int)<(n:Int))=false:=by simp;omega
 clear hd hs hp ha ht;obtain ⟨r,Er⟩:∃ r,a^n=r:=⟨_,rfl⟩;rw [Er] at HRT NI ⊢;clear Er
 obtain ⟨tr,kr,Ew⟩:∃ tr kr,K7 (r:Int)= aD #[O tr,Z I kr]:=by
  unfold K7 fO;split
  ·exact ⟨_,_,rfl⟩
  ·exact ⟨_,_,rfl⟩
 rw [Ew] at NI ⊢;clear Ew;unfold fO at HR ⊢;generalize (⟨(Lib.itoa (a:Int)).toArray⟩:ByteArray)=ta at *;go_enter Tryz.func99,Tryz.ntmps99
 go_wp2_with fail
 refine (HR.out _).mono ?_;rintro e w1 ⟨v,rfl,hb1,hv⟩;obtain ⟨pa,l,ca,rfl,hm⟩:=hv;rw [Int.natAbs_natCast] at hm;rw [g0];have HM:=zh hm;have HB1:=zh hb1;clear hm hb1;go_wp2_with fail
 obtain ⟨wx,EW,hz,X⟩:=Gc w1 #[ah pa l ca,ak false] 234;rw [EW];clear EW;replace HM:=zh (HM.out.later hz);have HB2:=zh (Bt HB1.out hz);clear hz HB1;obtain ⟨bx,eb⟩:∃ y,w1.heap.size=y:=⟨_,rfl⟩;rw [eb] at X ⊢;have cX:=X.out.cell;have lX:=X.out.lt;refine aO [(.pure,0),(.read,1),(.pure,2),(.pure,4),(.read,5),(.ext,3),(.pure,6),(.pure,7),(.pure,8),(.pure,9),(.pure,10),(.ext,11),(.ext,12),(.pure,13),(.pure,14),(.fin,15),(.fin,16)] zk zk zR zP ?_;refine zW ?_;refine aL rfl rfl (fun we hbe J hJ=>?_);go_simp;have h1:Bw wx we:=aI;refine (HRT.out _ _ (HM.out.later h1)).mono ?_;rintro e w2 ⟨v,rfl,hb2,hv⟩;obtain ⟨p2,l2,c2,rfl⟩:=hv.slice;refine hJ _ _ hb2 ?_;clear hJ J;have HM2:=zh hv;have h2:=Bt h1 hb2;clear hv h1 hbe hb2
 repeat (first|(refine qD rfl rfl (fun J hJ=>?_);go_simp;refine hJ _ ?_;clear hJ J)|(refine xg rfl rfl rfl (fun J hJ=>?_);go_simp;refine hJ _ ?_;clear hJ J))
 refine aL rfl rfl (fun we hbe J hJ=>?_);go_simp;have h3:Bw w2 we:=aI;refine (fF _ r false _ (HM2.out.later h3)).mono ?_;rintro e w3 ⟨v,rfl,hb3,hv⟩;obtain ⟨p3,l3,c3,rfl,hm3⟩:=id hv;have HI:=zh (hv.cast (show iR r false=(r:Int) from rfl));have g3:decide (iR r false<0)=false:=by unfold iR;simp
 rw [g3] at HI ⊢;refine hJ _ _ hb3 ?_;clear hJ J;have h4:=Bt h2 (Bt h3 hb3);clear hv hm3 hb3 h3 h2 hbe
 repeat (first|(refine qD rfl rfl (fun J hJ=>?_);go_simp;refine hJ _ ?_;clear hJ J)|(refine xg rfl rfl rfl (fun J hJ=>?_);go_simp;refine hJ _ ?_;clear hJ J))
 refine aL rfl rfl (fun we hbe J hJ=>?_);go_simp;have h5:Bw w3 we:=aI;refine (NI.out _ _ (HI.out.later h5) (HP.out.later (Bt HB2.out (Bt h4 h5)))).mono ?_;rintro e w4 ⟨rfl,hb4⟩;refine hJ _ _ hb4 ?_;clear hJ J;have h6:=Bt h4 (Bt h5 hb4);clear hb4 h5 h4 hbe
 repeat (first|(refine qD rfl rfl (fun J hJ=>?_);go_simp;refine hJ _ ?_;clear hJ J)|(refine xg rfl rfl rfl (fun J hJ=>?_);go_simp;refine hJ _ ?_;clear hJ J))
 refine cZ [_,_] rfl (fun wf hbf=>?_);have hw:Bw w wf:=Bt HB2.out (Bt h6 aI);go_wp2_with fail
 go_ret2
 exact ⟨rfl,hw⟩
end Go.Proofs.whole
namespace Go.Mem
open Go Go.RowKit
section
variable {P:Program} {fn:Func} {R:Ending→World→Prop} {w:World} {tmps:Array Value}
theorem LA {p q u:Tmp} {ty AP:TypeId} (h:fn.results=#[.cell p ty,.cell q AP,.tmp u]) :
  (results fn tmps).run P w=((asAddr (tmps.getD p undef)).run P w).andThen fun a w₁=>((loadVar ty a).run P w₁).andThen fun v w₂=>((asAddr (tmps.getD q undef)).run P w₂).andThen fun a' w₃=>((loadVar AP a').run P w₃).andThen fun v' w₄=>.ok (aD #[v,v',tmps.getD u undef]) w₄:=by
 simp only [results,h];simp [Sem.run_bind,Result.andThen]
theorem YQ {p q u:Tmp} {ty AP t t2:TypeId} {g g2:Nat} {cs cs2:Array Value} {d d2:TypeDesc} (h:fn.results=#[.cell p ty,.cell q AP,.tmp u])
  (hp:tmps.getD p undef= ay (some ⟨g,0,none⟩)) (hg:aA w g cs t) (hu:P.underlying ty=some d) (hd:(match d with| .struct _| .array _ _=>true| _=>false)=true) (hi:(P.info? ty).map (·.size)=some cs.size)
  (hp2:tmps.getD q undef= ay (some ⟨g2,0,none⟩)) (hg2:aA w g2 cs2 t2) (hu2:P.underlying AP=some d2) (hd2:(match d2 with| .struct _| .array _ _=>true| _=>false)=true) (hi2:(P.info? AP).map (·.size)=some cs2.size)
  (k:R (aj (aD #[aB cs,aB cs2,tmps.getD u undef])) w):bodyPost P fn R .ret { tmps:=tmps,defers:=[] } w:=by
 have e:(results fn tmps).run P w= .ok (aD #[aB cs,aB cs2,tmps.getD u undef]) w:=by
  rw [LA h,hp];simp only [asAddr,Sem.run_pure,Result.andThen_ok];rw [run_loadVar_row w g t ty cs (0,0) d hg hu hd hi];simp only [Result.andThen_ok];rw [hp2];simp only [asAddr,Sem.run_pure,Result.andThen_ok];rw [run_loadVar_row w g2 t2 AP cs2 (0,0) d2 hg2 hu2 hd2 hi2];rfl
 refine bodyPost_ret e rfl k
end
end Go.Mem
namespace Go.Proofs.whole
open Go Go.RowKit Go.SW Go.Num Go.Mem Go.Proofs Go.Dec Go.fG
theorem QK (a b:Nat) (ha:(Lib.decDigits a).length≤600) (hb:(Lib.decDigits b).length≤600) (w:World) :
  Calls Tryz.prog 169 #[fO (a:Int),fO (b:Int)] w (fun e w'=>∃ p1 l1 c1 p2 l2 c2,e= aj (aD #[aB #[ah p1 l1 c1,ak false],aB #[ah p2 l2 c2,ak false],Z I 0])∧Bw w w'∧aZ w' (ah p1 l1 c1) a∧aZ w' (ah p2 l2 c2) b):=by
 have RA:Hid (∀ W,Calls Tryz.prog 163 #[fO (a:Int)] W (fun e w'=>∃ p l c,e= aj (aD #[aB #[ah p l c,ak false],ak true])∧Bw W w'∧aZ w' (ah p l c) a)):=zh fun W=>(zI (a:Int) (by rw [Int.natAbs_natCast];exact ha) W).mono fun e w' ⟨v,h1,h2,p,l,c,h3,h4⟩=>by
  rw [Int.natAbs_natCast] at h4;have g0:decide ((a:Int)<0)=false:=by simp
  rw [g0] at h3;exact ⟨p,l,c,by rw [h1,h3],h2,h4⟩
 have RB:Hid (∀ W,Calls Tryz.prog 163 #[fO (b:Int)] W (fun e w'=>∃ p l c,e= aj (aD #[aB #[ah p l c,ak false],ak true])∧Bw W w'∧aZ w' (ah p l c) b)):=zh fun W=>(zI (b:Int) (by rw [Int.natAbs_natCast];exact hb) W).mono fun e w' ⟨v,h1,h2,p,l,c,h3,h4⟩=>by
  rw [Int.natAbs_natCast] at h4;have g0:decide ((b:Int)<0)=false:=by simp
  rw [g0] at h3;exact ⟨p,l,c,by rw [h1,h3],h2,h4⟩
 clear ha hb;unfold fO at *;generalize (⟨(Lib.itoa (a:Int)).toArray⟩:ByteArray)=ta at *;generalize (⟨(Lib.itoa (b:Int)).toArray⟩:ByteArray)=tb at *;go_enter Tryz.func169,Tryz.ntmps169
 go_wp2_with fail
 obtain ⟨vk,EW,hz,X1,X2⟩:=Ud w #[ah none 0 0,ak false] 234 #[ah none 0 0,ak false] 234;rw [EW];have hk2:=Bt (Below.refl _ _) hz;clear EW hz;refine (RA.out _).mono ?_;rintro e um ⟨p1,l1,c1,rfl,hb3,hm⟩;replace X1:=X1.bl hb3;replace X2:=X2.bl hb3;have hk5:=Bt hk2 hb3;clear hk2;have NX:=zh hm;clear hb3 hm;obtain ⟨qx,qo,sS⟩:=X1.clf;go_wp2_with fail
 clear qx qo sS;have hz:Below w.heap.size w ((um.setCell ⟨w.heap.size,0,none⟩ (ah p1 l1 c1)).setCell ⟨w.heap.size,1,none⟩ (ak false)):=aI;obtain ⟨wq6,EW⟩:∃ y,((um.setCell ⟨w.heap.size,0,none⟩ (ah p1 l1 c1)).setCell ⟨w.heap.size,1,none⟩ (ak false))=y:=⟨_,rfl⟩;have tX1:=((X1.out.set 0 (ah p1 l1 c1)).set 1 (ak false));have tX2:=((X2.out.setOther (a:=⟨w.heap.size,0,none⟩) (ah p1 l1 c1) (by first|assumption|(simp;done)|(simp;omega))).setOther (a:=⟨w.heap.size,1,none⟩) (ak false) (by first|assumption|(simp;done)|(simp;omega)));have tNX:=((NX.out.setOther X1.out zd 0 (ah p1 l1 c1)).setOther (X1.out.set 0 (ah p1 l1 c1)) zd 1 (ak false));rw [EW] at tX1;replace X1:Hid (aA wq6 (w.heap.size) #[ah p1 l1 c1,ak false] 234):=zh tX1;clear tX1;rw [EW] at tX2;replace X2:Hid (aA wq6 (w.heap.size+1) #[ah none 0 0,ak false] 234):=zh tX2;clear tX2
 rw [EW] at tNX;replace NX:=zh tNX;clear tNX;rw [EW] at hz ⊢;clear EW;clear hk5;have hk6:=hz;clear hz;refine (RB.out _).mono ?_;rintro e Jl ⟨p2,l2,c2,rfl,jY,hm⟩;replace X1:=X1.bl jY;replace X2:=X2.bl jY;replace NX:=zh (NX.out.later jY);have hk9:=Bt hk6 jY;clear hk6;have NY:=zh hm;clear jY hm;obtain ⟨Cz,Cr,IZ⟩:=X2.clf;have HK:=zh hk9;obtain ⟨wl,Ewl⟩:∃ y,y=Jl:=⟨_,rfl⟩;subst Ewl;have c1':=X1.out.cell;have Yf:=X1.out.lt;have f1':=X1.out.free;have c2':=X2.out.cell;have l2':=X2.out.lt;have f2':=X2.out.free;go_wp2_with fail
 go_region
 go_wp2_with fail
 have hw:=HK.out;have hx1:=X1.out;have hx2:=X2.out;refine YQ rfl rfl bq Tryz.underlying234 rfl zk rfl bq Tryz.underlying234 rfl zk ?_;exact ⟨_,_,_,_,_,_,rfl,aI,aR,aR⟩
end Go.Proofs.whole
namespace Go.Proofs.whole
open Go Go.RowKit Go.SW Go.Num Go.Mem Go.Proofs Go.Dec
theorem _root_.Go.aA4 {G:Prop} (h:G:=by
 obtain ⟨IE,lH,I7,rfl,H⟩:=h;replace H:=zh H;obtain ⟨bg7,lH2,bm2,rfl,H2⟩:=h2;replace H2:=zh H2;have KZ:=zh kz;have KY:=zh ky;clear kz ky;go_enter aB6,aB5
 go_wp2_with fail
 refine aO [(.pure,0),(.read,1),(.pure,2),(.read,3),(.pure,5),(.read,6),(.pure,7),(.read,8),(.pure,9),(.ext,4),(.ext,10),(.fin,11)] zk zk zR zP ?_;refine zV ?_;refine aL rfl rfl (fun w1 hb1 J hJ=>?_);go_simp;have BR:=aA.later (aA.drew (aA.at2 _ _ _ _ _)) hb1;have dL:=BR.cell;have dK:=BR.free;refine (jB _ _ z.natAbs y.natAbs _ aR aR (Nat.le_trans KZ.out zo) (Nat.le_trans KY.out zo)).mono ?_;rintro e v1 ⟨v,rfl,hc1,hv⟩;obtain ⟨ap1,lHS,ay1,rfl⟩:=hv.slice;have HS:=zh hv;clear hv;replace BR:=aA.later (BR) hc1;replace dL:=BR.cell;replace dK:=BR.free;refine hJ _ _ hc1 ?_;clear hJ J;refine aL rfl rfl (fun w2 hb2 J hJ=>?_);go_simp;replace BR:=aA.later (BR) hb2;replace dL:=BR.cell;replace dK:=BR.free;refine (fF _ (z.natAbs*y.natAbs) _ _ aR).mono ?_;rintro e v2 ⟨v,rfl,hc2,hv⟩;obtain ⟨ap0,lHT,ay0,rfl,HT⟩:=hv;replace HT:=zh HT
 replace BR:=aA.later (BR) hc2;replace dL:=BR.cell;replace dK:=BR.free;refine hJ _ _ hc2 ?_;clear hJ J;refine cZ [_] rfl (fun w5 hb5=>?_);replace BR:=aA.later (BR) hb5;replace dL:=BR.cell;replace dK:=BR.free;go_wp2_with fail
 refine gG rfl rfl bq Jh rfl zk ?_;exact ⟨_,rfl,aI,(dS.dV aR).cast (zC z y)⟩):G:=h
theorem qK (v u:Value) (z y:Int) (w:World) (h:dS w v z) (h2:dS w u y) (kz:sz 1000000000 z.natAbs≤549755813888) (ky:sz 1000000000 y.natAbs≤549755813888) :
  Calls Tryz.prog 238 #[v,u] w (fun e w'=>∃ v,e= aj v∧Bw w w'∧dS w' v (z*y)):=aA4
end Go.Proofs.whole
