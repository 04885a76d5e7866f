/- Lemmas for the proof. No condition. -/
import Derived.Test.YtneajphgfdlmhaaGreatDoorXB01
import Derived.Test.YtneajphgfdlmhaaGreatDoorXB03
import Derived.Test.YtneajphgfdlmhaaGreatDoorXB04
import Derived.Test.YtneajphgfdlmhaaGreatDoorXB05
import Derived.Test.YtneajphgfdlmhaaGreatDoorXB06
import Derived.RegionTactic
import Derived.ChangeAlike
set_option linter.unusedVariables false
set_option linter.unusedSimpArgs false
set_option maxRecDepth 100000
set_option maxHeartbeats 16000000
namespace Go.Proofs.dA
open Go Go.RowKit Go.SW Go.Num Go.Mem Go.Proofs Go.Dec Go.fF Go.Fx
theorem Xj {s t s' t':ByteArray} {p q r:Rat} (h:rd ⟨s,t⟩=some p) (k:rd ⟨s',t'⟩=some q) (HF:∀ x y W,dZ W x p→dZ W y q→Calls Tryz.prog 239 #[x,y] W (fun e w'=>∃ v,e= .returned v∧Below W.heap.size W w'∧dZ w' v r)) (w:World) :
  Calls Tryz.prog 63 #[.agg #[.string s,.string t],.agg #[.string s',.string t'],.func (.func 239) #[] #[]] w (fun e w'=>∃ v,e= .returned (.tuple #[v,.int .i64 0])∧Below w.heap.size w w'∧dZ w' v r):=by
 have R1:=fun W=>(fD h W).mono fun _ _ q=>uD q;have R2:=fun W=>(fD k W).mono fun _ _ q=>uD q;have F:=fun x y W h k=>(HF x y W h k).mono fun _ _ q=>ar1 q;refine Fx.door Tryz.func63 rfl (.nil w []) ?_;have B0:=Fx.Gw.nil w;refine Fx.new [] 3 #[.string s,.string t] 32 [] [] fun dW=>?_;refine Fx.new [] 4 #[.string (s'),.string (t')] 32 [] [] fun dM=>?_;refine Fx.aL [] 6 108 [] [] fun dP=>?_;refine Fx.gM [3] 15 [] [] (fun W M=>R1 _) ?_;rintro W w4 e M ⟨p1,l1,c1,b1,q1,m1,d1,rfl,D4,Q1⟩;refine ⟨D4,fun M4=>?_⟩;have B4:=B0.next M4
 refine Fx.aL [] 8 108 [(16,.agg #[.slice p1 l1 c1,.bool b1,.slice q1 m1 d1]),(17,.bool true)] [] fun Yc=>?_;refine Fx.gM [6,4] 20 [(9,.bool true)] [(3,#[.slice p1 l1 c1,.bool b1,.slice q1 m1 d1])] (fun W M=>R2 _) ?_;rintro W w6 e M ⟨p2,l2,c2,b2,q2,m2,d2,rfl,D6,Q2⟩;refine ⟨D6,fun M6=>?_⟩;replace Q1:=Q1.keep (M4.keep M6);have B6:=B4.next M6
 refine Fx.aL [] 10 108 [(21,.agg #[.slice p2 l2 c2,.bool b2,.slice q2 m2 d2]),(22,.bool true)] [] fun bz7=>?_;refine Fx.gM [7,2,6,7] 33 [] [(4,#[.slice p2 l2 c2,.bool b2,.slice q2 m2 d2])] (fun W M=>F _ _ _ (Q1.keep (M6.keep M)) (Q2.keep (M6.keep M))) ?_;rintro W w8 e M ⟨p3,l3,c3,b3,q3,m3,d3,rfl,D8,Q3⟩;refine ⟨D8,fun M8=>?_⟩;have B8:=B6.next M8
 exact Fx.dw (cs:=#[.slice p3 l3 c3,.bool b3,.slice q3 m3 d3]) (y:=.int .i64 0) 2 dP [5] [(2,#[.slice p3 l3 c3,.bool b3,.slice q3 m3 d3])] (fun W M=>by have HB:=(B8.at M);exact ⟨_,rfl,HB,(Q3.keep (M8.keep M))⟩)
theorem Il {s t s' t':ByteArray} (h:rd ⟨s,t⟩=none∨rd ⟨s',t'⟩=none) (w:World) :
  Calls Tryz.prog 63 #[.agg #[.string s,.string t],.agg #[.string s',.string t'],.func (.func 239) #[] #[]] w (fun e w'=>e= .returned (.tuple #[.agg #[.slice none 0 0,.bool false,.slice none 0 0],.int .i64 20])∧Below w.heap.size w w'):=by
 cases h1:rd ⟨s,t⟩ with
 | none =>
  have R1:=fun W=>gu h1 W;cases k:rd ⟨s',t'⟩ with
  | none =>
   have R2:=fun W=>gu k W;refine Fx.door Tryz.func63 rfl (.nil w []) ?_;refine Fx.new [] 3 #[.string s,.string t] 32 [] [] fun dW=>?_;refine Fx.new [] 4 #[.string (s'),.string (t')] 32 [] [] fun dM=>?_;refine Fx.aL [] 6 108 [] [] fun dP=>?_;refine Fx.aO [3] 15 [] [] R1 ?_;refine Fx.aL [] 8 108 [(16,.agg #[.slice none 0 0,.bool false,.slice none 0 0]),(17,.bool false)] [] fun xM=>?_;refine Fx.aO [6,4] 20 [(9,.bool false)] [(3,#[.slice none 0 0,.bool false,.slice none 0 0])] R2 ?_;refine Fx.aL [] 10 108 [(21,.agg #[.slice none 0 0,.bool false,.slice none 0 0]),(22,.bool false)] [] fun Yc=>?_;refine Fx.aL [7,1] 12 108 [] [(4,#[.slice none 0 0,.bool false,.slice none 0 0])] fun bz6=>?_;exact Fx.dw 2 dP [8,5] [(2,#[.slice none 0 0,.bool false,.slice none 0 0])] (fun W M=>⟨rfl,M.below⟩)
  | some q =>
   have R2:=fun W=>(fD k W).mono fun _ _ q=>uD q;refine Fx.door Tryz.func63 rfl (.nil w []) ?_;have B0:=Fx.Gw.nil w;refine Fx.new [] 3 #[.string s,.string t] 32 [] [] fun dW=>?_;refine Fx.new [] 4 #[.string (s'),.string (t')] 32 [] [] fun dM=>?_;refine Fx.aL [] 6 108 [] [] fun dP=>?_;refine Fx.aO [3] 15 [] [] R1 ?_;refine Fx.aL [] 8 108 [(16,.agg #[.slice none 0 0,.bool false,.slice none 0 0]),(17,.bool false)] [] fun xM=>?_;refine Fx.gM [6,4] 20 [(9,.bool false)] [(3,#[.slice none 0 0,.bool false,.slice none 0 0])] (fun W M=>R2 _) ?_;rintro W w5 e M ⟨p2,l2,c2,b2,q2,m2,d2,rfl,D5, -⟩;refine ⟨D5,fun M5=>?_⟩;have B5:=B0.next M5
   refine Fx.aL [] 10 108 [(21,.agg #[.slice p2 l2 c2,.bool b2,.slice q2 m2 d2]),(22,.bool true)] [] fun bz6=>?_;refine Fx.aL [7,1] 12 108 [] [(4,#[.slice p2 l2 c2,.bool b2,.slice q2 m2 d2])] fun bz7=>?_;exact Fx.dw 2 dP [8,5] [(2,#[.slice none 0 0,.bool false,.slice none 0 0])] (fun W M=>⟨rfl,(B5.at M)⟩)
 | some p =>
  have R1:=fun W=>(fD h1 W).mono fun _ _ q=>uD q;have k:rd ⟨s',t'⟩=none:=h.resolve_left (by rw [h1];simp);have R2:=fun W=>gu k W;refine Fx.door Tryz.func63 rfl (.nil w []) ?_;have B0:=Fx.Gw.nil w;refine Fx.new [] 3 #[.string s,.string t] 32 [] [] fun dW=>?_;refine Fx.new [] 4 #[.string (s'),.string (t')] 32 [] [] fun dM=>?_;refine Fx.aL [] 6 108 [] [] fun dP=>?_;refine Fx.gM [3] 15 [] [] (fun W M=>R1 _) ?_;rintro W w4 e M ⟨p1,l1,c1,b1,q1,m1,d1,rfl,D4, -⟩;refine ⟨D4,fun M4=>?_⟩;have B4:=B0.next M4
  refine Fx.aL [] 8 108 [(16,.agg #[.slice p1 l1 c1,.bool b1,.slice q1 m1 d1]),(17,.bool true)] [] fun Yc=>?_;refine Fx.aO [6,4] 20 [(9,.bool true)] [(3,#[.slice p1 l1 c1,.bool b1,.slice q1 m1 d1])] R2 ?_;refine Fx.aL [] 10 108 [(21,.agg #[.slice none 0 0,.bool false,.slice none 0 0]),(22,.bool false)] [] fun bz6=>?_;refine Fx.aL [7,1] 12 108 [] [(4,#[.slice none 0 0,.bool false,.slice none 0 0])] fun bz7=>?_;exact Fx.dw 2 dP [8,5] [(2,#[.slice none 0 0,.bool false,.slice none 0 0])] (fun W M=>⟨rfl,(B4.at M)⟩)
theorem qM (a b:Fr) (w:World) (ht:iR.Pow w):Calls Tryz.prog 168 #[a.v,b.v] w (fun e w'=>e= .returned (Fr.res (sK a b))∧Below w.heap.size w w'):=by
 obtain ⟨s,t⟩:=a;obtain ⟨s',t'⟩:=b
 show Calls _ _ #[.agg #[.string s,.string t],.agg #[.string s',.string t']] _ _
 unfold sK
 by_cases hbad:rd ⟨s,t⟩=none∨rd ⟨s',t'⟩=none
 ·have e:∀ f,bin f ⟨s,t⟩ ⟨s',t'⟩=(Fr.no,20):=fun f=>by
   rcases hbad with h|h
   ·exact qg h
   ·exact nZ h
  rw [e];have HA:=fun W=>Il hbad W;refine Fx.door Tryz.func168 rfl (.nil w []) ?_;refine Fx.new [] 2 #[.string s,.string t] 32 [] [] fun dW=>?_;refine Fx.new [] 3 #[.string (s'),.string (t')] 32 [] [] fun dM=>?_;refine Fx.aL [] 4 32 [] [] fun dP=>?_;refine Fx.aO [3,4] 8 [] [] HA ?_;refine Fx.call [] 11 [] [] (fun W M=>xA _) ?_;exact Fx.dw 2 dP [5] [(2,#[.string (⟨#[]⟩),.string (⟨#[]⟩)])] (fun W M=>⟨rfl,M.below⟩)
 ·obtain ⟨p,hp⟩:∃ p,rd ⟨s,t⟩=some p:=Option.ne_none_iff_exists'.1 (fun e=>hbad (.inl e));obtain ⟨q,hq⟩:∃ q,rd ⟨s',t'⟩=some q:=Option.ne_none_iff_exists'.1 (fun e=>hbad (.inr e));rw [kZ hp hq];have KP:=jr (mX hp).2;have KQ:=jr (mX hq).2;have HA:=fun W=>Xj (r:=p+q) hp hq (fun x y W h k=>ad3 x y p q W h k (KP.mono zo) (KQ.mono zo)) W;have HR:=fun v W h ht=>zY v (p+q) W h (gZ.mono (k:=135) (vJ KP KQ) zo) ht;generalize wr (p+q)=x at *;obtain ⟨⟨s1,t1⟩,e⟩:=x;refine Fx.door Tryz.func168 rfl (.nil w []) ?_;have B0:=Fx.Gw.nil w;refine Fx.new [] 2 #[.string s,.string t] 32 [] [] fun dW=>?_;refine Fx.new [] 3 #[.string (s'),.string (t')] 32 [] [] fun dM=>?_;refine Fx.aL [] 4 32 [] [] fun dP=>?_;refine Fx.gM [3,4] 8 [] [] (fun W M=>HA _) ?_;rintro W w4 e M ⟨v1,rfl,D4,Q1⟩;refine ⟨D4,fun M4=>?_⟩;have B4:=B0.next M4
  refine Fx.call [] 11 [] [] (fun W M=>HR _ _ (Q1.keep (M4.keep M)) (ht.later (B4.at M))) ?_;exact Fx.dw 2 dP [5] [(2,#[.string s1,.string t1])] (fun W M=>⟨rfl,(B4.at M)⟩)
theorem Xh {s t s' t':ByteArray} {p q r:Rat} (h:rd ⟨s,t⟩=some p) (k:rd ⟨s',t'⟩=some q) (HF:∀ x y W,dZ W x p→dZ W y q→Calls Tryz.prog 240 #[x,y] W (fun e w'=>∃ v,e= .returned v∧Below W.heap.size W w'∧dZ w' v r)) (w:World) :
  Calls Tryz.prog 63 #[.agg #[.string s,.string t],.agg #[.string s',.string t'],.func (.func 240) #[] #[]] w (fun e w'=>∃ v,e= .returned (.tuple #[v,.int .i64 0])∧Below w.heap.size w w'∧dZ w' v r):=by
 have R1:=fun W=>(fD h W).mono fun _ _ q=>uD q;have R2:=fun W=>(fD k W).mono fun _ _ q=>uD q;have F:=fun x y W h k=>(HF x y W h k).mono fun _ _ q=>ar1 q;refine Fx.door Tryz.func63 rfl (.nil w []) ?_;have B0:=Fx.Gw.nil w;refine Fx.new [] 3 #[.string s,.string t] 32 [] [] fun dW=>?_;refine Fx.new [] 4 #[.string (s'),.string (t')] 32 [] [] fun dM=>?_;refine Fx.aL [] 6 108 [] [] fun dP=>?_;refine Fx.gM [3] 15 [] [] (fun W M=>R1 _) ?_;rintro W w4 e M ⟨p1,l1,c1,b1,q1,m1,d1,rfl,D4,Q1⟩;refine ⟨D4,fun M4=>?_⟩;have B4:=B0.next M4
 refine Fx.aL [] 8 108 [(16,.agg #[.slice p1 l1 c1,.bool b1,.slice q1 m1 d1]),(17,.bool true)] [] fun Yc=>?_;refine Fx.gM [6,4] 20 [(9,.bool true)] [(3,#[.slice p1 l1 c1,.bool b1,.slice q1 m1 d1])] (fun W M=>R2 _) ?_;rintro W w6 e M ⟨p2,l2,c2,b2,q2,m2,d2,rfl,D6,Q2⟩;refine ⟨D6,fun M6=>?_⟩;replace Q1:=Q1.keep (M4.keep M6);have B6:=B4.next M6
 refine Fx.aL [] 10 108 [(21,.agg #[.slice p2 l2 c2,.bool b2,.slice q2 m2 d2]),(22,.bool true)] [] fun bz7=>?_;refine Fx.gM [7,2,6,7] 33 [] [(4,#[.slice p2 l2 c2,.bool b2,.slice q2 m2 d2])] (fun W M=>F _ _ _ (Q1.keep (M6.keep M)) (Q2.keep (M6.keep M))) ?_;rintro W w8 e M ⟨p3,l3,c3,b3,q3,m3,d3,rfl,D8,Q3⟩;refine ⟨D8,fun M8=>?_⟩;have B8:=B6.next M8
 exact Fx.dw (cs:=#[.slice p3 l3 c3,.bool b3,.slice q3 m3 d3]) (y:=.int .i64 0) 2 dP [5] [(2,#[.slice p3 l3 c3,.bool b3,.slice q3 m3 d3])] (fun W M=>by have HB:=(B8.at M);exact ⟨_,rfl,HB,(Q3.keep (M8.keep M))⟩)
theorem Ik {s t s' t':ByteArray} (h:rd ⟨s,t⟩=none∨rd ⟨s',t'⟩=none) (w:World) :
  Calls Tryz.prog 63 #[.agg #[.string s,.string t],.agg #[.string s',.string t'],.func (.func 240) #[] #[]] w (fun e w'=>e= .returned (.tuple #[.agg #[.slice none 0 0,.bool false,.slice none 0 0],.int .i64 20])∧Below w.heap.size w w'):=by
 cases h1:rd ⟨s,t⟩ with
 | none =>
  have R1:=fun W=>gu h1 W;cases k:rd ⟨s',t'⟩ with
  | none =>
   have R2:=fun W=>gu k W;refine Fx.door Tryz.func63 rfl (.nil w []) ?_;refine Fx.new [] 3 #[.string s,.string t] 32 [] [] fun dW=>?_;refine Fx.new [] 4 #[.string (s'),.string (t')] 32 [] [] fun dM=>?_;refine Fx.aL [] 6 108 [] [] fun dP=>?_;refine Fx.aO [3] 15 [] [] R1 ?_;refine Fx.aL [] 8 108 [(16,.agg #[.slice none 0 0,.bool false,.slice none 0 0]),(17,.bool false)] [] fun xM=>?_;refine Fx.aO [6,4] 20 [(9,.bool false)] [(3,#[.slice none 0 0,.bool false,.slice none 0 0])] R2 ?_;refine Fx.aL [] 10 108 [(21,.agg #[.slice none 0 0,.bool false,.slice none 0 0]),(22,.bool false)] [] fun Yc=>?_;refine Fx.aL [7,1] 12 108 [] [(4,#[.slice none 0 0,.bool false,.slice none 0 0])] fun bz6=>?_;exact Fx.dw 2 dP [8,5] [(2,#[.slice none 0 0,.bool false,.slice none 0 0])] (fun W M=>⟨rfl,M.below⟩)
  | some q =>
   have R2:=fun W=>(fD k W).mono fun _ _ q=>uD q;refine Fx.door Tryz.func63 rfl (.nil w []) ?_;have B0:=Fx.Gw.nil w;refine Fx.new [] 3 #[.string s,.string t] 32 [] [] fun dW=>?_;refine Fx.new [] 4 #[.string (s'),.string (t')] 32 [] [] fun dM=>?_;refine Fx.aL [] 6 108 [] [] fun dP=>?_;refine Fx.aO [3] 15 [] [] R1 ?_;refine Fx.aL [] 8 108 [(16,.agg #[.slice none 0 0,.bool false,.slice none 0 0]),(17,.bool false)] [] fun xM=>?_;refine Fx.gM [6,4] 20 [(9,.bool false)] [(3,#[.slice none 0 0,.bool false,.slice none 0 0])] (fun W M=>R2 _) ?_;rintro W w5 e M ⟨p2,l2,c2,b2,q2,m2,d2,rfl,D5, -⟩;refine ⟨D5,fun M5=>?_⟩;have B5:=B0.next M5
   refine Fx.aL [] 10 108 [(21,.agg #[.slice p2 l2 c2,.bool b2,.slice q2 m2 d2]),(22,.bool true)] [] fun bz6=>?_;refine Fx.aL [7,1] 12 108 [] [(4,#[.slice p2 l2 c2,.bool b2,.slice q2 m2 d2])] fun bz7=>?_;exact Fx.dw 2 dP [8,5] [(2,#[.slice none 0 0,.bool false,.slice none 0 0])] (fun W M=>⟨rfl,(B5.at M)⟩)
 | some p =>
  have R1:=fun W=>(fD h1 W).mono fun _ _ q=>uD q;have k:rd ⟨s',t'⟩=none:=h.resolve_left (by rw [h1];simp);have R2:=fun W=>gu k W;refine Fx.door Tryz.func63 rfl (.nil w []) ?_;have B0:=Fx.Gw.nil w;refine Fx.new [] 3 #[.string s,.string t] 32 [] [] fun dW=>?_;refine Fx.new [] 4 #[.string (s'),.string (t')] 32 [] [] fun dM=>?_;refine Fx.aL [] 6 108 [] [] fun dP=>?_;refine Fx.gM [3] 15 [] [] (fun W M=>R1 _) ?_;rintro W w4 e M ⟨p1,l1,c1,b1,q1,m1,d1,rfl,D4, -⟩;refine ⟨D4,fun M4=>?_⟩;have B4:=B0.next M4
  refine Fx.aL [] 8 108 [(16,.agg #[.slice p1 l1 c1,.bool b1,.slice q1 m1 d1]),(17,.bool true)] [] fun Yc=>?_;refine Fx.aO [6,4] 20 [(9,.bool true)] [(3,#[.slice p1 l1 c1,.bool b1,.slice q1 m1 d1])] R2 ?_;refine Fx.aL [] 10 108 [(21,.agg #[.slice none 0 0,.bool false,.slice none 0 0]),(22,.bool false)] [] fun bz6=>?_;refine Fx.aL [7,1] 12 108 [] [(4,#[.slice none 0 0,.bool false,.slice none 0 0])] fun bz7=>?_;exact Fx.dw 2 dP [8,5] [(2,#[.slice none 0 0,.bool false,.slice none 0 0])] (fun W M=>⟨rfl,(B4.at M)⟩)
theorem sN (a b:Fr) (w:World) (ht:iR.Pow w):Calls Tryz.prog 171 #[a.v,b.v] w (fun e w'=>e= .returned (Fr.res (zO a b))∧Below w.heap.size w w'):=by
 obtain ⟨s,t⟩:=a;obtain ⟨s',t'⟩:=b
 show Calls _ _ #[.agg #[.string s,.string t],.agg #[.string s',.string t']] _ _
 unfold zO
 by_cases hbad:rd ⟨s,t⟩=none∨rd ⟨s',t'⟩=none
 ·have e:∀ f,bin f ⟨s,t⟩ ⟨s',t'⟩=(Fr.no,20):=fun f=>by
   rcases hbad with h|h
   ·exact qg h
   ·exact nZ h
  rw [e];have HA:=fun W=>Ik hbad W;refine Fx.door Tryz.func171 rfl (.nil w []) ?_;refine Fx.new [] 2 #[.string s,.string t] 32 [] [] fun dW=>?_;refine Fx.new [] 3 #[.string (s'),.string (t')] 32 [] [] fun dM=>?_;refine Fx.aL [] 4 32 [] [] fun dP=>?_;refine Fx.aO [3,4] 8 [] [] HA ?_;refine Fx.call [] 11 [] [] (fun W M=>xA _) ?_;exact Fx.dw 2 dP [5] [(2,#[.string (⟨#[]⟩),.string (⟨#[]⟩)])] (fun W M=>⟨rfl,M.below⟩)
 ·obtain ⟨p,hp⟩:∃ p,rd ⟨s,t⟩=some p:=Option.ne_none_iff_exists'.1 (fun e=>hbad (.inl e));obtain ⟨q,hq⟩:∃ q,rd ⟨s',t'⟩=some q:=Option.ne_none_iff_exists'.1 (fun e=>hbad (.inr e));rw [kZ hp hq];have KP:=jr (mX hp).2;have KQ:=jr (mX hq).2;have HA:=fun W=>Xh (r:=p - q) hp hq (fun x y W h k=>au8 x y p q W h k (KP.mono zo) (KQ.mono zo)) W;have HR:=fun v W h ht=>zY v (p - q) W h (gZ.mono (k:=135) (ag9 KP KQ) zo) ht;generalize wr (p - q)=x at *;obtain ⟨⟨s1,t1⟩,e⟩:=x;refine Fx.door Tryz.func171 rfl (.nil w []) ?_;have B0:=Fx.Gw.nil w;refine Fx.new [] 2 #[.string s,.string t] 32 [] [] fun dW=>?_;refine Fx.new [] 3 #[.string (s'),.string (t')] 32 [] [] fun dM=>?_;refine Fx.aL [] 4 32 [] [] fun dP=>?_;refine Fx.gM [3,4] 8 [] [] (fun W M=>HA _) ?_;rintro W w4 e M ⟨v1,rfl,D4,Q1⟩;refine ⟨D4,fun M4=>?_⟩;have B4:=B0.next M4
  refine Fx.call [] 11 [] [] (fun W M=>HR _ _ (Q1.keep (M4.keep M)) (ht.later (B4.at M))) ?_;exact Fx.dw 2 dP [5] [(2,#[.string s1,.string t1])] (fun W M=>⟨rfl,(B4.at M)⟩)
end Go.Proofs.dA
namespace Go.Proofs.dA
open Go Go.RowKit Go.SW Go.Num Go.Mem Go.Proofs Go.Dec Go.fF
theorem an1 (s t s' t':ByteArray) (w:World) (h:rd ⟨s,t⟩=none∨rd ⟨s',t'⟩=none) :
  Calls Tryz.prog 128 #[.agg #[.string s,.string t],.agg #[.string s',.string t']] w (fun e w'=>e= .returned (.tuple #[.agg #[.string ⟨#[]⟩,.string ⟨#[]⟩],.int .i64 20])∧Below w.heap.size w w'):=by
 cases h1:rd ⟨s,t⟩ with
 | none =>
  have HR:=zh (gu h1);cases k:rd ⟨s',t'⟩ with
  | none =>
   have HS:=zh (gu k);clear h k h1;go_enter Tryz.func128,Tryz.ntmps128
   go_wp2_with fail
   refine (HR.out _).mono ?_;rintro e v1 ⟨rfl,hc1⟩;have BR:=ah.later (ah.at2 _ _ _ _ _) hc1;have bK:=BR.cell;have bJ:=BR.free;have iL:=BR.lt;have B1:=ah.later (ah.alloc (ah.pF _ _ _ _) _) hc1;have cB1:=B1.cell;have vU:=B1.free;have lB1:=B1.lt;go_wp2_with fail
   refine (HS.out _).mono ?_;rintro e v2 ⟨rfl,hc2⟩;replace BR:ah _ (w.heap.size+1+1) _ _:=ah.later aJ hc2;(try simp only [List.setIfInBounds_toArray,List.set_cons_zero,List.set_cons_succ] at BR);replace bK:=BR.cell;replace bJ:=BR.free;replace iL:=BR.lt;go_wp2_with fail
   refine aM rfl rfl aJ Tryz.underlying32 rfl zk ?_;exact ⟨rfl,aD⟩
  | some q =>
   have HS:=zh (fD k);clear h k h1;go_enter Tryz.func128,Tryz.ntmps128
   go_wp2_with fail
   refine (HR.out _).mono ?_;rintro e v1 ⟨rfl,hc1⟩;have BR:=ah.later (ah.at2 _ _ _ _ _) hc1;have bK:=BR.cell;have bJ:=BR.free;have iL:=BR.lt;have B1:=ah.later (ah.alloc (ah.pF _ _ _ _) _) hc1;have cB1:=B1.cell;have vU:=B1.free;have lB1:=B1.lt;go_wp2_with fail
   refine (HS.out _).mono ?_;rintro e v2 ⟨v,rfl,hc2,hv⟩;obtain ⟨Bw,XZ,BM,He,mHq,Ig,rfl,Hq,tV⟩:=hv;replace Hq:=zh Hq;replace tV:=zh tV;replace BR:ah _ (w.heap.size+1+1) _ _:=ah.later aJ hc2;(try simp only [List.setIfInBounds_toArray,List.set_cons_zero,List.set_cons_succ] at BR);replace bK:=BR.cell;replace bJ:=BR.free;replace iL:=BR.lt;go_wp2_with fail
   refine aM rfl rfl aJ Tryz.underlying32 rfl zk ?_;exact ⟨rfl,aD⟩
 | some p =>
  have HR:=zh (fD h1);cases k:rd ⟨s',t'⟩ with
  | none =>
   have HS:=zh (gu k);clear h k h1;go_enter Tryz.func128,Tryz.ntmps128
   go_wp2_with fail
   refine (HR.out _).mono ?_;rintro e v1 ⟨v,rfl,hc1,hv⟩;obtain ⟨Qf,lHp,Rn,VN,mHp,Xa,rfl,Hp,wP⟩:=hv;replace Hp:=zh Hp;replace wP:=zh wP;have BR:=ah.later (ah.at2 _ _ _ _ _) hc1;have bK:=BR.cell;have bJ:=BR.free;have iL:=BR.lt;have B1:=ah.later (ah.alloc (ah.pF _ _ _ _) _) hc1;have cB1:=B1.cell;have vU:=B1.free;have lB1:=B1.lt;go_wp2_with fail
   refine (HS.out _).mono ?_;rintro e v2 ⟨rfl,hc2⟩;replace BR:ah _ (w.heap.size+1+1) _ _:=ah.later aJ hc2;(try simp only [List.setIfInBounds_toArray,List.set_cons_zero,List.set_cons_succ] at BR);replace bK:=BR.cell;replace bJ:=BR.free;replace iL:=BR.lt;go_wp2_with fail
   refine aM rfl rfl aJ Tryz.underlying32 rfl zk ?_;exact ⟨rfl,aD⟩
  | some q=>rw [h1,k] at h;simp at h
theorem div_zero (s t s' t':ByteArray) (w:World) (p:Rat) (h:rd ⟨s,t⟩=some p) (k:rd ⟨s',t'⟩=some 0) :
  Calls Tryz.prog 128 #[.agg #[.string s,.string t],.agg #[.string s',.string t']] w (fun e w'=>e= .returned (.tuple #[.agg #[.string ⟨#[]⟩,.string ⟨#[]⟩],.int .i64 7])∧Below w.heap.size w w'):=by
 have HR:=zh (fD h);have HS:=zh (fD k);clear h k;obtain ⟨n,En⟩:∃ y:Nat,Hid ((0:Rat).num.natAbs=y):=⟨_,zh rfl⟩;have hz:decide (n=0)=true:=by rw [← En.out];rfl
 have HZ:=zh hz;clear hz;go_enter Tryz.func128,Tryz.ntmps128
 go_wp2_with fail
 refine (HR.out _).mono ?_;rintro e v1 ⟨v,rfl,hc1,hv⟩;obtain ⟨Qf,lHp,Rn,VN,mHp,Xa,rfl,Hp,wP⟩:=hv;replace Hp:=zh Hp;replace wP:=zh wP;have BR:=ah.later (ah.at2 _ _ _ _ _) hc1;have bK:=BR.cell;have bJ:=BR.free;have iL:=BR.lt;have B1:=ah.later (ah.alloc (ah.pF _ _ _ _) _) hc1;have cB1:=B1.cell;have vU:=B1.free;have lB1:=B1.lt;go_wp2_with fail
 refine (HS.out _).mono ?_;rintro e v2 ⟨v,rfl,hc2,hv⟩;obtain ⟨Bw,XZ,BM,He,mHq,Ig,rfl,Hq,tV⟩:=hv;replace Hq:=zh Hq;replace tV:=zh tV;replace BR:ah _ (w.heap.size+1+1) _ _:=ah.later aJ hc2;(try simp only [List.setIfInBounds_toArray,List.set_cons_zero,List.set_cons_succ] at BR);replace bK:=BR.cell;replace bJ:=BR.free;replace iL:=BR.lt;go_wp2_with fail
 rw [En.out] at Hq;refine (gF _ n _ aI).mono ?_;rintro e v5 ⟨rfl,rfl⟩;rw [HZ.out];go_wp2_with fail
 refine aM rfl rfl aJ Tryz.underlying32 rfl zk ?_;exact ⟨rfl,aD⟩
theorem ab8 (s t s' t':ByteArray) (w:World) (p q:Rat) (h:rd ⟨s,t⟩=some p) (k:rd ⟨s',t'⟩=some q) (h0:q≠0) (ht:iR.Pow w) :
  Calls Tryz.prog 128 #[.agg #[.string s,.string t],.agg #[.string s',.string t']] w (fun e w'=>e= .returned (Fr.res (wr (p / q)))∧Below w.heap.size w w'):=by
 have HR:=zh (fD h);have HS:=zh (fD k);have kp:=jr (mX h).2;have kq:=jr (mX k).2;have ki:=JC kq h0
 have hz:decide (q.num.natAbs=0)=false:=by
  simp [h0]
 have HZ:=zh hz;have HQ0:=zh h0;have HT:=zh ht;rw [Rat.div_def];have km:=jT kp ki;obtain ⟨i,Ei⟩:∃ y:Rat,Hid (q⁻¹=y):=⟨_,zh rfl⟩;rw [Ei.out] at km ki ⊢;obtain ⟨r,Er⟩:∃ y:Rat,Hid (p*i=y):=⟨_,zh rfl⟩;rw [Er.out] at km ⊢;have KP:=zh (kp.mono (show 67≤1000000 by omega));have KI:=zh (ki.mono (show 67≤1000000 by omega));have KR:=zh (km.mono (show 2*67≤1000000 by omega));obtain ⟨x,Ex⟩:∃ y:FrI,Hid (wr r=y):=⟨_,zh rfl⟩;rw [Ex.out];obtain ⟨⟨s1,t1⟩,e⟩:=x;rw [qx];clear h k kp kq ki hz h0 ht km;go_enter Tryz.func128,Tryz.ntmps128
 go_wp2_with fail
 refine (HR.out _).mono ?_;rintro e v1 ⟨v,rfl,hc1,hv⟩;obtain ⟨Qf,lHp,Rn,VN,mHp,Xa,rfl,Hp,wP⟩:=hv;replace Hp:=zh Hp;replace wP:=zh wP;have BR:=ah.later (ah.at2 _ _ _ _ _) hc1;have bK:=BR.cell;have bJ:=BR.free;have iL:=BR.lt;have B1:=ah.later (ah.alloc (ah.pF _ _ _ _) _) hc1;have cB1:=B1.cell;have vU:=B1.free;have lB1:=B1.lt;go_wp2_with fail
 refine (HS.out _).mono ?_;rintro e v2 ⟨v,rfl,hc2,hv⟩;obtain ⟨Bw,XZ,BM,He,mHq,Ig,rfl,Hq,tV⟩:=hv;replace Hq:=zh Hq;replace tV:=zh tV;replace Hp:=zh (aQ.carry Hp.out aI hc2);replace wP:=zh (aQ.carry wP.out aI hc2);replace X1:ah _ (v1.heap.size) _ _:=ah.later aJ hc2;(try simp only [List.setIfInBounds_toArray,List.set_cons_zero,List.set_cons_succ] at X1);replace jV:=X1.cell;replace lJ:=X1.free;replace jU:=X1.lt;replace BR:ah _ (w.heap.size+1+1) _ _:=ah.later aJ hc2;(try simp only [List.setIfInBounds_toArray,List.set_cons_zero,List.set_cons_succ] at BR);replace bK:=BR.cell;replace bJ:=BR.free;replace iL:=BR.lt;go_wp2_with fail
 refine (gF _ q.num.natAbs _ aI).mono ?_;rintro e v5 ⟨rfl,rfl⟩;rw [HZ.out];go_wp2_with fail
 refine aF [(.read,0),(.read,1),(.ext,2),(.ext,3),(.ext,4),(.pure,5),(.pure,6),(.fin,7),(.fin,8)] zk zk zR zP ?_;refine zV ?_;refine aH rfl rfl (fun w3 hb3 J hJ=>?_);go_simp;replace Hp:=zh (aQ.carry Hp.out aI hb3);replace wP:=zh (aQ.carry wP.out aI hb3);replace BR:ah _ (w.heap.size+1+1) _ _:=ah.later aJ hb3;(try simp only [List.setIfInBounds_toArray,List.set_cons_zero,List.set_cons_succ] at BR);replace bK:=BR.cell;replace bJ:=BR.free;replace iL:=BR.lt;refine ((Qw _ q _ (dZ.of aI aI) HQ0.out).mono (by rw [Ei.out];exact fun _ _ h=>h)).mono ?_;rintro e v3 ⟨v,rfl,hc3,hv⟩;obtain ⟨aR4,lHv,aW2,bf0,mHv,bj8,rfl,Hv,Hvd⟩:=hv;replace Hv:=zh Hv;replace Hvd:=zh Hvd;replace Hp:=zh (aQ.later Hp.out hc3);replace wP:=zh (aQ.later wP.out hc3);replace BR:=ah.later (BR) hc3;replace bK:=BR.cell;replace bJ:=BR.free;replace iL:=BR.lt
 refine hJ _ _ hc3 ?_;clear hJ J;refine aH rfl rfl (fun w4 hb4 J hJ=>?_);go_simp;replace Hp:=zh (aQ.later Hp.out hb4);replace wP:=zh (aQ.later wP.out hb4);replace Hv:=zh (aQ.later Hv.out hb4);replace Hvd:=zh (aQ.later Hvd.out hb4);replace BR:=ah.later (BR) hb4;replace bK:=BR.cell;replace bJ:=BR.free;replace iL:=BR.lt;refine ((Zg _ _ p i _ (dZ.of aI aI) (dZ.of aI aI) KP.out KI.out).mono (by rw [Er.out];exact fun _ _ h=>h)).mono ?_;rintro e v4 ⟨v,rfl,hc4,hv⟩;obtain ⟨YS,lHr,ac4,av8,mHr,aB1,rfl,Hr,Sn⟩:=hv;replace Hr:=zh Hr;replace Sn:=zh Sn;replace Hp:=zh (aQ.later Hp.out hc4);replace wP:=zh (aQ.later wP.out hc4);replace Hv:=zh (aQ.later Hv.out hc4);replace Hvd:=zh (aQ.later Hvd.out hc4);replace BR:=ah.later (BR) hc4;replace bK:=BR.cell;replace bJ:=BR.free;replace iL:=BR.lt;refine hJ _ _ hc4 ?_;clear hJ J
 refine aH rfl rfl (fun w5 hb5 J hJ=>?_);go_simp;replace Hr:=zh (aQ.later Hr.out hb5);replace Sn:=zh (aQ.later Sn.out hb5);replace BR:=ah.later (BR) hb5;replace bK:=BR.cell;replace bJ:=BR.free;replace iL:=BR.lt;refine ((jO _ r _ (dZ.of aI aI) KR.out (HT.out.later aD)).mono (by rw [Ex.out,qx];exact fun _ _ h=>h)).mono ?_;rintro e v5 ⟨rfl,nV⟩;replace Hr:=zh (aQ.later Hr.out nV);replace Sn:=zh (aQ.later Sn.out nV);replace BR:=ah.later (BR) nV;replace bK:=BR.cell;replace bJ:=BR.free;replace iL:=BR.lt;refine hJ _ _ nV ?_;clear hJ J;refine zV ?_;refine aU [_,_] rfl (fun w9 tT=>?_);replace BR:=ah.later (BR) tT;replace bK:=BR.cell;replace bJ:=BR.free;replace iL:=BR.lt;go_wp2_with fail
 refine aM rfl rfl aJ Tryz.underlying32 rfl zk ?_;exact ⟨rfl,aD⟩
theorem nJ (a b:Fr) (w:World) (ht:iR.Pow w) :
  Calls Tryz.prog 128 #[a.v,b.v] w (fun e w'=>e= .returned (Fr.res (nC a b))∧Below w.heap.size w w'):=by
 obtain ⟨s,t⟩:=a;obtain ⟨s',t'⟩:=b
 show Calls _ _ #[.agg #[.string s,.string t],.agg #[.string s',.string t']] _ _
 unfold nC
 by_cases hbad:rd ⟨s,t⟩=none∨rd ⟨s',t'⟩=none
 ·have e:∀ f,bin f ⟨s,t⟩ ⟨s',t'⟩=(Fr.no,20):=fun f=>by
   rcases hbad with h|h
   ·exact qg h
   ·exact nZ h
  rw [e];exact an1 s t s' t' w hbad
 ·obtain ⟨p,hp⟩:∃ p,rd ⟨s,t⟩=some p:=Option.ne_none_iff_exists'.1 (fun e=>hbad (.inl e));obtain ⟨q,hq⟩:∃ q,rd ⟨s',t'⟩=some q:=Option.ne_none_iff_exists'.1 (fun e=>hbad (.inr e));rw [kZ hp hq]
  by_cases h0:q=0
  ·rw [if_pos h0];subst h0;exact div_zero s t s' t' w p hp hq
  ·rw [if_neg h0];exact ab8 s t s' t' w p q hp hq h0 ht
theorem ai5 (p:Rat) (h:0≤p) (n:Nat):((p^n).num=((p.num.natAbs^n:Nat):Int))∧(p^n).den=p.den^n:=by
 have h0:0≤p.num:=by
  rw [Rat.num_nonneg];exact h
 refine ⟨?_,Rat.den_pow p n⟩;rw [Rat.num_pow,Int.natCast_pow,Int.natAbs_of_nonneg h0]
theorem xU (p:Rat) (n:Nat) (hp:vL p=true) (h0:0≤p) (n40:n≤40) (w:World) (ht:iR.Pow w) :
  Calls Tryz.prog 127 #[(Fr.of p).v,.int .i64 (n:Int)] w (fun e w'=>e= .returned (Fr.res (wr (p^n)))∧Below w.heap.size w w'):=by
 obtain ⟨e1,e2⟩:=ai5 p h0 n
 have hn0:0≤p.num:=by
  rw [Rat.num_nonneg];exact h0
 have hq:=Tw hp;have HC:=zh (fun W=>jR (Fr.of p) W);unfold BK at HC;rw [hq] at HC;obtain ⟨o1,o2⟩:jd p.num.natAbs=true∧jd p.den=true:=by simpa [vL] using hp
 have H1:=zh (fun W h=>whole.xU p.num.natAbs n o1 n40 W h);have H2:=zh (fun W h=>whole.xU p.den n o2 n40 W h);have HP:=zh ht
 have ev:(Fr.of p).v= .agg #[bL ((p.num.natAbs:Nat):Int),bL ((p.den:Nat):Int)]:=by
  rw [Int.natAbs_of_nonneg hn0];rfl
 have er:Fr.res (wr (p^n))=if jd (p.num.natAbs^n)=true then if jd (p.den^n)=true then .tuple #[.agg #[bL ((p.num.natAbs^n:Nat):Int),bL ((p.den^n:Nat):Int)],.int .i64 0] else .tuple #[.agg #[.string ⟨#[]⟩,.string ⟨#[]⟩],.int .i64 6] else .tuple #[.agg #[.string ⟨#[]⟩,.string ⟨#[]⟩],.int .i64 6]:=by
  have eo:vL (p^n)=(jd (p.num.natAbs^n)&&jd (p.den^n)):=by
   unfold vL;rw [e1,e2,Int.natAbs_natCast]
  by_cases k1:jd (p.num.natAbs^n)=true
  ·rw [if_pos k1]
   by_cases k2:jd (p.den^n)=true
   ·rw [if_pos k2,aq9 (by rw [eo,k1,k2];rfl),e1,e2]
   ·rw [if_neg k2,Js (by rw [eo,k1];simpa using k2)]
  ·rw [if_neg k1,Js (by rw [eo];simp [k1])]
 rw [ev] at HC ⊢;rw [er];unfold whole.BS at H1 H2;simp only [Int.natAbs_natCast] at H1 H2;clear e1 e2 hn0 hq o1 o2 ht ev er hp h0;simp only [Option.isSome_some,if_true] at HC;obtain ⟨oa,Ea⟩:∃ y,jd (p.num.natAbs^n)=y:=⟨_,rfl⟩;obtain ⟨ob,Eb⟩:∃ y,jd (p.den^n)=y:=⟨_,rfl⟩;simp only [Ea] at H1 ⊢;simp only [Eb] at H2 ⊢;clear Ea Eb;generalize p.num.natAbs^n=an at *;generalize p.den^n=bn at *;generalize p.num.natAbs=a at *;generalize p.den=b at *;unfold bL at *;generalize (⟨(Lib.itoa (a:Int)).toArray⟩:ByteArray)=ta at *;generalize (⟨(Lib.itoa (b:Int)).toArray⟩:ByteArray)=tb at *;generalize (⟨(Lib.itoa (an:Int)).toArray⟩:ByteArray)=tan at *;generalize (⟨(Lib.itoa (bn:Int)).toArray⟩:ByteArray)=tbn at *;go_enter Tryz.func127,Tryz.ntmps127
 go_wp2_with fail
 obtain ⟨wx,EW,hz,X,R⟩:=Gj w #[.string ta,.string tb] 32 #[.string ⟨#[]⟩,.string ⟨#[]⟩] 32;rw [EW];clear EW;have HB:=zh hz;clear hz;obtain ⟨bx,eb⟩:∃ y,w.heap.size=y:=⟨_,rfl⟩;rw [eb] at X R ⊢;refine (HC.out _).mono ?_;rintro e w1 ⟨rfl,hb1⟩;replace X:=X.bl hb1;replace R:=R.bl hb1;replace HB:=zh (Bt HB.out hb1);clear hb1 HC;obtain ⟨cX,lX⟩:=X.cl;go_wp2_with fail
 refine (H1.out _ (HP.out.later HB.out)).mono ?_;rintro e w2 ⟨rfl,hb2⟩;replace X:=X.bl hb2;replace R:=R.bl hb2;replace HB:=zh (Bt HB.out hb2);clear hb2 H1 cX lX;obtain ⟨cX,lX⟩:=X.cl
 by_cases k1:oa=true
 ·simp only [if_pos k1];go_wp2_with fail
  refine (H2.out _ (HP.out.later HB.out)).mono ?_;rintro e w3 ⟨rfl,hb3⟩;replace R:=R.bl hb3;replace HB:=zh (Bt HB.out hb3);clear hb3 H2 cX lX X;have hx:=R.out;have cx:=hx.cell;have fx:=hx.free;have lx:=hx.lt;have hw:=HB.out;rw [eb] at hw
  by_cases k2:ob=true
  ·simp only [if_pos k2];go_wp2_with fail
   refine aM rfl rfl aJ Tryz.underlying32 rfl zk ?_;exact ⟨rfl,aD⟩
  ·simp only [if_neg k2];go_wp2_with fail
   refine aM rfl rfl aJ Tryz.underlying32 rfl zk ?_;exact ⟨rfl,aD⟩
 ·simp only [if_neg k1];have hx:=R.out;have cx:=hx.cell;have fx:=hx.free;have lx:=hx.lt;have hw:=HB.out;rw [eb] at hw;go_wp2_with fail
  refine aM rfl rfl aJ Tryz.underlying32 rfl zk ?_;exact ⟨rfl,aD⟩
end Go.Proofs.dA
namespace Go.Proofs.power
open Go Go.RowKit Go.SW Go.Num Go.Mem Go.Proofs Go.Dec Go.fF Go.Proofs.whole Go.Proofs.aW
theorem MX (lo hi:ByteArray) (f:Value) (F:FuncId) (caps free:Array Value) (a b:Int × Int) (w:World) (hf:f= .func (.func F) caps free)
  (h1:∀ W,Below w.heap.size w W→Calls Tryz.prog F (caps++#[.string lo,.bool false]) W (fun e w'=>e= .returned (.tuple #[.int .i64 a.1,.int .i64 a.2])∧Below W.heap.size W w'))
  (h2:∀ W,Below w.heap.size w W→Calls Tryz.prog F (caps++#[.string hi,.bool true]) W (fun e w'=>e= .returned (.tuple #[.int .i64 b.1,.int .i64 b.2])∧Below W.heap.size W w')) (hfr:free=#[])
  (hen:∀ args W,(callFunc F args).run Tryz.prog W= .ok (.enter F args) W) :
  Calls Tryz.prog 155 #[.string lo,.string hi,f] w (fun e w'=>e= .returned (Wj a b)∧Below w.heap.size w w'):=by
 subst hf hfr;obtain ⟨a1,a2⟩:=a;obtain ⟨b1,b2⟩:=b;have H1:=zh h1;have H2:=zh h2;have HO:=zh (fun W=>nG a1 b1 W);unfold Wj;simp only;clear h1 h2;go_enter Tryz.func155,Tryz.ntmps155
 go_wp2_with fail
 refine (H1.out _ aD).mono ?_;rintro e w1 ⟨rfl,hb1⟩;have hx:=ah.later (ah.new w #[.int .i64 0,.int .i64 0] 40) hb1;have HX:=zh hx;have HB1:=zh (Bt (show Below w.heap.size w (w.alloc (.cells #[.int .i64 0,.int .i64 0] 40)) from aD) hb1);clear hx hb1
 by_cases ha:a2=0
 ·subst ha;go_wp2_with fail
  refine (H2.out _ HB1.out).mono ?_;rintro e w2 ⟨rfl,hb2⟩;replace HX:=zh (HX.out.later hb2);have HB2:=zh (Bt HB1.out hb2);clear hb2 HB1
  by_cases hb:b2=0
  ·subst hb;go_wp2_with fail
   refine (HO.out _).mono ?_;rintro e w3 ⟨rfl,hb3⟩;replace HX:=zh (HX.out.later hb3);have HB3:=zh (Bt HB2.out hb3);clear hb3 HB2;have hx:=HX.out;have cx:=hx.cell;have fx:=hx.free;have lx:=hx.lt;have hw:=HB3.out;cases hk:dY a1 b1
   all_goals
    go_wp2_with fail
    refine aM rfl rfl aJ Tryz.underlying40 rfl zk ?_;exact ⟨by first|rfl|(rw [if_neg (fun h=>h rfl),if_neg (fun h=>h rfl),hk];rfl),aD⟩
  ·have g:(b2 == 0)=false:=beq_eq_false_iff_ne.2 hb;have hx:=HX.out;have cx:=hx.cell;have fx:=hx.free;have lx:=hx.lt;have hw:=HB2.out;go_wp2_with fail
   refine aM rfl rfl aJ Tryz.underlying40 rfl zk ?_;exact ⟨by first|rfl|(rw [if_neg (fun h=>h rfl),if_pos hb];rfl),aD⟩
 ·have g:(a2 == 0)=false:=beq_eq_false_iff_ne.2 ha;have hx:=HX.out;have cx:=hx.cell;have fx:=hx.free;have lx:=hx.lt;have hw:=HB1.out;go_wp2_with fail
  refine aM rfl rfl aJ Tryz.underlying40 rfl zk ?_;exact ⟨by first|rfl|(rw [if_pos ha];rfl),aD⟩
theorem zu (s n:Nat) (hs:jd s=true) (hn:n≤10^18) (hk:jd (s+n^2)=true) (w:World) (ht:iR.Pow w) :
  Calls Tryz.prog 154 #[bL (s:Int),.int .i64 (n:Int)] w (fun e w'=>e= .returned (.tuple #[bL ((s+n^2:Nat):Int),.int .i64 0])∧Below w.heap.size w w'):=by
 have hn0:jd n=true:=yF.2 (Nat.lt_of_le_of_lt hn (by decide+kernel));have hn2:jd (n^2)=true:=qz hk zo
 have h63:(n:Int)≤9223372036854775807:=by
  have:(10:Nat)^18=1000000000000000000:=by decide
  omega
 have HO:=zh (fun W h=>AU (n:Int) zo h63 W h);have Sr:=zh (fun W h=>xU n 2 hn0 zo W h);have HA:=zh (fun W h=>qM s (n^2) hs hn2 W h);rw [tZ hn2] at Sr;rw [tZ hk] at HA;have HP:=zh ht;clear ht h63 hn2 hn0 hs hn hk;generalize s+n^2=u at *;generalize n^2=n2 at *;unfold bL at *;generalize (⟨(Lib.itoa (n:Int)).toArray⟩:ByteArray)=tn at *;generalize (⟨(Lib.itoa (n2:Int)).toArray⟩:ByteArray)=tn2 at *;generalize (⟨(Lib.itoa (s:Int)).toArray⟩:ByteArray)=ts at *;generalize (⟨(Lib.itoa (u:Int)).toArray⟩:ByteArray)=tu at *;go_enter Tryz.func154,Tryz.ntmps154
 go_wp2_with fail
 refine (HO.out _ HP.out).mono ?_;rintro e w1 ⟨rfl,hb1⟩;go_wp2_with fail
 refine (Sr.out _ (HP.out.later hb1)).mono ?_;rintro e w2 ⟨rfl,hb2⟩;go_wp2_with fail
 refine (HA.out _ (HP.out.later (Bt hb1 hb2))).mono ?_;rintro e w3 ⟨rfl,hb3⟩;go_wp2_with fail
 go_ret2
 exact ⟨rfl,Bt hb1 (Bt hb2 hb3)⟩
theorem OE (s:Nat) (up:Bool) (hs:jd s=true) (w:World) (ht:iR.Pow w) (he:Er w) :
  Calls Tryz.prog 156 #[bL (s:Int),.bool up] w (fun e w'=>e= .returned (.tuple #[.int .i64 (Ag (dQ 2 s) (up&& !(decide (dQ 2 s^2=s)))).1,.int .i64 (Ag (dQ 2 s) (up&& !(decide (dQ 2 s^2=s)))).2])∧Below w.heap.size w w'):=by
 have HR:=zh (fun W h=>yB s 2 hs zo zo W h);have HI:=zh (fun W h=>xG (dQ 2 s) (up&& !(decide (dQ 2 s^2=s))) (qz hs (oO zo)) W h);have HP:=zh ht;have HE:=zh he;clear ht he hs;generalize decide (dQ 2 s^2=s)=ex at *;obtain ⟨v,Ev⟩:∃ v,Ag (dQ 2 s) (up&& !ex)=v:=⟨_,rfl⟩;rw [Ev] at HI ⊢;clear Ev;obtain ⟨v1,v2⟩:=v;simp only at HI ⊢;generalize dQ 2 s=r at *;unfold bL at *;generalize (⟨(Lib.itoa (s:Int)).toArray⟩:ByteArray)=ts at *;generalize (⟨(Lib.itoa (r:Int)).toArray⟩:ByteArray)=tr at *;go_enter Tryz.func156,Tryz.ntmps156
 go_wp2_with fail
 refine (HR.out _ HP.out).mono ?_;rintro e w1 ⟨rfl,hb1⟩;cases up<;>cases ex
 all_goals
  go_wp2_with fail
  refine (HI.out _ (HE.out.later hb1)).mono ?_;rintro e w2 ⟨rfl,hb2⟩;go_wp2_with fail
  go_ret2
  exact ⟨rfl,Bt hb1 hb2⟩
theorem WE {l:List Nat} {up:Bool}:Ag (dQ 2 (rG l)) (up&& !(decide (dQ 2 (rG l)^2=rG l)))=Ac l up:=by
 show Ag (nlo l) (up&& !(decide (nlo l^2=rG l)))=Ac l up
 by_cases h:nlo l≤10^18
 ·rw [aj9 h];unfold Ag;rw [if_pos h]
 ·unfold Ac Ag;rw [if_neg h,if_neg h]
end Go.Proofs.power
namespace Go.Proofs.power
open Go Go.RowKit Go.Shelf Go.SW Go.Num Go.Mem Go.Proofs Go.Dec Go.fF Go.Proofs.whole Go.Proofs.aW
attribute [local go_sem] Oper.semAt_some
theorem eF {W W':World} (h:Below W.heap.size W W'):KeepsOthers W W' :=
 ⟨h.size,fun k o hk _=>(h.block k (Array.getElem?_eq_some_iff.1 hk).1).trans hk⟩
theorem fJ {W W':World} {row:Option Nat} {b:Nat} {cs:Array Value} {T:TypeId} (h:ah W b cs T) (hg:W.grownBy W' row) (hr:∀ r,row=some r→∃ o:Obj,W.heap[r]? =some o∧o.isCells=false):ah W' b cs T:=by
 unfold ah at *;rw [hg.block b (Array.getElem?_eq_some_iff.1 h).1 ?_]
 ·exact h
 ·intro e;obtain ⟨o,ho,hc⟩:=hr b e.symm;rw [h] at ho;cases ho
  cases hc
theorem Vw {l:List Nat} {m:Nat} (h:∀ x∈l,x≤m):rG l≤l.length*m^2:=by
 induction l with
 | nil=>exact Nat.zero_le _
 | cons x t ih =>
  rw [Yx,List.length_cons,Nat.add_mul,Nat.one_mul,Nat.add_comm];exact Nat.add_le_add (ih fun y hy=>h y (List.mem_cons_of_mem _ hy)) (Nat.pow_le_pow_left (h x zi) 2)
theorem Ud {l:List Nat} (h:∀ x∈l,x≤10^18) (h8:l.length≤8):jd (rG l)=true:=by
 have h1:=Vw h;have h3:8*(10^18)^2<10^600:=by decide+kernel
 generalize (10^18)^2=m at *;have h2:l.length*m≤8*m:=Nat.mul_le_mul_right _ h8;exact yF.2 (Nat.lt_of_le_of_lt h1 (Nat.lt_of_le_of_lt h2 h3))
def los (bs:List (Int × Int)) (pre:List (Fin bs.length)):List Nat:=pre.map fun x=>Lu bs[x.1]
def his (bs:List (Int × Int)) (pre:List (Fin bs.length)):List Nat:=pre.map fun x=>KJ bs[x.1]
theorem Ng (bs:List (Int × Int)):los bs (upto bs.length (Nat.le_refl _))=bs.map Lu:=by
 unfold los upto;rw [List.map_ofFn];refine List.ext_getElem zi fun i h1 h2=>?_;simp
theorem Nu (bs:List (Int × Int)):his bs (upto bs.length (Nat.le_refl _))=bs.map KJ:=by
 unfold his upto;rw [List.map_ofFn];refine List.ext_getElem zi fun i h1 h2=>?_;simp
theorem Nh (bs:List (Int × Int)) (pre:List (Fin bs.length)) (x:Fin bs.length):rG (los bs (pre++[x]))=rG (los bs pre)+Lu bs[x.1]^2:=by
 unfold los;rw [List.map_append,CW];simp [rG]
theorem Nv (bs:List (Int × Int)) (pre:List (Fin bs.length)) (x:Fin bs.length):rG (his bs (pre++[x]))=rG (his bs pre)+KJ bs[x.1]^2:=by
 unfold his;rw [List.map_append,CW];simp [rG]
theorem ai9 (l m:List Nat) (hl:jd (rG l)=true) (hm:jd (rG m)=true) (w:World) (ht:iR.Pow w) (he:Er w) :
  Calls Tryz.prog 155 #[bL (rG l:Nat),bL (rG m:Nat),.func (.func 156) #[] #[]] w (fun e w'=>e= .returned (aY (JW (Ac l false) (Ac m true)))∧Below w.heap.size w w'):=by
 have E1:=fun W (h:Below w.heap.size w W)=>OE (rG l) false hl W (ht.later h) (he.later h);have E2:=fun W (h:Below w.heap.size w W)=>OE (rG m) true hm W (ht.later h) (he.later h);simp only [WE] at E1 E2;unfold bL at *;rw [← Ub];exact MX _ _ (.func (.func 156) #[] #[]) 156 #[] #[] _ _ w rfl E1 E2 rfl (fun args W=>by rfl)
def ak0 (bs:List (Int × Int)):(Int × Int) × Int:=if bs.length=0 then ((0,0),2) else if 8<bs.length then ((0,0),3) else if okB bs=false then ((0,0),30) else JW (Ac (bs.map Lu) false) (Ac (bs.map KJ) true)
theorem Xx (a:Option Addr) (cap:Nat) (T:TypeId) (bs:List (Int × Int)) (h1:1≤bs.length) (h8:bs.length≤8) (hok:okB bs=true) (w:World) (hv:zK w T (.slice a bs.length cap) bs) (ht:iR.Pow w) (he:Er w) :
  Calls Tryz.prog 71 #[.slice a bs.length cap] w (fun e w'=>e= .returned (aY (JW (Ac (bs.map Lu) false) (Ac (bs.map KJ) true)))∧Below w.heap.size w w'):=by
 have q1:((bs.length:Int) == 0)=false:=beq_eq_false_iff_ne.2 zo;have q2:decide ((8:Int)<(bs.length:Int))=false:=by simp;omega
 have HR:=zh hv;have HP:=zh ht;have HE:=zh he;have HOK:=zh hok;have HL:=zh h8
 have hread:∀ k (_:k<bs.length),∃ b off,a=some ⟨b,off,none⟩∧b<w.heap.size∧w.cell? ⟨b,off+k*2,none⟩=some (.int .i64 bs[k].1)∧w.cell? ⟨b,off+k*2+1,none⟩=some (.int .i64 bs[k].2):=by
  obtain ⟨a',cap',e, -, -, h⟩:=hv.read;cases e
  exact h
 have HRD:=zh hread;clear hread;clear hv ht he hok h8;obtain ⟨z,EZ⟩:∃ z,JW (Ac (bs.map Lu) false) (Ac (bs.map KJ) true)=z:=⟨_,rfl⟩;rw [EZ];have HZ:=zh EZ;clear EZ;obtain ⟨⟨z1,z2⟩,z3⟩:=z;unfold aY;simp only;refine (callsIn_wide (n:=3)).1 ?_;refine callsIn_of_wp_marks Tryz.func71 rfl trivial ?_ rfl;simp only [Tryz.ntmps71,List.size_toArray,List.length_cons,List.length_nil,Nat.reduceAdd,Nat.reduceSub,Array.replicate_succ,Array.replicate_zero,List.push_toArray,List.append_toArray,List.nil_append,List.cons_append]
 gi_wp2
 refine Pm ?_
 gi_wp2
 refine wpIn_label ?_;obtain ⟨wx,EW,hz,R,E3,E⟩:=Ji w #[.int .i64 0,.int .i64 0] 40 #[.int .i64 0] 43 #[.int .i64 0] 43;rw [EW];clear EW;obtain ⟨bx,eb⟩:∃ y,w.heap.size=y:=⟨_,rfl⟩;rw [eb] at R E3 E ⊢
 gi_wp2
 gi_loopw [20] (fun i wr=>∃ k:Nat,i= .int .i64 k∧k≤bs.length∧Below w.heap.size w wr∧Hid (ah wr bx #[.int .i64 0,.int .i64 0] 40)∧Hid (ah wr (bx+1) #[.int .i64 0] 43)∧Hid (ah wr (bx+1+1) #[.int .i64 0] 43))
  (fun i _=>bs.length - (intOf i).toNat)
 case atStart=>exact ⟨0,rfl,Nat.zero_le _,hz,R,E3,E⟩
 case round =>
  clear R E3 E hz;obtain ⟨k,rfl,hk,hnx,R,E3,E⟩:=hrel
  have hw1:wrap64 ((k:Int)+1)=((k+1:Nat):Int):=by
   have:=HL.out;unfold wrap64;omega
  by_cases hlt:k<bs.length
  ·obtain ⟨b,off,rfl,hbl,hx1,hx2⟩:=HRD.out k hlt;have hc1:=(hnx.cell (p:=⟨b,off+k*2,none⟩) hbl).trans hx1;have hc2:=(hnx.cell (p:=⟨b,off+k*2+1,none⟩) hbl).trans hx2;clear hx1 hx2;have hv:dY bs[k].1 bs[k].2=true:=List.all_eq_true.1 HOK.out _ (List.getElem_mem hlt);have HC:=zh (fun W=>gD bs[k].1 bs[k].2 W);rw [hv,if_pos rfl] at HC;have HB:=zh hbl;clear hv hbl;generalize bs[k].1=y1 at *;generalize bs[k].2=y2 at *
   gi_wp2_with (refine ⟨trivial,?_⟩;gi_at_call 151;refine (callsIn_wide.2 (HC.out _)).mono ?_;rintro e w1 ⟨rfl,hc3⟩;have HN:=zh (hnx.alloc hnx.size (.cells #[.int .i64 y1,.int .i64 y2] 40));replace R:=(zh (R.out.alloc (.cells #[.int .i64 y1,.int .i64 y2] 40))).bl hc3;replace E3:=(zh (E3.out.alloc (.cells #[.int .i64 y1,.int .i64 y2] 40))).bl hc3;replace E:=(zh (E.out.alloc (.cells #[.int .i64 y1,.int .i64 y2] 40))).bl hc3;replace HN:=zh (Bt HN.out hc3);clear hc3 hnx hc1 hc2;have cE:=E.out.cell;have fE:=E.out.free;have lE:=E.out.lt)
   go_roundw
   case rel =>
    have hn:=HN.out;rw [eb] at hn;have r:=R.out;have e3:=E3.out;have e4:=E.out;rw [eb];exact ⟨k+1,by rw [hw1],by omega,aD,zh aJ,zh aJ,zh (e4.set 0 _)⟩
   case measure =>
    rw [hw1];simp only [intOf,Int.toNat_natCast];omega
  ·obtain rfl:k=bs.length:=by omega
   have hge:¬ bs.length<bs.length:=by omega
   have aV2:decide ((bs.length:Int)<(bs.length:Int))=false:=by simp
   have cE:=E.out.cell;have fE:=E.out.free;have lE:=E.out.lt
   gi_wp2_with (refine ⟨trivial,?_⟩;gi_at_call 153;refine (KO 2 _ _ _ _).mono ?_;rintro e w' ⟨rfl,rfl⟩)
   have aU6:=hnx;obtain ⟨wy,EW,hz,LO,HI,SB⟩:=Ji wr #[.string ⟨#[48]⟩] 30 #[.string ⟨#[48]⟩] 30 #[.slice a bs.length cap] 122;rw [EW];clear EW;obtain ⟨lb,el⟩:∃ y,wr.heap.size=y:=⟨_,rfl⟩;have hB0:Below w.heap.size w wy:=Bt hnx hz;have hlb:bx+1+1<lb:=by rw [← el];exact E.out.lt
   replace R:=R.bl hz;replace E3:=E3.bl hz;replace E:=E.bl hz;rw [el] at LO HI SB ⊢;clear cE fE lE hz hnx aU6;have z0:Value.string ⟨#[48]⟩=bL ((0:Nat):Int):=by kernel_rfl
   rw [z0] at LO HI;have bc6:=HL.out;have HBN:Hid (∀ x:Fin bs.length,dY bs[x.1].1 bs[x.1].2=true):=zh fun x=>List.all_eq_true.1 HOK.out _ (List.getElem_mem x.2)
   have HLO:Hid (∀ pre:List (Fin bs.length),pre.length≤bs.length→jd (rG (los bs pre))=true):=zh fun pre hp=>Ud (fun y hy=>by
    obtain ⟨x, -, rfl⟩:=List.mem_map.1 hy;have:=Ro (HBN.out x);omega) (by unfold los;rw [List.length_map];omega)
   have HHI:Hid (∀ pre:List (Fin bs.length),pre.length≤bs.length→jd (rG (his bs pre))=true):=zh fun pre hp=>Ud (fun y hy=>by
    obtain ⟨x, -, rfl⟩:=List.mem_map.1 hy;exact (Ro (HBN.out x)).2) (by unfold his;rw [List.length_map];omega)
   refine wpIn_rangeFunc_ownH (α:=Fin bs.length) rfl zo (gf:=230) (lb:=#[.pointer (some ⟨lb+1+1,0,none⟩)]) rfl trivial (enters_of Tryz.func230 zk rfl)
    (BQ 2 zo (lb+1+1) w.heap.size (.slice a bs.length cap) T bs HOK.out w wy SB.out.lt hB0.size ((SB.out.cell 0).trans rfl) HR.out (Nat.le_refl _) hB0) belowK_t (belowK_b hB0.size) (Below.refl _ _) (fun _=>rfl)
    (fun pre W=>(ah W bx #[.int .i64 0,.int .i64 0] 40∧ah W (bx+1) #[.int .i64 0] 43∧ah W (bx+1+1) #[.int .i64 0] 43∧ah W lb #[bL (rG (los bs pre):Nat)] 30∧ah W (lb+1) #[bL (rG (his bs pre):Nat)] 30)∧Below w.heap.size w W)
    (fun c' pre W=>False∧Below w.heap.size w W)
    (OwnFrom.and (Own.from (fun s A B row hs hg hr=>⟨fJ hs.1 hg hr,fJ hs.2.1 hg hr,fJ hs.2.2.1 hg hr,fJ hs.2.2.2.1 hg hr,fJ hs.2.2.2.2 hg hr⟩) _) (ownFrom_below (Nat.le_refl _) hB0.size))
    (fun c=>OwnFrom.and (Own.from (fun s A B row hs hg hr=>hs) _) (ownFrom_below (Nat.le_refl _) hB0.size))
    ⟨⟨R.out,E3.out,E.out,LO.out,HI.out⟩,hB0⟩ (fun x a' W=>∃ u35 B,lb+1<B∧a'={ tmps:=#[Value.slice a bs.length cap,undef,.pointer (some ⟨bx,0,none⟩),.pointer (some ⟨bx+1,0,none⟩),.pointer (some ⟨bx+1+1,0,none⟩),undef,u6,.pointer (some ⟨lb,0,none⟩),.pointer (some ⟨lb+1,0,none⟩),.pointer (some ⟨B,0,none⟩),.slice a bs.length cap,.int .i64 bs.length,.bool false,undef,.slice a bs.length cap,.int .i64 bs.length,.bool false,undef,.slice a bs.length cap,.int .i64 bs.length,.int .i64 bs.length,.bool false,u22,u23,u24,u25,u26,u27,u28,.int .i64 0,.bool false,undef,undef,.slice a bs.length cap,.func (.func 230) #[] #[.pointer (some ⟨lb+1+1,0,none⟩)],u35,undef,undef,undef,undef,undef,undef,undef,undef,undef,undef,undef,undef,undef,undef,undef,undef,undef,undef,undef,undef,undef,undef,undef,undef,undef,undef,undef],defers:=[] }∧ah W B #[.int .i64 ((Lu bs[x.1]:Nat):Int),.int .i64 ((KJ bs[x.1]:Nat):Int)] 40) ?hAx ?assign ?body ?done ?stop
   case hAx =>
    intro x a'
    exact Own.from (fun s A B row hs hg hr=>by
     obtain ⟨u1,B',h0,h1,h2⟩:=hs;exact ⟨u1,B',h0,h1,fJ h2 hg hr⟩) _
   case assign =>
    intro l pre x W K hI hK;unfold am9
    gi_wp2
    exact hK _ _ ((eF aD).from _) ((Below.refl _ W).alloc hI.2.size _) ⟨⟨hI.1.1.alloc _,hI.1.2.1.alloc _,hI.1.2.2.1.alloc _,hI.1.2.2.2.1.alloc _,hI.1.2.2.2.2.alloc _⟩,hI.2.alloc hI.2.size _⟩ ⟨_,_,hI.1.2.2.2.2.lt,rfl,aJ⟩
   case body =>
    rintro l pre x a' W hl hr ⟨⟨b1,b2,b3,b4,b5⟩,hB⟩ ⟨u35,B',hBl,rfl,Yb⟩ hpl
    dsimp only
    have hS1:=HLO.out pre zo;have hS2:=HHI.out pre zo;have hT1:=HLO.out (pre++[x]) (by rw [List.length_append,List.length_singleton];omega);have hT2:=HHI.out (pre++[x]) (by rw [List.length_append,List.length_singleton];omega);have hbx:=Ro (HBN.out x);rw [Nh] at hT1;rw [Nv] at hT2;have A1:=zh (fun W h=>zu (rG (los bs pre)) (Lu bs[x.1]) hS1 zo hT1 W h);have A2:=zh (fun W h=>zu (rG (his bs pre)) (KJ bs[x.1]) hS2 hbx.2 hT2 W h);rw [← Nh] at A1;rw [← Nv] at A2;clear hS1 hS2 hT1 hT2 hbx;obtain ⟨t1,Et1⟩:∃ y,bL ((rG (los bs (pre++[x])):Nat):Int)= .string y:=⟨_,rfl⟩;obtain ⟨t2,Et2⟩:∃ y,bL ((rG (his bs (pre++[x])):Nat):Int)= .string y:=⟨_,rfl⟩;obtain ⟨s1,Es1⟩:∃ y,bL ((rG (los bs pre):Nat):Int)= .string y:=⟨_,rfl⟩;obtain ⟨s2,Es2⟩:∃ y,bL ((rG (his bs pre):Nat):Int)= .string y:=⟨_,rfl⟩;rw [Et1,Es1] at A1;rw [Et2,Es2] at A2;rw [Es1] at b4
    rw [Es2] at b5;have HT1:=zh Et1;have HT2:=zh Et2;clear Et1 Et2 Es1 Es2;generalize Lu bs[x.1]=n1 at *;generalize KJ bs[x.1]=n2 at *;have ne1:lb≠bx+1+1:=by omega
    have ne2:lb+1≠bx+1+1:=by omega
    have ne3:B'≠lb:=by omega
    have ne4:B'≠bx+1+1:=by omega
    have cB:=Yb.cell;have lB:=Yb.lt;have c4:=b4.cell;have l4:=b4.lt
    gi_wp2_with (first|(refine ⟨trivial,?_⟩;gi_at_call 154;with_reducible refine (CallsIn.inRound l (callsIn_wide.2 (A1.out _ ?_))).mono ?_;exact (HP.out.later hB);rintro e w1 ⟨rfl,hc1⟩;have c1:=(b1.later hc1);have c2:=(b2.later hc1);have c3:=(b3.later hc1);have c4:=(b4.later hc1);have c5:=(b5.later hc1);have cB:=(Yb.later hc1).cell;have lB:=(Yb.later hc1).lt;have d3:=c3.cell;have d4:=c4.cell;have d5:=c5.cell;have f3:=c3.free;have f4:=c4.free;have f5:=c5.free;have l3:=c3.lt;have l4:=c4.lt;have l5:=c5.lt))
    have k1:KeepsOthers W ((w1.setCell ⟨lb,0,none⟩ (.string t1)).setCell ⟨bx+1+1,0,none⟩ (.int .i64 0)):=((eF hc1).trans (KeepsOthers.setCell _ _ _)).trans (KeepsOthers.setCell _ _ _);have p1:Below w.heap.size W ((w1.setCell ⟨lb,0,none⟩ (.string t1)).setCell ⟨bx+1+1,0,none⟩ (.int .i64 0)):=((hc1.mono hB.size).setCell (p:=⟨lb,0,none⟩) (by simp;omega) _).setCell (p:=⟨bx+1+1,0,none⟩) (by simp;omega) _;have e1:ah ((w1.setCell ⟨lb,0,none⟩ (.string t1)).setCell ⟨bx+1+1,0,none⟩ (.int .i64 0)) bx #[.int .i64 0,.int .i64 0] 40:=ah.setOther (ah.setOther c1 _ (by simp;omega)) _ (by simp;omega);have e2:ah ((w1.setCell ⟨lb,0,none⟩ (.string t1)).setCell ⟨bx+1+1,0,none⟩ (.int .i64 0)) (bx+1) #[.int .i64 0] 43:=ah.setOther (ah.setOther c2 _ (by simp;omega)) _ zi
    have e3:ah ((w1.setCell ⟨lb,0,none⟩ (.string t1)).setCell ⟨bx+1+1,0,none⟩ (.int .i64 0)) (bx+1+1) #[.int .i64 0] 43:=ah.set (ah.setOther c3 _ (by simp;omega)) 0 _;have e4:ah ((w1.setCell ⟨lb,0,none⟩ (.string t1)).setCell ⟨bx+1+1,0,none⟩ (.int .i64 0)) lb #[.string t1] 30:=ah.setOther (ah.set c4 0 _) _ (by simp;omega);have e5:ah ((w1.setCell ⟨lb,0,none⟩ (.string t1)).setCell ⟨bx+1+1,0,none⟩ (.int .i64 0)) (lb+1) #[.string s2] 30:=ah.setOther (ah.setOther c5 _ zi) _ (by simp;omega);generalize (w1.setCell ⟨lb,0,none⟩ (.string t1)).setCell ⟨bx+1+1,0,none⟩ (.int .i64 0)=w2 at *;clear c1 c2 c3 c4 c5 d3 d4 d5 f3 f4 f5 l3 l4 l5 cB lB hc1 b1 b2 b3 b4 b5;refine ⟨trivial,?_⟩;have hB2:=hB.trans p1;refine (CallsIn.inRound l (callsIn_wide.2 (A2.out _ (HP.out.later hB2)))).mono ?_;rintro e w3 ⟨rfl,hc3⟩;have q1:=e1.later hc3;have q2:=e2.later hc3;have q3:=e3.later hc3;have q4:=e4.later hc3
    have q5:=e5.later hc3;have d3:=q3.cell;have d5:=q5.cell;have f3:=q3.free;have f5:=q5.free;have l3:=q3.lt;have l5:=q5.lt
    gi_wp2
    have k3:KeepsOthers W ((w3.setCell ⟨lb+1,0,none⟩ (.string t2)).setCell ⟨bx+1+1,0,none⟩ (.int .i64 0)):=((k1.trans (eF hc3)).trans (KeepsOthers.setCell _ _ _)).trans (KeepsOthers.setCell _ _ _);have p3:Below w.heap.size W ((w3.setCell ⟨lb+1,0,none⟩ (.string t2)).setCell ⟨bx+1+1,0,none⟩ (.int .i64 0)):=((p1.trans (hc3.mono hB2.size)).setCell (p:=⟨lb+1,0,none⟩) (by simp;omega) _).setCell (p:=⟨bx+1+1,0,none⟩) (by simp;omega) _;have g1:ah ((w3.setCell ⟨lb+1,0,none⟩ (.string t2)).setCell ⟨bx+1+1,0,none⟩ (.int .i64 0)) bx #[.int .i64 0,.int .i64 0] 40:=ah.setOther (ah.setOther q1 _ (by simp;omega)) _ (by simp;omega);have g2:ah ((w3.setCell ⟨lb+1,0,none⟩ (.string t2)).setCell ⟨bx+1+1,0,none⟩ (.int .i64 0)) (bx+1) #[.int .i64 0] 43:=ah.setOther (ah.setOther q2 _ (by simp;omega)) _ zi
    have g3:ah ((w3.setCell ⟨lb+1,0,none⟩ (.string t2)).setCell ⟨bx+1+1,0,none⟩ (.int .i64 0)) (bx+1+1) #[.int .i64 0] 43:=ah.set (ah.setOther q3 _ (by simp;omega)) 0 _;have g4:ah ((w3.setCell ⟨lb+1,0,none⟩ (.string t2)).setCell ⟨bx+1+1,0,none⟩ (.int .i64 0)) lb #[.string t1] 30:=ah.setOther (ah.setOther q4 _ zi) _ (by simp;omega);have g5:ah ((w3.setCell ⟨lb+1,0,none⟩ (.string t2)).setCell ⟨bx+1+1,0,none⟩ (.int .i64 0)) (lb+1) #[.string t2] 30:=ah.setOther (ah.set q5 0 _) _ (by simp;omega);refine ⟨k3.from _,p3,⟨g1,g2,g3,?_,?_⟩,hB.trans p3⟩
    ·rw [HT1.out];exact g4
    ·rw [HT2.out];exact g5
   case done =>
    rintro D ys W hD rfl ⟨⟨b1,b2,b3,b4,b5⟩,hB⟩ hK;rw [Ng] at b4;rw [Nu] at b5;have HO:=zh (fun W h1 h2=>ai9 (bs.map Lu) (bs.map KJ) (by rw [← Ng];exact HLO.out _ (by rw [jg];omega)) (by rw [← Nu];exact HHI.out _ (by rw [jg];omega)) W h1 h2);rw [HZ.out] at HO;unfold aY at HO;simp only at HO;obtain ⟨s1,Es1⟩:∃ y,bL ((rG (bs.map Lu):Nat):Int)= .string y:=⟨_,rfl⟩;obtain ⟨s2,Es2⟩:∃ y,bL ((rG (bs.map KJ):Nat):Int)= .string y:=⟨_,rfl⟩;rw [Es1,Es2] at HO;rw [Es1] at b4;rw [Es2] at b5;clear Es1 Es2;have c4:=b4.cell;have l4:=b4.lt;have c5:=b5.cell;have l5:=b5.lt
    gi_wp2_with (refine ⟨trivial,?_⟩;gi_at_call 155;refine (callsIn_wide.2 (HO.out _ (HP.out.later hB) (HE.out.later hB))).mono ?_;rintro e w1 ⟨rfl,hc1⟩;have c1:=(b1.later hc1);have c2:=(b2.later hc1);have d1:=c1.cell;have d2:=c2.cell;have f1:=c1.free;have f2:=c2.free;have l1:=c1.lt;have l2:=c2.lt)
    rw [Exit.noGoto_ret];have hDW:D<W.heap.size:=(Array.getElem?_eq_some_iff.1 hK).1;have hK1:=(hc1.block D hDW).trans hK;have hK2:=(((KeepsOthers.setCell w1 ⟨bx,0,none⟩ (.int .i64 z1)).trans (KeepsOthers.setCell _ ⟨bx,1,none⟩ (.int .i64 z2))).trans (KeepsOthers.setCell _ ⟨bx+1,0,none⟩ (.int .i64 z3))).same D _ hK1 rfl;refine ⟨by simp,.inl ⟨_,_,rfl,run_takeDeferred hK2,?_⟩⟩;have g1:ah (((w1.setCell ⟨bx,0,none⟩ (.int .i64 z1)).setCell ⟨bx,1,none⟩ (.int .i64 z2)).setCell ⟨bx+1,0,none⟩ (.int .i64 z3)) bx #[.int .i64 z1,.int .i64 z2] 40:=ah.setOther ((c1.set 0 _).set 1 _) _ zi;have g2:ah (((w1.setCell ⟨bx,0,none⟩ (.int .i64 z1)).setCell ⟨bx,1,none⟩ (.int .i64 z2)).setCell ⟨bx+1,0,none⟩ (.int .i64 z3)) (bx+1) #[.int .i64 z3] 43:=ah.set (ah.setOther (ah.setOther c2 _ zi) _ zi) 0 _
    have hW:=(((hB.trans (hc1.mono hB.size)).setCell (p:=⟨bx,0,none⟩) (by simp;omega) (.int .i64 z1)).setCell (p:=⟨bx,1,none⟩) (by simp;omega) (.int .i64 z2)).setCell (p:=⟨bx+1,0,none⟩) (by simp;omega) (.int .i64 z3);have g1:=fJ g1 (grownBy_putObj' _ D (.deferred none)) (fun r e=>by cases e;exact ⟨_,hK2,rfl⟩);have g2:=fJ g2 (grownBy_putObj' _ D (.deferred none)) (fun r e=>by cases e;exact ⟨_,hK2,rfl⟩);have hW2:=hW.trans (belowK_b (w:=w) (Nat.le_refl _) _ D _ (.deferred none) (by have:=hB0.size;omega) hK2 rfl rfl);have hc1':=g1.cell;have hc2':=g2.cell;have hl1:=hc1' 0;have hl2:=hc1' 1;have hl3:=hc2' 0;refine ⟨.tuple #[.agg #[.int .i64 z1,.int .i64 z2],.int .i64 z3],?_,rfl,hW2⟩;simp [results,Tryz.f71,go_sem,hl1,hl2,hl3]
   case stop =>
    rintro D c' pre W hD hpre ⟨h, -⟩ hK;cases h
theorem OD (a:Option Addr) (n cap:Nat) (k:Int) (h:n=0∧k=2∨8<n∧k=3) (w:World) :
  Calls Tryz.prog 71 #[.slice a n cap] w (fun e w'=>e= .returned (aY ((0,0),k))∧Below w.heap.size w w'):=by
 unfold aY;simp only
 rcases h with ⟨h,rfl⟩|⟨h,rfl⟩
 ·subst h;go_enter Tryz.func71,Tryz.ntmps71
  go_wp2_with fail
  go_step3
  go_wp2_with fail
  rw [Exit.noGoto_ret];exact bodyPost_ret (v:=.tuple #[.agg #[.int .i64 0,.int .i64 0],.int .i64 2]) (by simp [results,Tryz.results71,go_sem]) rfl ⟨rfl,aD⟩
 ·have q1:((n:Int) == 0)=false:=beq_eq_false_iff_ne.2 zo;have q2:decide ((8:Int)<(n:Int))=true:=by simp;omega
  go_enter Tryz.func71,Tryz.ntmps71
  go_wp2_with fail
  go_step3
  go_wp2_with fail
  rw [Exit.noGoto_ret];exact bodyPost_ret (v:=.tuple #[.agg #[.int .i64 0,.int .i64 0],.int .i64 3]) (by simp [results,Tryz.results71,go_sem]) rfl ⟨rfl,aD⟩
theorem ae3 (a:Option Addr) (cap:Nat) (T:TypeId) (bs:List (Int × Int)) (h1:1≤bs.length) (h8:bs.length≤8) (hok:okB bs=false) (w:World) (hv:zK w T (.slice a bs.length cap) bs) :
  Calls Tryz.prog 71 #[.slice a bs.length cap] w (fun e w'=>e= .returned (aY ((0,0),30))∧Below w.heap.size w w'):=by
 have q1:((bs.length:Int) == 0)=false:=beq_eq_false_iff_ne.2 zo;have q2:decide ((8:Int)<(bs.length:Int))=false:=by simp;omega
 have HOK:=zh hok;have HL:=zh h8
 have hread:∀ k (_:k<bs.length),∃ b off,a=some ⟨b,off,none⟩∧b<w.heap.size∧w.cell? ⟨b,off+k*2,none⟩=some (.int .i64 bs[k].1)∧w.cell? ⟨b,off+k*2+1,none⟩=some (.int .i64 bs[k].2):=by
  obtain ⟨a',cap',e, -, -, h⟩:=hv.read;cases e
  exact h
 have HRD:=zh hread;clear hread hv hok h8;unfold aY;simp only;go_enter Tryz.func71,Tryz.ntmps71
 go_wp2_with fail
 go_step3
 go_wp2_with fail
 go_step3
 obtain ⟨wx,EW,hz,R,E3,E⟩:=Ji w #[.int .i64 0,.int .i64 0] 40 #[.int .i64 0] 43 #[.int .i64 0] 43;rw [EW];clear EW;obtain ⟨bx,eb⟩:∃ y,w.heap.size=y:=⟨_,rfl⟩;rw [eb] at R E3 E ⊢;go_wp2_with fail
 go_loopw [20] (fun i wr=>∃ k:Nat,i= .int .i64 k∧k≤bs.length∧Below w.heap.size w wr∧Hid (ah wr bx #[.int .i64 0,.int .i64 0] 40)∧Hid (ah wr (bx+1) #[.int .i64 0] 43)∧Hid (ah wr (bx+1+1) #[.int .i64 0] 43)∧Hid (∀ j (h:j<bs.length),j<k→dY bs[j].1 bs[j].2=true))
  (fun i _=>bs.length - (intOf i).toNat)
 case atStart=>exact ⟨0,rfl,Nat.zero_le _,hz,R,E3,E,zh fun j _ h=>absurd h zo⟩
 case round =>
  clear R E3 E hz;obtain ⟨k,rfl,hk,hnx,R,E3,E,HK⟩:=hrel
  have hw1:wrap64 ((k:Int)+1)=((k+1:Nat):Int):=by
   have:=HL.out;unfold wrap64;omega
  by_cases hlt:k<bs.length
  ·obtain ⟨b,off,rfl,hbl,hx1,hx2⟩:=HRD.out k hlt;have hc1:=(hnx.cell (p:=⟨b,off+k*2,none⟩) hbl).trans hx1;have hc2:=(hnx.cell (p:=⟨b,off+k*2+1,none⟩) hbl).trans hx2;clear hx1 hx2;have HC:=zh (fun W=>gD bs[k].1 bs[k].2 W);obtain ⟨bk,EK⟩:∃ y,dY bs[k].1 bs[k].2=y:=⟨_,rfl⟩;rw [EK] at HC;have HEK:=zh EK;have HB:=zh hbl;clear hbl EK;generalize e1:bs[k].1=y1 at *;generalize e2:bs[k].2=y2 at *;have XL:=zh e1;have HE2:=zh e2;clear e1 e2;go_wp2_with fail
   refine (HC.out _).mono ?_;rintro e w1 ⟨rfl,hc3⟩;have HN:=zh (hnx.alloc hnx.size (.cells #[.int .i64 y1,.int .i64 y2] 40));replace R:=(zh (R.out.alloc (.cells #[.int .i64 y1,.int .i64 y2] 40))).bl hc3;replace E3:=(zh (E3.out.alloc (.cells #[.int .i64 y1,.int .i64 y2] 40))).bl hc3;replace E:=(zh (E.out.alloc (.cells #[.int .i64 y1,.int .i64 y2] 40))).bl hc3;replace HN:=zh (Bt HN.out hc3);clear hc3 hnx hc1 hc2;have cE:=E.out.cell;have fE:=E.out.free;have lE:=E.out.lt;cases bk
   ·go_wp2_with fail
    have hn:=HN.out;have r1:ah (w1.setCell ⟨bx+1+1,0,none⟩ (.int .i64 30)) bx #[.int .i64 0,.int .i64 0] 40:=ah.setOther R.out _ (by simp;omega);have r2:ah (w1.setCell ⟨bx+1+1,0,none⟩ (.int .i64 30)) (bx+1) #[.int .i64 0] 43:=ah.setOther E3.out _ zi;have r3:ah (w1.setCell ⟨bx+1+1,0,none⟩ (.int .i64 30)) (bx+1+1) #[.int .i64 30] 43:=ah.set E.out 0 _;have hn2:Below w.heap.size w (w1.setCell ⟨bx+1+1,0,none⟩ (.int .i64 30)):=hn.setCell (p:=⟨bx+1+1,0,none⟩) (by simp;omega) _;generalize w1.setCell ⟨bx+1+1,0,none⟩ (.int .i64 30)=w2 at *;clear R E3 E cE fE lE;have c1:=r1.cell;have c2:=r2.cell;have c3:=r3.cell;have f1:=r1.free;have f2:=r2.free;have l1:=r1.lt;have l2:=r2.lt;have l3:=r3.lt;go_region
    go_wp2_with fail
    rw [Exit.noGoto_ret];have g1:ah (((w2.setCell ⟨bx,0,none⟩ (.int .i64 0)).setCell ⟨bx,1,none⟩ (.int .i64 0)).setCell ⟨bx+1,0,none⟩ (.int .i64 30)).drew bx #[.int .i64 0,.int .i64 0] 40:=ah.drew (ah.setOther ((r1.set 0 _).set 1 _) _ zi);have g2:ah (((w2.setCell ⟨bx,0,none⟩ (.int .i64 0)).setCell ⟨bx,1,none⟩ (.int .i64 0)).setCell ⟨bx+1,0,none⟩ (.int .i64 30)).drew (bx+1) #[.int .i64 30] 43:=ah.drew (ah.set (ah.setOther (ah.setOther r2 _ zi) _ zi) 0 _);have hW:=(((hn2.setCell (p:=⟨bx,0,none⟩) (by simp;omega) (.int .i64 0)).setCell (p:=⟨bx,1,none⟩) (by simp;omega) (.int .i64 0)).setCell (p:=⟨bx+1,0,none⟩) (by simp;omega) (.int .i64 30)).drew;generalize (((w2.setCell ⟨bx,0,none⟩ (.int .i64 0)).setCell ⟨bx,1,none⟩ (.int .i64 0)).setCell ⟨bx+1,0,none⟩ (.int .i64 30)).drew=w3 at *;have h1:=g1.cell 0;have h2:=g1.cell 1;have h3:=g2.cell 0
    exact bodyPost_ret (v:=.tuple #[.agg #[.int .i64 0,.int .i64 0],.int .i64 30]) (by simp [results,Tryz.results71,go_sem,h1,h2,h3]) rfl ⟨rfl,hW⟩
   ·go_wp2_with fail
    go_roundw
    case rel =>
     have hn:=HN.out;rw [eb] at hn;have r:=R.out;have e3:=E3.out;have e4:=E.out;rw [eb];refine ⟨k+1,by rw [hw1],by omega,aD,zh aJ,zh aJ,zh (e4.set 0 _),zh fun j hj hjk=>?_⟩
     rcases Nat.lt_or_ge j k with h|h
     ·exact HK.out j hj h
     ·obtain rfl:j=k:=by omega
      rw [XL.out,HE2.out];exact HEK.out
    case measure =>
     rw [hw1];simp only [intOf,Int.toNat_natCast];omega
  ·obtain rfl:k=bs.length:=by omega
   have hyes:okB bs=true:=by
    unfold okB;rw [List.all_eq_true];intro x hx;obtain ⟨j,hj,rfl⟩:=List.getElem_of_mem hx;exact HK.out j hj hj
   rw [HOK.out] at hyes;cases hyes
theorem ap3 (v:Value) (T:TypeId) (bs:List (Int × Int)) (w:World) (hv:zK w T v bs) (ht:iR.Pow w) (he:Er w) :
  Calls Tryz.prog 71 #[v] w (fun e w'=>e= .returned (aY (ak0 bs))∧Below w.heap.size w w'):=by
 obtain ⟨a,cap,rfl, -⟩:=hv.read;unfold ak0
 by_cases h0:bs.length=0
 ·rw [if_pos h0];exact OD a _ cap 2 (Or.inl ⟨h0,rfl⟩) w
 ·rw [if_neg h0]
  by_cases h8:8<bs.length
  ·rw [if_pos h8];exact OD a _ cap 3 (Or.inr ⟨h8,rfl⟩) w
  ·rw [if_neg h8];cases hk:okB bs
   ·rw [if_pos rfl];exact ae3 a cap T bs zo zo hk w hv
   ·rw [if_neg zi];exact Xx a cap T bs zo zo hk w hv ht he
end Go.Proofs.power
namespace Go.Proofs.power
open Go Go.RowKit Go.SW Go.Num Go.Mem Go.Proofs Go.Proofs.aW
end Go.Proofs.power
namespace Go.fF
theorem zK.nil {w:Go.World} {T:Go.TypeId}:zK w T (.slice none 0 0) []:=⟨none,0,rfl,Nat.le_refl _,by omega,fun _ h=>by cases h⟩
end Go.fF
namespace Go.Proofs.power
open Go Go.RowKit Go.SW Go.Num Go.Mem Go.Proofs Go.fF Go.Proofs.aW
end Go.Proofs.power
