/- Lemmas for the proof. No condition. -/
import Derived.Test.YtbngfhgoeoncmaaGreatDoorTB14
set_option linter.unusedVariables false
set_option linter.unusedSimpArgs false
set_option maxRecDepth 100000
set_option maxHeartbeats 16000000
open Bool renaming and_eq_true → aD
open Nat renaming le_refl → aG
namespace Go.Fx
open Go Go.RowKit Go.SW Go.Num Go.Mem Go.Proofs
section
variable {P:Program} {n:Nat} {R:Post} {w0:World} {p:Pos} {S:Sl} {L:Mm} {ops:Array Oper} {k:List Kt}
theorem LJ {dA:World→World→Prop} {Q:Exit→Act→World→Prop} {a:Act} {w:World} (is:List (K × Nat)) (hZ:Bv.Ug w.heap.size dA) (hc:Jk ops is=true) (hal:pR P ops is)
  (hQ:∀ c (a s:Act) w,s.defers=a.defers→Q (.panic c) a w→Q (.panic c) s w)
  (h:Bv.walk dA P ops Q w.heap.size is [] a w):YO P ops Q a w:=⟨fun t=>by
 unfold Jk at hc;simp only [aD,decide_eq_true_eq] at hc;obtain ⟨⟨⟨⟨⟨h1,h2⟩,h3⟩,h4⟩,h5⟩,h6⟩:=hc;unfold Region.linearise;refine wpAny_sound _ _ _ _ _ ?_;refine Bv.zw (dA:=dA) h1 (WA h2) hQ w.heap.size hZ ops.size is [] [] [] _ a a w ?_ ?_ h3 h4 zi zi hal ?_ h
 ·rw [oI];exact h5
 ·refine ⟨by simp,fun i hi=>?_,fun j o hj hl=>?_,rfl,rfl,fun t _ _=>rfl,by simp,by simp,by simp,by simp⟩
  ·have hmem:i∈is.map (·.2):=by simpa using List.all_eq_true.1 h6 i (List.mem_range.2 hi)
   simp [hi]
   simpa using hmem
  ·have hj':=(Array.getElem?_eq_some_iff.1 hj).1;simp [hj'] at hl
 ·exact ⟨by simp,by simp,by simp,by simp,aG _⟩⟩
structure GD (P:Program) (n:Nat) (R:Post) (w0:World) (ops:Array Oper) (S:Sl) (L:Mm):Prop where
 out:∀ w,Mem w0 [] L w→∀ a,sK n S a→YO P ops (lift n R) a w
theorem Ll (x y:Nat) (hxy:x≠y) (h1:GD P n R w0 (lK x y ops) S L) (h2:GD P n R w0 (lK y x ops) S L):GD P n R w0 ops S L :=
 ⟨fun w hM a ha=>R3 x y hxy (h1.out w hM a ha) (h2.out w hM a ha)⟩
theorem zO (l:List Nat) (hc:G P n R w0 [] (.rZ ops [] (plan P ops l) [] []) S L) (hd:Jk ops (plan P ops l)=true:=by kernel_rfl) (hq:(plan P ops l).map (probe P ops)=(plan P ops l).map want:=by kernel_rfl):GD P n R w0 ops S L :=
 ⟨fun w hM a ha=>LJ (plan P ops l) (lax (H:=[]) zi) hd (qD hq) (fun c a s w hs h=>zN c a s w hs h)
  (hc.out w w.heap.size [] hM ⟨fun _=>hM.AY.size,fun _ j x hx=>.inl (hM.all j x hx).lt,by simp,rfl,by simp⟩ a ha)⟩
theorem AL.refl (S:Sl):∀ i v,look S i=some v→look S i=some v:=fun _ _ h=>h
theorem AL.cons {S' S:Sl} {d:Nat} {u:Value} (h:∀ i v,look S' i=some v→look S i=some v):∀ i v,look ((d,u)::S') i=some v→look ((d,u)::S) i=some v:=kT h d u
theorem AL.skip {S' S:Sl} {d:Nat} {u:Value} (h:∀ i v,look S' i=some v→look S i=some v) (hn:look S' d=none):∀ i v,look S' i=some v→look ((d,u)::S) i=some v:=fun i v hv=>by
 rw [nE];cases hb:Nat.beq i d with
 | true=>rw [Nat.eq_of_beq_eq_true hb,hn] at hv;cases hv
 | false=>simp only [cond_false,hb];exact h i v hv
def ah4 {ι:Type} (A:ι→Sl) (B:ι→Mm) (w0:World) (S0:Sl) (L0:Mm):Post:=fun e S' w'=>e= .normal∧∃ x,(∀ i v,look (A x++S0) i=some v→look S' i=some v)∧Mem w0 [] (L0++B x) w'
theorem ad5 {ι:Type} (m:Nat) (hs:List Nat) (St:Sl) (U:List (Nat × Array Value)) (A:ι→Sl) (B:ι→Mm) {id:Nat} {c:Code} (hq:(tr m hs p).2= .code (.region id ops true) (.seq c::k))
  (h1:GD P n (ah4 A B w0 (St++S) (upd L U)) w0 ops (St++S) (upd L U))
  (h2:∀ x,G P n R w0 [] (.code c k) (A x++(St++S)) (upd L U++B x))
  (hm:P.follows .mixedOrders=true:=by kernel_rfl) (h:AZ P n w0 (tr m hs p).1 S L St (upd L U):=by intro _;kernel_rfl):G P n R w0 [] p S L:=by
 refine go hs St _ h (by rw [hq];rfl) ?_;rw [hq];refine ⟨fun w N H hM _ a ha=>?_⟩;refine wp_mono (V8 hm (h1.out w.drew (hM.later (Below.drew (Below.refl _ _))) a ha)) fun e a' w' hq'=>?_;cases e with
 | normal =>
  obtain ⟨S',hs', -, x,hl,hM'⟩:=hq';exact ⟨S',hs',fun a2 ha2=>(h2 x).out w' 0 [] hM' trivial a2 (ha2.of hl)⟩
 | panic ch=>obtain ⟨-, S',he, -⟩:=hq';cases he
 | exit id=>obtain ⟨S', -, he, -⟩:=hq';cases he
 | goto id=>obtain ⟨S', -, he, -⟩:=hq';cases he
 | ret=>obtain ⟨S', -, he, -⟩:=hq';cases he
 | outgrown=>obtain ⟨S', -, he, -⟩:=hq';cases he
theorem qw {ι:Type} (hs:List Nat) (U:List (Nat × Array Value)) (x:ι) {A:ι→Sl} {B:ι→Mm} {S0:Sl} {L0:Mm} (hS:∀ i v,look (A x++S0) i=some v→look S i=some v)
  (h:AZ P n w0 (tr 4000 hs p).1 S L [] (upd L U):=by intro _;kernel_rfl) (hL:upd L U=L0++B x:=by kernel_rfl) (hq:(tr 4000 hs p).2= .nx .normal []:=by kernel_rfl):G P n (ah4 A B w0 S0 L0) w0 [] p S L:=by
 refine Rh hs [] _ h ?_;rw [hq,hL];exact ⟨fun w N H hM _=>⟨rfl,x,fun i v hv=>h.sub i v (hS i v hv),hM⟩⟩
end
end Go.Fx
