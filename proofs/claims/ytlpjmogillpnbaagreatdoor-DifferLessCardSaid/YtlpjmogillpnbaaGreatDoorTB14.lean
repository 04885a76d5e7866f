/- Lemmas for the proof. No condition. -/
import Derived.Test.YtlpjmogillpnbaaGreatDoorTB13
import Derived.MapKept
set_option linter.unusedVariables false
set_option linter.unusedSimpArgs false
set_option maxRecDepth 100000
set_option maxHeartbeats 16000000
open Array renaming getElem?_eq_none → bG
open Bool renaming and_eq_true → aF, false_eq_true → bW
open Go.IntKind renaming i64 → I
open Go.Value renaming agg → au, int → Z, pointer → aA, tuple → aD
open List renaming cons_append → cZ, length_cons → aZ, range → bO
open Nat renaming div_eq_of_lt → dS, le_refl → aI, lt_of_le_of_lt → gB, lt_or_ge → aO, mod_eq_of_lt → eZ, mod_lt → dV, strongRecOn → fF, zero_add → dw
open Prod.mk renaming injEq → ig
namespace Go.SW
open Go Go.RowKit
variable {P:Program} {ops:Array Oper} {Q:Exit→Act→World→Prop}
def EU (x y:Nat):Nat→List Oper→List Oper
 | _,[]=>[]
 | k,o::l=>(match k.beq y with
  | true=>⟨o.dst,o.op,o.type,o.pos,o.after.push ⟨x,.chain⟩,o.guard⟩
  | false=>o)::EU x y (k+1) l
def gU (x y:Nat) (ops:Array Oper):Array Oper:=(EU x y 0 ops.toList).toArray
def wait (x:Nat) (o:Oper):Oper:=⟨o.dst,o.op,o.type,o.pos,o.after.push ⟨x,.chain⟩,o.guard⟩
theorem ET (x y:Nat):∀ (l:List Oper) (k i:Nat),(EU x y k l)[i]? =(l[i]?).map fun o=>if k+i=y then wait x o else o
 | [],_,_=>by simp [EU]
 | o::l,k,0=>by
  unfold EU;rw [List.getElem?_cons_zero,List.getElem?_cons_zero];cases h:k.beq y with
  | true=>rw [Nat.eq_of_beq_eq_true h];simp [wait]
  | false =>
   have:=Nat.ne_of_beq_eq_false h;simp [this]
 | o::l,k,i+1=>by
  unfold EU;rw [List.getElem?_cons_succ,List.getElem?_cons_succ,ET x y l (k+1) i];have:k+1+i=k+(i+1):=by omega
  rw [this]
theorem oz (x y i:Nat) (ops:Array Oper):(gU x y ops)[i]? =(ops[i]?).map fun o=>if i=y then wait x o else o:=by
 unfold gU;rw [List.getElem?_toArray,ET,dw,Array.getElem?_toList]
theorem vR (x y:Nat):∀ (l:List Oper) (k:Nat),(EU x y k l).length=l.length
 | [],_=>rfl
 | o::l,k=>by unfold EU;rw [aZ,aZ,vR x y l]
theorem Aw (x y:Nat) (ops:Array Oper):(gU x y ops).size=ops.size:=by
 unfold gU;rw [List.size_toArray,vR,Array.length_toList]
theorem pQ (x y:Nat) (tmps:Array Value) (g:Nat):yielded (gU x y ops) tmps g=yielded ops tmps g:=by
 unfold yielded;rw [oz];cases ops[g]? with
 | none=>rfl
 | some o =>
  have e:(if g=y then wait x o else o).dst=o.dst:=by split<;>rfl
  simp only [Option.map_some,Option.bind_some,e]
theorem sw (x y:Nat):∀ (l:List Nat) (a:Act) (w:World),wpOps P (gU x y ops) Q l a w→wpOps P ops Q l a w
 | [],_,_,h=>h
 | i::l,a,w,h=>by
  have ih:=sw x y l;unfold wpOps at h ⊢;rw [oz] at h;have hy:yielded (gU x y ops) a.tmps=yielded ops a.tmps:=funext fun g=>pQ x y _ g;rw [hy] at h;cases ho:ops[i]? with
  | none =>
   simp only [ho,Option.map_none] at h ⊢;exact ih _ _ h
  | some o =>
   simp only [ho,Option.map_some] at h ⊢
   by_cases hi:i=y
   ·simp only [hi,if_true] at h;have e1:Region.wanted (wait x o) (yielded ops a.tmps)=Region.wanted o (yielded ops a.tmps):=rfl;rw [e1] at h;split
    ·rename_i hw;simp only [hw,if_true] at h
     rcases h with h|h
     ·exact .inl (Oper.wp_mono ih h)
     ·exact .inr h
    ·rename_i hw;simp only [hw,if_false,bW] at h;exact ih _ _ h
   ·simp only [hi,if_false] at h;split
    ·rename_i hw;simp only [hw,if_true] at h
     rcases h with h|h
     ·exact .inl (Oper.wp_mono ih h)
     ·exact .inr h
    ·rename_i hw;simp only [hw,if_false,bW] at h;exact ih _ _ h
theorem qg {x y i:Nat} {listed:Array Bool} (h:i∈Region.ready .any ops listed) (hy:i=y→listed.getD x false=true):i∈Region.ready .any (gU x y ops) listed:=by
 obtain ⟨h1,o,h2,h3⟩:=mem_ready.1 h;refine mem_ready.2 ⟨h1,_,by rw [oz,h2];rfl,fun e he hb=>?_⟩;split at he
 ·rename_i hi
  rcases Array.mem_push.1 he with he|he
  ·exact h3 e he hb
  ·rw [he];exact hy hi
 ·exact h3 e he hb
theorem CJ {x y i:Nat} {listed:Array Bool} (h:i∈Region.ready .any (gU x y ops) listed):i∈Region.ready .any ops listed:=by
 obtain ⟨h1,o',h2,h3⟩:=mem_ready.1 h;rw [oz] at h2;cases ho:ops[i]? with
 | none=>rw [ho] at h2;cases h2
 | some o =>
  rw [ho,Option.map_some,Option.some.injEq] at h2;refine mem_ready.2 ⟨h1,o,ho,fun e he hb=>h3 e ?_ hb⟩;rw [← h2];split
  ·exact Array.mem_push.2 (.inl he)
  ·exact he
theorem tY {i fuel:Nat} {listed:Array Bool} (h:i∈Region.ready .any ops listed) (t:Nat) :
  ∃ t',Region.linearise.go .any ops (fuel+1) t' listed []=i::Region.linearise.go .any ops fuel t (listed.setIfInBounds i true) []:=by
 obtain ⟨k,hk,hi⟩:=List.getElem_of_mem h;refine ⟨k+(Region.ready .any ops listed).length*t,?_⟩;simp only [Region.linearise.go]
 change (match (Region.ready .any ops listed)[(k+(Region.ready .any ops listed).length*t)%(Region.ready .any ops listed).length]? with
   | some i=>Region.linearise.go .any ops fuel ((k+(Region.ready .any ops listed).length*t) / (Region.ready .any ops listed).length) (listed.setIfInBounds i true) [i]
   | none=>[].reverse)=_
 have e1:(k+(Region.ready .any ops listed).length*t)%(Region.ready .any ops listed).length=k:=by
  rw [Nat.add_mul_mod_self_left,eZ hk]
 have e2:(k+(Region.ready .any ops listed).length*t) / (Region.ready .any ops listed).length=t:=by
  rw [Nat.add_mul_div_left _ _ (gB (Nat.zero_le _) hk),dS hk,dw]
 rw [e1,e2,List.getElem?_eq_getElem hk,hi];simp only [];rw [linearise_go_acc,List.reverse_singleton,List.singleton_append]
theorem go_step (fuel t:Nat) (listed:Array Bool) :
  (Region.ready .any ops listed=[]∧Region.linearise.go .any ops (fuel+1) t listed []=[]) ∨
  ∃ i∈Region.ready .any ops listed,∃ t',Region.linearise.go .any ops (fuel+1) t listed []=i::Region.linearise.go .any ops fuel t' (listed.setIfInBounds i true) []:=by
 simp only [Region.linearise.go]
 change (_∧(match (Region.ready .any ops listed)[t%(Region.ready .any ops listed).length]? with
   | some i=>Region.linearise.go .any ops fuel (t / (Region.ready .any ops listed).length) (listed.setIfInBounds i true) [i]
   | none=>[].reverse)=[])∨∃ i∈Region.ready .any ops listed,∃ t',(match (Region.ready .any ops listed)[t%(Region.ready .any ops listed).length]? with
   | some i=>Region.linearise.go .any ops fuel (t / (Region.ready .any ops listed).length) (listed.setIfInBounds i true) [i]
   | none=>[].reverse)=_
 cases hi:(Region.ready .any ops listed)[t%(Region.ready .any ops listed).length]? with
 | none =>
  left
  refine ⟨?_,rfl⟩;cases hr:Region.ready .any ops listed with
  | nil=>rfl
  | cons x xs =>
   rw [hr] at hi;have hlt:t%(x::xs).length<(x::xs).length:=dV _ zi;simp at hi
   simp at hlt
   omega
 | some i =>
  right
  refine ⟨i,List.mem_of_getElem? hi,t / (Region.ready .any ops listed).length,?_⟩;simp only [];rw [linearise_go_acc,List.reverse_singleton,List.singleton_append]
theorem DJ {fuel t:Nat} {listed:Array Bool} (h:Region.ready .any ops listed=[]):Region.linearise.go .any ops (fuel+1) t listed []=[]:=by
 rcases go_step (ops:=ops) fuel t listed with ⟨-, h2⟩|⟨i,hi, -⟩
 ·exact h2
 ·rw [h] at hi;cases hi
theorem uY {x y:Nat}:∀ (fuel t:Nat) (listed:Array Bool),listed.getD x false=true→∃ t',Region.linearise.go .any ops fuel t listed []=Region.linearise.go .any (gU x y ops) fuel t' listed []
 | 0,t,listed,_=>⟨t,rfl⟩
 | fuel+1,t,listed,hx=>by
  rcases go_step (ops:=ops) fuel t listed with ⟨h1,h2⟩|⟨i,hi,t',h⟩
  ·refine ⟨0,?_⟩;rw [h2,DJ];cases hr:Region.ready .any (gU x y ops) listed with
   | nil=>rfl
   | cons i l =>
    have:=CJ (x:=x) (y:=y) (i:=i) (by rw [hr];exact List.mem_cons_self);rw [h1] at this;cases this
  ·obtain ⟨t2,h2⟩:=uY fuel t' (listed.setIfInBounds i true) (getD_set_true hx);obtain ⟨t3,h3⟩:=tY (fuel:=fuel) (qg (y:=y) hi fun _=>hx) t2;exact ⟨t3,by rw [h,h2,h3]⟩
theorem NG {x y:Nat} (hxy:x≠y):∀ (fuel t:Nat) (listed:Array Bool),
  (∃ t',Region.linearise.go .any ops fuel t listed []=Region.linearise.go .any (gU x y ops) fuel t' listed []) ∨
  (∃ t',Region.linearise.go .any ops fuel t listed []=Region.linearise.go .any (gU y x ops) fuel t' listed [])
 | 0,t,listed=>.inl ⟨t,rfl⟩
 | fuel+1,t,listed=>by
  rcases go_step (ops:=ops) fuel t listed with ⟨h1,h2⟩|⟨i,hi,t',h⟩
  ·refine .inl ⟨0,?_⟩;rw [h2,DJ];cases hr:Region.ready .any (gU x y ops) listed with
   | nil=>rfl
   | cons i l =>
    have:=CJ (x:=x) (y:=y) (i:=i) (by rw [hr];exact List.mem_cons_self);rw [h1] at this;cases this
  ·have hset:∀ j,i=j→(listed.setIfInBounds i true).getD j false=true:=fun j hj=>by
    subst hj;have:=(mem_ready.1 hi).1
    rcases aO i listed.size with h'|h'
    ·simp [h']
    ·simp [bG h'] at this
   by_cases hix:i=x
   ·obtain ⟨t2,h2⟩:=uY (ops:=ops) (x:=x) (y:=y) fuel t' _ (hset x hix);obtain ⟨t3,h3⟩:=tY (fuel:=fuel) (qg (x:=x) (y:=y) hi fun e=>absurd (hix.symm.trans e) hxy) t2;exact .inl ⟨t3,by rw [h,h2,h3]⟩
   ·by_cases hiy:i=y
    ·obtain ⟨t2,h2⟩:=uY (ops:=ops) (x:=y) (y:=x) fuel t' _ (hset y hiy);obtain ⟨t3,h3⟩:=tY (fuel:=fuel) (qg (x:=y) (y:=x) hi fun e=>absurd e hix) t2;exact .inr ⟨t3,by rw [h,h2,h3]⟩
    ·rcases NG hxy fuel t' (listed.setIfInBounds i true) with ⟨t2,h2⟩|⟨t2,h2⟩
     ·obtain ⟨t3,h3⟩:=tY (fuel:=fuel) (qg (x:=x) (y:=y) hi fun e=>absurd e hiy) t2;exact .inl ⟨t3,by rw [h,h2,h3]⟩
     ·obtain ⟨t3,h3⟩:=tY (fuel:=fuel) (qg (x:=y) (y:=x) hi fun e=>absurd e hix) t2;exact .inr ⟨t3,by rw [h,h2,h3]⟩
structure Vg (P:Program) (ops:Array Oper) (Q:Exit→Act→World→Prop) (a:Act) (w:World):Prop where
 out:∀ t,wpOps P ops Q (Region.linearise .any ops t) a w
theorem FK {id:Nat} {a:Act} {w:World} (hm:P.follows .mixedOrders=true) (h:Vg P ops Q a w.drew):(Code.region id ops true).wp P Q a w :=
 wp_region_draw fun t=>by
  simp only [Region.schedule,hm,Bool.true_or,if_true];exact h.out t
theorem sS {a:Act} {w:World} (x y:Nat) (hxy:x≠y) (h1:Vg P (gU x y ops) Q a w) (h2:Vg P (gU y x ops) Q a w):Vg P ops Q a w:=⟨fun t=>by
 unfold Region.linearise
 rcases NG (ops:=ops) hxy ops.size t (Array.replicate ops.size false) with ⟨t',h⟩|⟨t',h⟩
 ·rw [h];have:=h1.out t';unfold Region.linearise at this;rw [Aw] at this;exact sw x y _ _ _ this
 ·rw [h];have:=h2.out t';unfold Region.linearise at this;rw [Aw] at this;exact sw y x _ _ _ this⟩
def uT (l:List Nat) (ops:Array Oper):Bool:=(bO ops.size).all fun i=>match ops[i]? with
 | some o=>o.after.all (fun e=> !Region.binds .any e || (decide (l.idxOf e.on<l.idxOf i)&&decide (e.on<ops.size)))
 | none=>true
theorem Nh {l:List Nat} (ho:uT l ops=true):ZP ops:=fun listed hsz hr i hi=>by
 have key:∀ n i,l.idxOf i=n→i<ops.size→listed.getD i true=true:=by
  intro n
  induction n using fF with
  | _ n ih =>
   intro i hn hi;cases hl:listed.getD i true with
   | true=>rfl
   | false =>
    exfalso
    have ho':ops[i]? =some ops[i]:=by simp [hi]
    have hmem:i∈Region.ready .any ops listed:=mem_ready.2 ⟨hl,ops[i],ho',fun e he hb=>by
     unfold uT at ho;have h1:=List.all_eq_true.1 ho i (List.mem_range.2 hi);simp only [ho'] at h1;have h2:=Array.all_eq_true_iff_forall_mem.1 h1 e he;simp only [hb,Bool.not_true,Bool.false_or,aF,decide_eq_true_eq] at h2;have h3:=ih _ zo e.on rfl h2.2;have:e.on<listed.size:=by omega
     simpa [this] using h3⟩
    rw [hr] at hmem;cases hmem
 exact key _ i rfl hi
def yO (ops:Array Oper) (is:List (K × Nat)):Bool :=
 Region.noSelect ops&&uT (is.map (·.2)) ops&&iU ops is&&decide (is.map (·.2)).Nodup&&decide (is.length≤ops.size)&&(bO ops.size).all (fun i=>(is.map (·.2)).contains i)
theorem nW {a:Act} {w:World} (is:List (K × Nat)) (hc:yO ops is=true) (hal:mJ P ops is)
  (hQ:∀ c (a s:Act) w,s.defers=a.defers→Q (.panic c) a w→Q (.panic c) s w)
  (h:walk P ops Q w.heap.size is [] a w):Vg P ops Q a w:=⟨fun t=>by
 unfold yO at hc;simp only [aF,decide_eq_true_eq] at hc;obtain ⟨⟨⟨⟨⟨h1,h2⟩,h3⟩,h4⟩,h5⟩,h6⟩:=hc;unfold Region.linearise;refine wpAny_sound _ _ _ _ _ ?_;refine zu.rW (bZ:=fun w w'=>Below w.heap.size w w') h1 (Nh h2) hQ w.heap.size XJ ops.size is [] [] [] _ a a w ?_ ?_ h3 h4 zi zi hal ?_ (ko _ _ _ _ h)
 ·rw [kX];exact h5
 ·refine ⟨by simp,fun i hi=>?_,fun j o hj hl=>?_,rfl,rfl,fun t _ _=>rfl,by simp,by simp,by simp,by simp⟩
  ·have hmem:i∈is.map (·.2):=by simpa using List.all_eq_true.1 h6 i (List.mem_range.2 hi)
   simp [hi]
   simpa using hmem
  ·have hj':=(Array.getElem?_eq_some_iff.1 hj).1;simp [hj'] at hl
 ·exact ⟨by simp,by simp,by simp,by simp,aI _⟩⟩
end Go.SW
namespace Go.SW
open Go Go.RowKit
variable {P:Program} {ops:Array Oper} {Q:Exit→Act→World→Prop}
theorem Av {x y i:Nat} {o:Oper} (h:ops[i]? =some o):∃ o',(gU x y ops)[i]? =some o'∧o'.dst=o.dst∧o'.op=o.op∧o'.guard=o.guard∧(∀ (a:Act) (w:World) K R,o.wp P a w K R→o'.wp P a w K R)∧(∀ f,Region.wanted o' f=Region.wanted o f)∧(∀ ρ,execOp ρ o'=execOp ρ o)∧∀ (a:Act) (w:World),Oper.asks P o a w→Oper.asks P o' a w:=by
 refine ⟨_,by rw [oz,h];rfl,?_,?_,?_,?_,?_,?_,?_⟩
 all_goals split<;>first|rfl|exact fun _ _ _ _ h=>h|exact fun _=>rfl|exact fun _ _ h=>h
theorem vS (x y:Nat):∀ (l:List Nat) (a:Act) (w:World),wpOps P ops Q l a w→wpOps P (gU x y ops) Q l a w
 | [],_,_,h=>h
 | i::l,a,w,h=>by
  have ih:=vS x y l;unfold wpOps at h ⊢;have hy:yielded (gU x y ops) a.tmps=yielded ops a.tmps:=funext fun g=>pQ x y _ g;rw [hy];cases ho:ops[i]? with
  | none =>
   rw [oz,ho,Option.map_none];simp only [ho] at h ⊢;exact ih _ _ h
  | some o =>
   obtain ⟨o',h1,h2,h3,h4,h5,h6,h7,h8⟩:=Av (P:=P) (x:=x) (y:=y) ho;rw [h1];simp only [ho,h6,h2] at h ⊢;split at h
   ·rename_i hw;rw [if_pos hw]
    rcases h with h|h
    ·exact .inl (h5 _ _ _ _ (Oper.wp_mono ih h))
    ·exact .inr ⟨h8 _ _ h.1,h.2⟩
   ·rename_i hw;rw [if_neg hw];exact ih _ _ h
theorem iQ (x y N:Nat):∀ (is:List (K × Nat)) (A:List Nat) (a:Act) (w:World),walk P ops Q N is A a w→walk P (gU x y ops) Q N is A a w
 | [],_,_,_,h=>h
 | (k,i)::is,A,a,w,h=>by
  have ih:=iQ x y N is;unfold walk at h ⊢;have hy:yielded (gU x y ops) a.tmps=yielded ops a.tmps:=funext fun g=>pQ x y _ g;rw [hy];cases ho:ops[i]? with
  | none=>rw [ho] at h;exact h.elim
  | some o =>
   obtain ⟨o',h1,h2,h3,h4,h5,h6,h7,h8⟩:=Av (P:=P) (x:=x) (y:=y) ho;rw [ho] at h;rw [h1];cases k with
   | pure =>
    simp only [h6,h7,h2] at h ⊢;split at h
    ·rename_i hw;rw [if_pos hw];obtain ⟨v,k1,k2⟩:=h;exact ⟨v,k1,ih _ _ _ k2⟩
    ·rename_i hw;rw [if_neg hw];exact ih _ _ _ h
   | read =>
    simp only [h6,h7,h2] at h ⊢;split at h
    ·rename_i hw;rw [if_pos hw];obtain ⟨v,k1,k2⟩:=h;exact ⟨v,k1,ih _ _ _ k2⟩
    ·rename_i hw;rw [if_neg hw];exact ih _ _ _ h
   | alloc cs T =>
    simp only [h2] at h ⊢;exact fun b w' k1 k2 k3 k4 k5=>ih _ _ _ (h b w' k1 k2 k3 k4 k5)
   | ext =>
    simp only [h6,h2] at h ⊢;split at h
    ·rename_i hw;rw [if_pos hw];exact fun w' k1=>h5 _ _ _ _ (Oper.wp_mono (fun a' w'' k=>⟨k.1,ih _ _ _ k.2⟩) (h w' k1))
    ·rename_i hw;rw [if_neg hw];exact ih _ _ _ h
   | fin =>
    exact fun w' k1=>vS x y _ _ _ (h w' k1)
inductive St|one (k:K) (i:Nat)|two (i j:Nat)
def orders:List St→List (List (K × Nat))
 | []=>[[]]
 | .one k i::l=>(orders l).map ((k,i):: ·)
 | .two i j::l=>(orders l).map (fun m=>(.ext,i)::(.ext,j)::m)++(orders l).map (fun m=>(.ext,j)::(.ext,i)::m)
variable {o:Oper} {i:Nat} {is:List St} {a:Act} {w:World} {N:Nat} {A:List Nat}
end Go.SW
namespace Go.Fx
open Go Go.RowKit Go.SW Go.Num Go.Mem Go.Proofs
section
variable {P:Program} {n:Nat} {R:Post} {w0:World} {H0:List Nat} {p:Pos} {S:Sl} {L:Mm}
theorem xJ {w:World} {tmps:Array Value} {fn:Func} {p q:Tmp} {ty pR t t2:TypeId} {g g2:Nat} {cs cs2:Array Value} {d d2:TypeDesc} (h:fn.results=#[.cell p ty,.cell q pR])
  (hp:tmps.getD p undef= aA (some ⟨g,0,none⟩)) (hg:aC w g cs t) (hu:P.underlying ty=some d) (hd:BD d=true) (hi:(P.info? ty).map (·.size)=some cs.size)
  (hp2:tmps.getD q undef= aA (some ⟨g2,0,none⟩)) (hg2:aC w g2 cs2 t2) (hu2:P.underlying pR=some d2) (hd2:BD d2=true) (hi2:(P.info? pR).map (·.size)=some cs2.size) :
  (results fn tmps).run P w= .ok (aD #[au cs,au cs2]) w:=by
 have e:(results fn tmps).run P w=((asAddr (tmps.getD p undef)).run P w).andThen fun a w₁=>((loadVar ty a).run P w₁).andThen fun v w₂=>((asAddr (tmps.getD q undef)).run P w₂).andThen fun a' w₃=>((loadVar pR a').run P w₃).andThen fun v' w₄=>.ok (aD #[v,v']) w₄:=by
  simp only [results,h];simp [Sem.run_bind,Result.andThen]
 rw [e,hp];simp only [asAddr,Sem.run_pure,Result.andThen_ok];rw [run_loadVar_row w g t ty cs (0,0) d hg hu (by cases d<;>exact hd) hi];simp only [Result.andThen_ok];rw [hp2];simp only [Sem.run_pure,Result.andThen_ok];rw [run_loadVar_row w g2 t2 pR cs2 (0,0) d2 hg2 hu2 (by cases d2<;>exact hd2) hi2];rfl
theorem RP (j b j2 b2:Nat) (hs:List Nat) (U:List (Nat × Array Value)) {fn:Func} {E:Ending→World→Prop} {t t2:Tmp} {ty pR:TypeId} {cs cs2:Array Value} (hE:∀ w,Mem w0 H0 (upd L U) w→E (.returned (.tuple #[.agg cs,.agg cs2])) w) (hr:fn.results=#[.cell t ty,.cell t2 pR]:=by rfl)
  (h:BS P n w0 (tr 4000 hs p).1 S L (upd L U):=by intro _;kernel_rfl) (hp:((tr 4000 hs p).2.yj,blk (upd L U) j,blk (upd L U) j2)=(true,some b,some b2):=by kernel_rfl) (hv:FJ P (rG P n w0 (tr 4000 hs p).1 S L) (upd L U) t j ty=some (some (.pointer (some ⟨b,0,none⟩)),cs,true,some cs.size):=by kernel_rfl) (hv2:FJ P (rG P n w0 (tr 4000 hs p).1 S L) (upd L U) t2 j2 pR=some (some (.pointer (some ⟨b2,0,none⟩)),cs2,true,some cs2.size):=by kernel_rfl):G P n (Ends P n fn E) w0 H0 p S L:=by
 simp only [Prod.mk.injEq] at hp;refine Sg hs _ h (nV hp.1 fun w hM a ha=>⟨.tuple #[.agg cs,.agg cs2],?_,hE w hM⟩);obtain ⟨d,T,a1,a2,a3,a4,a5⟩:=kT hM ha hp.2.1 hv;obtain ⟨d2,T2,c1,c2,c3,c4,c5⟩:=kT hM ha hp.2.2 hv2;rw [xJ hr a1 a2 a3 a4 a5 c1 c2 c3 c4 c5]
inductive Seg (P:Program) (n:Nat) (ops:Array Oper):List Nat→Sl→World→Sl→World→Prop
 | nil {S:Sl} {w:World}:Seg P n ops [] S w S w
 | cons {i:Nat} {is:List Nat} {o:Oper} {S S1 S2:Sl} {w w1 w2:World} {v:Value} (ho:ops[i]? =some o) (hf:(fit ops S o,Region.wanted o (yl ops S))=(true,true)) (hr:(execOp (ev S) o).run P w= .ok (.value v) w1) (hs:lD n S o.dst v=some S1)
   (h:Seg P n ops is S1 w1 S2 w2):Seg P n ops (i::is) S w S2 w2
 | skip {i:Nat} {is:List Nat} {o:Oper} {S S2:Sl} {w w1 w2:World} (ho:ops[i]? =some o) (hf:(fit ops S o,Region.wanted o (yl ops S))=(true,true)) (hr:(execOp (ev S) o).run P w= .ok .skip w1) (hd:o.dst=none)
   (h:Seg P n ops is S w1 S2 w2):Seg P n ops (i::is) S w S2 w2
theorem Seg.sound {ops:Array Oper} {is rest:List Nat} {S S2:Sl} {w w2:World} {k:List Kt} {N:Nat} {H:List Nat} (h:Seg P n ops is S w S2 w2) (hc:W P n R N H (.reg ops rest k) S2 w2):W P n R N H (.reg ops (is++rest) k) S w:=by
 induction h with
 | nil=>exact hc
 | cons ho hf hr hs _ ih =>
  simp only [ig] at hf;intro a ha;rw [cZ];unfold wpOps;simp only [ho,ha.wanted (kN hf.1)];rw [if_pos hf.2];refine .inl ?_;unfold Oper.wp;rw [ha.exec hf.1,hr];exact ih hc _ (ha.lD hs)
 | skip ho hf hr hd _ ih =>
  simp only [ig] at hf;intro a ha;rw [cZ];unfold wpOps;simp only [ho,ha.wanted (kN hf.1)];rw [if_pos hf.2];refine .inl ?_;unfold Oper.wp;rw [ha.exec hf.1,hr]
  show wpOps _ _ _ _ (Act.put _ _ _) _
  rw [hd];exact ih hc _ ha
theorem seg (hs:List Nat) (m:Nat) (St:Sl) (U:List (Nat × Array Value)) {ops:Array Oper} {is rest:List Nat} {k:List Kt} (hq:(tr m hs p).2= .reg ops (is++rest) k)
  (hc:∀ w,Mem w0 [] (upd L U) w→∃ S2 w2,Seg P n ops is (St++S) w S2 w2∧Below w.heap.size w w2∧(Mem w0 [] (upd L U) w2→G P n R w2 [] (.reg ops rest k) S2 (ro (upd L U))))
  (h:yZ P n w0 (tr m hs p).1 S L St (upd L U):=by intro _;kernel_rfl):G P n R w0 [] p S L:=by
 refine go hs St _ h (by rw [hq];rfl) ?_;rw [hq];refine ⟨fun w N H hM _=>?_⟩;obtain ⟨S2,w2,h1,h2,h3⟩:=hc w hM;have hM2:=hM.later h2;exact h1.sound ((h3 hM2).out w2 N H hM2.anew trivial)
end
section
variable {P:Program} {n:Nat} {fn:Func} {T:Int→Ending} {w0:World} {V:Value} {k:Int} {p:Pos} {S:Sl} {L:Mm}
theorem dI {wb:World} (hT:∀ k,∃ c,T k= .panicked c) (hs:List Nat) (d:Nat) (St:Sl) (U:List (Nat × Array Value)) {f:FuncId} {args:Array Value} {v:Value} {k1:Int} {A:Prop} (hC:∀ w,Mem w0 [] (upd L U) w→Calls P f args w (yR T w v k1)) (hB:∀ w,Mem w0 [] (upd L U) w→Below wb.heap.size wb w) (hn:(k1=0∧A)∨(k1≠0∧k=k1))
  (hc:k1=0→A→G P n (Ends P n fn (yR T wb V k)) w0 [] (tr 4000 hs p).2.past ((d,v)::(St++S)) (upd L U))
  (h:yZ P n w0 (tr 4000 hs p).1 S L St (upd L U):=by intro _;kernel_rfl) (hx:∀ w,nR P n w (rG P n w0 (tr 4000 hs p).1 S L) (tr 4000 hs p).2=some (d,f,args,w):=by intro _;kernel_rfl):G P n (Ends P n fn (yR T wb V k)) w0 [] p S L:=by
 refine O7 hs St _ h ?_;have hsub:=h.sub;have hh:=ou (hx w0);generalize rG P n w0 (tr 4000 hs p).1 S L=F at hx hsub ⊢;generalize (tr 4000 hs p).2=q at hc hx hh;generalize upd L U=L at hC hc hB;generalize St++S=S at hc hsub;obtain ⟨ops,o,hn',hf,hw,hd,hlt, -⟩:=iX (h:=hx w0);refine place hn' hf hw (Y:=fun N H w a a' w1=>a'=a.put (some d) v∧Below w.heap.size w w1∧k1=0∧A) (fun w N H hM hok a ha K hK ks=>?_) fun w N H hM hok a a' w' ha hy=>?_
 ·obtain ⟨ops',o',hn2, -, -, -, -, hr⟩:=iX (h:=hx w);rw [hn'] at hn2;cases hn2
  unfold Oper.wp;rw [ha.exec hf,hr];simp only [Oper.upon];refine (hC w hM).mono fun e w' he=>?_;obtain ⟨hb,⟨h1,rfl⟩|⟨h1,rfl⟩⟩:=he
  ·rw [hd]
   rcases hn with ⟨-, hA⟩|⟨h2, -⟩
   ·exact hK _ _ ⟨rfl,hb,h1,hA⟩
   ·exact absurd h1 h2
  ·obtain ⟨c,hc'⟩:=hT k1
   rcases hn with ⟨h2, -⟩|⟨h2,h3⟩
   ·exact absurd h2 h1
   ·rw [hc'];refine ⟨ha.defers,F,pG ?_ ks⟩
    show yR T wb V k (.panicked c) w'
    exact ⟨Bt (hB w hM) hb,.inr ⟨by rw [h3];exact h1,by rw [h3,hc']⟩⟩
 ·obtain ⟨rfl,h1,h2,h3⟩:=hy;exact ⟨fun _ _ _ _ _ _=>.of h1,_,ha.put hlt v,((hc h2 h3).of (kD hsub d v) hh).out w' N H (hM.later h1) (wI hok (fun _=>rfl) rfl)⟩
end
section
variable {P:Program}
theorem tL (w:World) (es:Array MapEntry) (c:Nat):(w.alloc (.map es c)).heap[w.heap.size]? =some (.map es c):=by
 show (w.heap.push (Obj.map es c))[w.heap.size]? =_
 simp
theorem map_set (w:World) (es es':Array MapEntry) (c c':Nat):{ w.alloc (.map es c) with heap:=(w.alloc (.map es c)).heap.setIfInBounds w.heap.size (.map es' c') }=w.alloc (.map es' c'):=by
 simp only [World.alloc]
 congr 1
 apply Array.ext'
 simp [Array.setIfInBounds,Array.toList_push]
theorem FD {T K E:TypeId} (hT:P.underlying T=some (.map K E)) (hK:P.underlying K=some (TypeDesc.int I)) (w:World) (es:Array MapEntry) (c:Nat) (κ:Int) (v:Value) (h:Instr.findNow (TypeDesc.int I) (Z I κ) es.toList 0=some none) :
  (Instr.mapUpdate T (.map (some w.heap.size)) (Z I κ) v).run P (w.alloc (.map es c))= .ok () (w.alloc (.map (es.push { key:=Z I κ,val:=v,born:=c }) (c+1))):=by
 have h1:=tL w es c;have h2:MapKept.IsKey (TypeDesc.int I) (Z I κ):=by simp [MapKept.IsKey]
 simp [Instr.mapUpdate,run_underlying hT,MapKept.run_getObj_map h1,MapKept.run_checkKey hK h2,MapKept.run_findKey hK h,MapKept.run_setObj_map _ h1,Result.andThen]
 exact map_set w es _ c _
theorem lZ {T K E:TypeId} (hT:P.underlying T=some (.map K E)) (hK:P.underlying K=some (TypeDesc.int I)) (w:World) (es:Array MapEntry) (c:Nat) (κ:Int) (v:Value) (h:Instr.findNow (TypeDesc.int I) (Z I κ) es.toList 0=some none) :
  Sem.run P (do Instr.mapUpdate T (.map (some w.heap.size)) (Z I κ) v;pure Next.skip) (w.alloc (.map es c))= .ok .skip (w.alloc (.map (es.push { key:=Z I κ,val:=v,born:=c }) (c+1))):=by
 rw [Sem.run_bind,FD hT hK w es c κ v h];rfl
theorem FC {T K E:TypeId} (hT:P.underlying T=some (.map K E)) (hK:P.underlying K=some (TypeDesc.int I)) {w:World} {b:Nat} {es:Array MapEntry} {c:Nat} (hw:w.heap[b]? =some (.map es c)) (κ:Int) (i:Nat) (v:Value) (h:Instr.findNow (TypeDesc.int I) (Z I κ) es.toList 0=some (some (i,v))) :
  (Instr.lookup T (.map (some b)) (Z I κ) false).run P w= .ok v w:=by
 have h2:MapKept.IsKey (TypeDesc.int I) (Z I κ):=by simp [MapKept.IsKey]
 simp [Instr.lookup,run_underlying hT,MapKept.run_getObj_map hw,MapKept.run_checkKey hK h2,MapKept.run_findKey hK h,Result.andThen]
theorem xK {T K E:TypeId} (hT:P.underlying T=some (.map K E)) (hK:P.underlying K=some (TypeDesc.int I)) {w:World} {b:Nat} {es:Array MapEntry} {c:Nat} (hw:w.heap[b]? =some (.map es c)) (κ:Int) (i:Nat) (v:Value) (h:Instr.findNow (TypeDesc.int I) (Z I κ) es.toList 0=some (some (i,v))) :
  Sem.run P (do let x ← Instr.lookup T (.map (some b)) (Z I κ) false;pure (Next.value x)) w= .ok (.value v) w:=by
 rw [Sem.run_bind,FC hT hK hw κ i v h];rfl
end
end Go.Fx
