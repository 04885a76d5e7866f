/- Lemmas for the proof. No condition. -/
import Derived.Test.YtneajphgfdlmhaaGreatDoorUB13
set_option linter.unusedVariables false
set_option linter.unusedSimpArgs false
set_option maxRecDepth 100000
set_option maxHeartbeats 16000000
open Array renaming getElem?_eq_none → dh
open Bool renaming and_eq_true → aG, false_eq_true → dG
open Go.Ending renaming returned → ah
open Go.IntKind renaming i64 → I
open Go.Value renaming agg → au, bool → ak, int → Z, pointer → aA, slice → aj, tuple → aD
open List renaming length_cons → bg, range → dF
open Nat renaming add_mul → dL, add_sub_cancel → dS, add_zero → fU, div_add_mod → dB, div_eq_of_lt → fQ, div_lt_iff_lt_mul → dz, le_refl → aC, le_trans → ay, lt_of_le_of_lt → gH, lt_of_lt_of_le → aI, lt_or_ge → aR, mod_eq_of_lt → gU, mod_lt → fI, mul_add → aZ, mul_assoc → dA, mul_comm → aL, mul_le_mul_left → aT, mul_le_mul_right → bf, pow_add → gG, pow_le_pow_right → bH, pow_succ → cZ, strongRecOn → gZ, zero_add → dJ
namespace Go.SW
open Go Go.RowKit
variable {P:Program} {ops:Array Oper} {Q:Exit→Act→World→Prop}
def Lh (x y:Nat):Nat→List Oper→List Oper
 | _,[]=>[]
 | k,o::l=>(match k.beq y with
  | true=>⟨o.dst,o.op,o.type,o.pos,o.after.push ⟨x,.chain⟩,o.guard⟩
  | false=>o)::Lh x y (k+1) l
def kH (x y:Nat) (ops:Array Oper):Array Oper:=(Lh x y 0 ops.toList).toArray
def wait (x:Nat) (o:Oper):Oper:=⟨o.dst,o.op,o.type,o.pos,o.after.push ⟨x,.chain⟩,o.guard⟩
theorem Lg (x y:Nat):∀ (l:List Oper) (k i:Nat),(Lh x y k l)[i]? =(l[i]?).map fun o=>if k+i=y then wait x o else o
 | [],_,_=>by simp [Lh]
 | o::l,k,0=>by
  unfold Lh;rw [List.getElem?_cons_zero,List.getElem?_cons_zero];cases h:k.beq y with
  | true=>rw [Nat.eq_of_beq_eq_true h];simp [wait]
  | false =>
   have:=Nat.ne_of_beq_eq_false h;simp [this]
 | o::l,k,i+1=>by
  unfold Lh;rw [List.getElem?_cons_succ,List.getElem?_cons_succ,Lg x y l (k+1) i];have:k+1+i=k+(i+1):=by omega
  rw [this]
theorem sH (x y i:Nat) (ops:Array Oper):(kH x y ops)[i]? =(ops[i]?).map fun o=>if i=y then wait x o else o:=by
 unfold kH;rw [List.getElem?_toArray,Lg,dJ,Array.getElem?_toList]
theorem Ba (x y:Nat):∀ (l:List Oper) (k:Nat),(Lh x y k l).length=l.length
 | [],_=>rfl
 | o::l,k=>by unfold Lh;rw [bg,bg,Ba x y l]
theorem GK (x y:Nat) (ops:Array Oper):(kH x y ops).size=ops.size:=by
 unfold kH;rw [List.size_toArray,Ba,Array.length_toList]
theorem tZ (x y:Nat) (tmps:Array Value) (g:Nat):yielded (kH x y ops) tmps g=yielded ops tmps g:=by
 unfold yielded;rw [sH];cases ops[g]? with
 | none=>rfl
 | some o =>
  have e:(if g=y then wait x o else o).dst=o.dst:=by split<;>rfl
  simp only [Option.map_some,Option.bind_some,e]
theorem xO (x y:Nat):∀ (l:List Nat) (a:Act) (w:World),wpOps P (kH x y ops) Q l a w→wpOps P ops Q l a w
 | [],_,_,h=>h
 | i::l,a,w,h=>by
  have ih:=xO x y l;unfold wpOps at h ⊢;rw [sH] at h;have hy:yielded (kH x y ops) a.tmps=yielded ops a.tmps:=funext fun g=>tZ x y _ g;rw [hy] at h;cases ho:ops[i]? with
  | none =>
   simp only [ho,Option.map_none] at h ⊢;exact ih _ _ h
  | some o =>
   simp only [ho,Option.map_some] at h ⊢
   by_cases hi:i=y
   ·simp only [hi,if_true] at h;have e1:Region.wanted (wait x o) (yielded ops a.tmps)=Region.wanted o (yielded ops a.tmps):=rfl;rw [e1] at h;split
    ·rename_i hw;simp only [hw,if_true] at h
     rcases h with h|h
     ·exact .inl (Oper.wp_mono ih h)
     ·exact .inr h
    ·rename_i hw;simp only [hw,if_false,dG] at h;exact ih _ _ h
   ·simp only [hi,if_false] at h;split
    ·rename_i hw;simp only [hw,if_true] at h
     rcases h with h|h
     ·exact .inl (Oper.wp_mono ih h)
     ·exact .inr h
    ·rename_i hw;simp only [hw,if_false,dG] at h;exact ih _ _ h
theorem uM {x y i:Nat} {listed:Array Bool} (h:i∈Region.ready .any ops listed) (hy:i=y→listed.getD x false=true):i∈Region.ready .any (kH x y ops) listed:=by
 obtain ⟨h1,o,h2,h3⟩:=mem_ready.1 h;refine mem_ready.2 ⟨h1,_,by rw [sH,h2];rfl,fun e he hb=>?_⟩;split at he
 ·rename_i hi
  rcases Array.mem_push.1 he with he|he
  ·exact h3 e he hb
  ·rw [he];exact hy hi
 ·exact h3 e he hb
theorem JF {x y i:Nat} {listed:Array Bool} (h:i∈Region.ready .any (kH x y ops) listed):i∈Region.ready .any ops listed:=by
 obtain ⟨h1,o',h2,h3⟩:=mem_ready.1 h;rw [sH] at h2;cases ho:ops[i]? with
 | none=>rw [ho] at h2;cases h2
 | some o =>
  rw [ho,Option.map_some,Option.some.injEq] at h2;refine mem_ready.2 ⟨h1,o,ho,fun e he hb=>h3 e ?_ hb⟩;rw [← h2];split
  ·exact Array.mem_push.2 (.inl he)
  ·exact he
theorem yP {i fuel:Nat} {listed:Array Bool} (h:i∈Region.ready .any ops listed) (t:Nat) :
  ∃ t',Region.linearise.go .any ops (fuel+1) t' listed []=i::Region.linearise.go .any ops fuel t (listed.setIfInBounds i true) []:=by
 obtain ⟨k,hk,hi⟩:=List.getElem_of_mem h;refine ⟨k+(Region.ready .any ops listed).length*t,?_⟩;simp only [Region.linearise.go]
 change (match (Region.ready .any ops listed)[(k+(Region.ready .any ops listed).length*t)%(Region.ready .any ops listed).length]? with
   | some i=>Region.linearise.go .any ops fuel ((k+(Region.ready .any ops listed).length*t) / (Region.ready .any ops listed).length) (listed.setIfInBounds i true) [i]
   | none=>[].reverse)=_
 have e1:(k+(Region.ready .any ops listed).length*t)%(Region.ready .any ops listed).length=k:=by
  rw [Nat.add_mul_mod_self_left,gU hk]
 have e2:(k+(Region.ready .any ops listed).length*t) / (Region.ready .any ops listed).length=t:=by
  rw [Nat.add_mul_div_left _ _ (gH (Nat.zero_le _) hk),fQ hk,dJ]
 rw [e1,e2,List.getElem?_eq_getElem hk,hi];simp only [];rw [linearise_go_acc,List.reverse_singleton,List.singleton_append]
theorem go_step (fuel t:Nat) (listed:Array Bool) :
  (Region.ready .any ops listed=[]∧Region.linearise.go .any ops (fuel+1) t listed []=[]) ∨
  ∃ i∈Region.ready .any ops listed,∃ t',Region.linearise.go .any ops (fuel+1) t listed []=i::Region.linearise.go .any ops fuel t' (listed.setIfInBounds i true) []:=by
 simp only [Region.linearise.go]
 change (_∧(match (Region.ready .any ops listed)[t%(Region.ready .any ops listed).length]? with
   | some i=>Region.linearise.go .any ops fuel (t / (Region.ready .any ops listed).length) (listed.setIfInBounds i true) [i]
   | none=>[].reverse)=[])∨∃ i∈Region.ready .any ops listed,∃ t',(match (Region.ready .any ops listed)[t%(Region.ready .any ops listed).length]? with
   | some i=>Region.linearise.go .any ops fuel (t / (Region.ready .any ops listed).length) (listed.setIfInBounds i true) [i]
   | none=>[].reverse)=_
 cases hi:(Region.ready .any ops listed)[t%(Region.ready .any ops listed).length]? with
 | none =>
  left
  refine ⟨?_,rfl⟩;cases hr:Region.ready .any ops listed with
  | nil=>rfl
  | cons x xs =>
   rw [hr] at hi;have hlt:t%(x::xs).length<(x::xs).length:=fI _ zi;simp at hi
   simp at hlt
   omega
 | some i =>
  right
  refine ⟨i,List.mem_of_getElem? hi,t / (Region.ready .any ops listed).length,?_⟩;simp only [];rw [linearise_go_acc,List.reverse_singleton,List.singleton_append]
theorem Ky {fuel t:Nat} {listed:Array Bool} (h:Region.ready .any ops listed=[]):Region.linearise.go .any ops (fuel+1) t listed []=[]:=by
 rcases go_step (ops:=ops) fuel t listed with ⟨-, h2⟩|⟨i,hi, -⟩
 ·exact h2
 ·rw [h] at hi;cases hi
theorem Ae {x y:Nat}:∀ (fuel t:Nat) (listed:Array Bool),listed.getD x false=true→∃ t',Region.linearise.go .any ops fuel t listed []=Region.linearise.go .any (kH x y ops) fuel t' listed []
 | 0,t,listed,_=>⟨t,rfl⟩
 | fuel+1,t,listed,hx=>by
  rcases go_step (ops:=ops) fuel t listed with ⟨h1,h2⟩|⟨i,hi,t',h⟩
  ·refine ⟨0,?_⟩;rw [h2,Ky];cases hr:Region.ready .any (kH x y ops) listed with
   | nil=>rfl
   | cons i l =>
    have:=JF (x:=x) (y:=y) (i:=i) (by rw [hr];exact List.mem_cons_self);rw [h1] at this;cases this
  ·obtain ⟨t2,h2⟩:=Ae fuel t' (listed.setIfInBounds i true) (getD_set_true hx);obtain ⟨t3,h3⟩:=yP (fuel:=fuel) (uM (y:=y) hi fun _=>hx) t2;exact ⟨t3,by rw [h,h2,h3]⟩
theorem WA {x y:Nat} (hxy:x≠y):∀ (fuel t:Nat) (listed:Array Bool),
  (∃ t',Region.linearise.go .any ops fuel t listed []=Region.linearise.go .any (kH x y ops) fuel t' listed []) ∨
  (∃ t',Region.linearise.go .any ops fuel t listed []=Region.linearise.go .any (kH y x ops) fuel t' listed [])
 | 0,t,listed=>.inl ⟨t,rfl⟩
 | fuel+1,t,listed=>by
  rcases go_step (ops:=ops) fuel t listed with ⟨h1,h2⟩|⟨i,hi,t',h⟩
  ·refine .inl ⟨0,?_⟩;rw [h2,Ky];cases hr:Region.ready .any (kH x y ops) listed with
   | nil=>rfl
   | cons i l =>
    have:=JF (x:=x) (y:=y) (i:=i) (by rw [hr];exact List.mem_cons_self);rw [h1] at this;cases this
  ·have hset:∀ j,i=j→(listed.setIfInBounds i true).getD j false=true:=fun j hj=>by
    subst hj;have:=(mem_ready.1 hi).1
    rcases aR i listed.size with h'|h'
    ·simp [h']
    ·simp [dh h'] at this
   by_cases hix:i=x
   ·obtain ⟨t2,h2⟩:=Ae (ops:=ops) (x:=x) (y:=y) fuel t' _ (hset x hix);obtain ⟨t3,h3⟩:=yP (fuel:=fuel) (uM (x:=x) (y:=y) hi fun e=>absurd (hix.symm.trans e) hxy) t2;exact .inl ⟨t3,by rw [h,h2,h3]⟩
   ·by_cases hiy:i=y
    ·obtain ⟨t2,h2⟩:=Ae (ops:=ops) (x:=y) (y:=x) fuel t' _ (hset y hiy);obtain ⟨t3,h3⟩:=yP (fuel:=fuel) (uM (x:=y) (y:=x) hi fun e=>absurd e hix) t2;exact .inr ⟨t3,by rw [h,h2,h3]⟩
    ·rcases WA hxy fuel t' (listed.setIfInBounds i true) with ⟨t2,h2⟩|⟨t2,h2⟩
     ·obtain ⟨t3,h3⟩:=yP (fuel:=fuel) (uM (x:=x) (y:=y) hi fun e=>absurd e hiy) t2;exact .inl ⟨t3,by rw [h,h2,h3]⟩
     ·obtain ⟨t3,h3⟩:=yP (fuel:=fuel) (uM (x:=y) (y:=x) hi fun e=>absurd e hix) t2;exact .inr ⟨t3,by rw [h,h2,h3]⟩
structure Reg (P:Program) (ops:Array Oper) (Q:Exit→Act→World→Prop) (a:Act) (w:World):Prop where
 out:∀ t,wpOps P ops Q (Region.linearise .any ops t) a w
theorem af7 {id:Nat} {a:Act} {w:World} (hm:P.follows .mixedOrders=true) (h:Reg P ops Q a w.drew):(Code.region id ops true).wp P Q a w :=
 wp_region_draw fun t=>by
  simp only [Region.schedule,hm,Bool.true_or,if_true];exact h.out t
theorem Yt {a:Act} {w:World} (x y:Nat) (hxy:x≠y) (h1:Reg P (kH x y ops) Q a w) (h2:Reg P (kH y x ops) Q a w):Reg P ops Q a w:=⟨fun t=>by
 unfold Region.linearise
 rcases WA (ops:=ops) hxy ops.size t (Array.replicate ops.size false) with ⟨t',h⟩|⟨t',h⟩
 ·rw [h];have:=h1.out t';unfold Region.linearise at this;rw [GK] at this;exact xO x y _ _ _ this
 ·rw [h];have:=h2.out t';unfold Region.linearise at this;rw [GK] at this;exact xO y x _ _ _ this⟩
def zX (l:List Nat) (ops:Array Oper):Bool:=(dF ops.size).all fun i=>match ops[i]? with
 | some o=>o.after.all (fun e=> !Region.binds .any e || (decide (l.idxOf e.on<l.idxOf i)&&decide (e.on<ops.size)))
 | none=>true
theorem ai0 {l:List Nat} (ho:zX l ops=true):Led ops:=fun listed hsz hr i hi=>by
 have key:∀ n i,l.idxOf i=n→i<ops.size→listed.getD i true=true:=by
  intro n
  induction n using gZ with
  | _ n ih =>
   intro i hn hi;cases hl:listed.getD i true with
   | true=>rfl
   | false =>
    exfalso
    have ho':ops[i]? =some ops[i]:=by simp [hi]
    have hmem:i∈Region.ready .any ops listed:=mem_ready.2 ⟨hl,ops[i],ho',fun e he hb=>by
     unfold zX at ho;have h1:=List.all_eq_true.1 ho i (List.mem_range.2 hi);simp only [ho'] at h1;have h2:=Array.all_eq_true_iff_forall_mem.1 h1 e he;simp only [hb,Bool.not_true,Bool.false_or,aG,decide_eq_true_eq] at h2;have h3:=ih _ zo e.on rfl h2.2;have:e.on<listed.size:=by omega
     simpa [this] using h3⟩
    rw [hr] at hmem;cases hmem
 exact key _ i rfl hi
def Xb (ops:Array Oper) (is:List (K × Nat)):Bool :=
 Region.noSelect ops&&zX (is.map (·.2)) ops&&jU ops is&&decide (is.map (·.2)).Nodup&&decide (is.length≤ops.size)&&(dF ops.size).all (fun i=>(is.map (·.2)).contains i)
theorem JE {a:Act} {w:World} (is:List (K × Nat)) (hc:Xb ops is=true) (hal:sK P ops is)
  (hQ:∀ c (a s:Act) w,s.defers=a.defers→Q (.panic c) a w→Q (.panic c) s w)
  (h:walk P ops Q w.heap.size is [] a w):Reg P ops Q a w:=⟨fun t=>by
 unfold Xb at hc;simp only [aG,decide_eq_true_eq] at hc;obtain ⟨⟨⟨⟨⟨h1,h2⟩,h3⟩,h4⟩,h5⟩,h6⟩:=hc;unfold Region.linearise;refine wpAny_sound _ _ _ _ _ ?_;refine IZ.CJ (dX:=fun w w'=>Below w.heap.size w w') h1 (ai0 h2) hQ w.heap.size aw9 ops.size is [] [] [] _ a a w ?_ ?_ h3 h4 zi zi hal ?_ (nM _ _ _ _ h)
 ·rw [rH];exact h5
 ·refine ⟨by simp,fun i hi=>?_,fun j o hj hl=>?_,rfl,rfl,fun t _ _=>rfl,by simp,by simp,by simp,by simp⟩
  ·have hmem:i∈is.map (·.2):=by simpa using List.all_eq_true.1 h6 i (List.mem_range.2 hi)
   simp [hi]
   simpa using hmem
  ·have hj':=(Array.getElem?_eq_some_iff.1 hj).1;simp [hj'] at hl
 ·exact ⟨by simp,by simp,by simp,by simp,aC _⟩⟩
end Go.SW
namespace Go.SW
open Go Go.RowKit
variable {P:Program} {ops:Array Oper} {Q:Exit→Act→World→Prop}
theorem GJ {x y i:Nat} {o:Oper} (h:ops[i]? =some o):∃ o',(kH x y ops)[i]? =some o'∧o'.dst=o.dst∧o'.op=o.op∧o'.guard=o.guard∧(∀ (a:Act) (w:World) K R,o.wp P a w K R→o'.wp P a w K R)∧(∀ f,Region.wanted o' f=Region.wanted o f)∧(∀ ρ,execOp ρ o'=execOp ρ o)∧∀ (a:Act) (w:World),Oper.asks P o a w→Oper.asks P o' a w:=by
 refine ⟨_,by rw [sH,h];rfl,?_,?_,?_,?_,?_,?_,?_⟩
 all_goals split<;>first|rfl|exact fun _ _ _ _ h=>h|exact fun _=>rfl|exact fun _ _ h=>h
theorem Bb (x y:Nat):∀ (l:List Nat) (a:Act) (w:World),wpOps P ops Q l a w→wpOps P (kH x y ops) Q l a w
 | [],_,_,h=>h
 | i::l,a,w,h=>by
  have ih:=Bb x y l;unfold wpOps at h ⊢;have hy:yielded (kH x y ops) a.tmps=yielded ops a.tmps:=funext fun g=>tZ x y _ g;rw [hy];cases ho:ops[i]? with
  | none =>
   rw [sH,ho,Option.map_none];simp only [ho] at h ⊢;exact ih _ _ h
  | some o =>
   obtain ⟨o',h1,h2,h3,h4,h5,h6,h7,h8⟩:=GJ (P:=P) (x:=x) (y:=y) ho;rw [h1];simp only [ho,h6,h2] at h ⊢;split at h
   ·rename_i hw;rw [if_pos hw]
    rcases h with h|h
    ·exact .inl (h5 _ _ _ _ (Oper.wp_mono ih h))
    ·exact .inr ⟨h8 _ _ h.1,h.2⟩
   ·rename_i hw;rw [if_neg hw];exact ih _ _ h
theorem zI (x y N:Nat):∀ (is:List (K × Nat)) (A:List Nat) (a:Act) (w:World),walk P ops Q N is A a w→walk P (kH x y ops) Q N is A a w
 | [],_,_,_,h=>h
 | (k,i)::is,A,a,w,h=>by
  have ih:=zI x y N is;unfold walk at h ⊢;have hy:yielded (kH x y ops) a.tmps=yielded ops a.tmps:=funext fun g=>tZ x y _ g;rw [hy];cases ho:ops[i]? with
  | none=>rw [ho] at h;exact h.elim
  | some o =>
   obtain ⟨o',h1,h2,h3,h4,h5,h6,h7,h8⟩:=GJ (P:=P) (x:=x) (y:=y) ho;rw [ho] at h;rw [h1];cases k with
   | pure =>
    simp only [h6,h7,h2] at h ⊢;split at h
    ·rename_i hw;rw [if_pos hw];obtain ⟨v,k1,k2⟩:=h;exact ⟨v,k1,ih _ _ _ k2⟩
    ·rename_i hw;rw [if_neg hw];exact ih _ _ _ h
   | read =>
    simp only [h6,h7,h2] at h ⊢;split at h
    ·rename_i hw;rw [if_pos hw];obtain ⟨v,k1,k2⟩:=h;exact ⟨v,k1,ih _ _ _ k2⟩
    ·rename_i hw;rw [if_neg hw];exact ih _ _ _ h
   | alloc cs T =>
    simp only [h2] at h ⊢;exact fun b w' k1 k2 k3 k4 k5=>ih _ _ _ (h b w' k1 k2 k3 k4 k5)
   | ext =>
    simp only [h6,h2] at h ⊢;split at h
    ·rename_i hw;rw [if_pos hw];exact fun w' k1=>h5 _ _ _ _ (Oper.wp_mono (fun a' w'' k=>⟨k.1,ih _ _ _ k.2⟩) (h w' k1))
    ·rename_i hw;rw [if_neg hw];exact ih _ _ _ h
   | fin =>
    exact fun w' k1=>Bb x y _ _ _ (h w' k1)
inductive St|one (k:K) (i:Nat)|two (i j:Nat)
variable {o:Oper} {i:Nat} {is:List St} {a:Act} {w:World} {N:Nat} {A:List Nat}
end Go.SW
namespace Go.Proofs.aW
open Go Go.RowKit Go.SW Go.Num Go.Mem Go.Proofs Go.gB
def wH (a b:Int × Int):(Int × Int) × Int:=if okB [a,b] then gN (a.1 - b.2) (a.2 - b.1) else ((0,0),30)
theorem ZV (x y z t:Int) (h0:okB [(x,y),(z,t)]=true) (b c:Nat) (w:World) (h:aB w b #[Z I x,Z I y] 40) (k:aB w c #[Z I z,Z I t] 40) :
  Calls Tryz.prog 129 #[aA (some ⟨b,0,none⟩),aA (some ⟨c,0,none⟩)] w (fun e w'=>e= ah (dZ (gN (x - t) (y - z)))∧Below w.heap.size w w'):=by
 have h0':gM x y=true∧gM z t=true:=by simpa [okB] using h0
 obtain ⟨hk1,hk2,hk3⟩: -1000000000000000000≤x∧x≤y∧y≤1000000000000000000:=by simpa [gM] using h0'.1
 obtain ⟨hk4,hk5,hk6⟩: -1000000000000000000≤z∧z≤t∧t≤1000000000000000000:=by simpa [gM] using h0'.2
 have H:=zh (fun W=>mo (x - t) (y - z) W);generalize gN (x - t) (y - z)=m at *;obtain ⟨⟨m1,m2⟩,m3⟩:=m;unfold dZ at *;simp only at *;have cb:=h.cell;have lb:=h.lt;have cc:=k.cell;have lc:=k.lt;clear h k h0 h0';go_enter Tryz.func129,Tryz.ntmps129
 go_wp2_with fail
 refine (H.out _).mono ?_;rintro e w1 ⟨rfl,hb1⟩;have hx:=aB.later (aB.new w #[Z I 0,Z I 0] 40) hb1;have cx:=hx.cell;have fx:=hx.free;have lx:=hx.lt;have hw:=Bt (show Below w.heap.size w (w.alloc (.cells #[Z I 0,Z I 0] 40)) from aJ) hb1;go_wp2_with fail
 refine bK rfl rfl bI Tryz.underlying40 rfl zk ?_;exact ⟨rfl,aJ⟩
theorem xP (x y z t:Int) (w:World):Calls Tryz.prog 50 #[au #[Z I x,Z I y],au #[Z I z,Z I t]] w (fun e w'=>e= ah (dZ (wH (x,y) (z,t)))∧Below w.heap.size w w'):=by
 have H:Hid (∀ W b c d,aB W b #[Z I x,Z I y] 40→aB W c #[Z I z,Z I t] 40→aB W d #[Z I x,Z I y,Z I z,Z I t] 40→Calls Tryz.prog 97 #[.func (.func 129) #[] #[aA (some ⟨b,0,none⟩),aA (some ⟨c,0,none⟩)],aj (some ⟨d,0,none⟩) 2 2] W (fun e w'=>e= ah (dZ (wH (x,y) (z,t)))∧Below W.heap.size W w')):=zh fun W b c d h1 h2 h3 =>
  mY 129 #[aA (some ⟨b,0,none⟩),aA (some ⟨c,0,none⟩)] _ _ _ _ W (zG.two h3) (fun h W' hW'=>ZV x y z t h b c W' (h1.later hW') (h2.later hW')) (fun args W=>by rfl)
 generalize wH (x,y) (z,t)=m at *;obtain ⟨⟨m1,m2⟩,m3⟩:=m;unfold dZ at *;simp only at *;go_enter Tryz.func50,Tryz.ntmps50
 go_wp2_with fail
 obtain ⟨wx,EW,hz,X,Y,R,dX⟩:=al4 w #[Z I x,Z I y] 40 #[Z I z,Z I t] 40 #[Z I 0,Z I 0] 40 #[Z I x,Z I y,Z I z,Z I t] 40;rw [EW];clear EW;have HB:=zh hz;clear hz;refine (H.out _ _ _ _ X.out Y.out dX.out).mono ?_;rintro e w1 ⟨rfl,hb1⟩;replace R:=R.bl hb1;replace HB:=zh (Bt HB.out hb1);clear hb1 H;have hx:=R.out;have cx:=hx.cell;have fx:=hx.free;have lx:=hx.lt;have hw:=HB.out;go_wp2_with fail
 refine bK rfl rfl bI Tryz.underlying40 rfl zk ?_;exact ⟨rfl,aJ⟩
end Go.Proofs.aW
namespace Go.Num
def irt (k:Nat):Nat→Nat→Nat
 | 0,_=>0
 | f+1,n=>if (2*irt k f (n / 2^k)+1)^k≤n then 2*irt k f (n / 2^k)+1 else 2*irt k f (n / 2^k)
def gP (k n:Nat):Nat:=irt k (n.log2 / k+1) n
theorem J5 {k:Nat} (hk:0<k):∀ f n,n<2^(k*f)→irt k f n^k≤n∧n<(irt k f n+1)^k
 | 0,n,h=>by
  have:n=0:=by simpa using h
  subst this;refine ⟨?_,?_⟩
  ·show 0^k≤0
   rw [Nat.zero_pow hk];omega
  ·show 0<(0+1)^k
   simp
 | f+1,n,h=>by
  have hp:0<2^k:=Nat.pow_pos zo
  have h1:n / 2^k<2^(k*f):=by
   rw [dz hp,← gG];rw [aZ] at h
   simpa using h
  obtain ⟨a,b⟩:=J5 hk f _ h1;unfold irt;generalize irt k f (n / 2^k)=r at *
  have e:(2*r)^k≤n:=by
   rw [Nat.mul_pow];have:=aT (2^k) a;have:=Nat.mul_div_le n (2^k);omega
  have e2:n<(2*r+1+1)^k:=by
   have h2:n<2^k*(n / 2^k+1):=by
    have:=Nat.lt_mul_div_succ n hp;exact this
   have h3:=aT (2^k) b;rw [show 2*r+1+1=2*(r+1) by omega,Nat.mul_pow];exact aI h2 h3
  split
  ·rename_i h4;exact ⟨h4,e2⟩
  ·rename_i h4;exact ⟨e,by omega⟩
theorem om {k:Nat} (hk:0<k) (n:Nat):gP k n^k≤n∧n<(gP k n+1)^k:=by
 refine J5 hk _ _ ?_;refine aI (Nat.lt_log2_self (n:=n)) (bH zo ?_);have:=Nat.lt_mul_div_succ n.log2 hk;omega
theorem J6 {k n r:Nat} (hk:0<k) (h:n<(r+1)^k):gP k n≤r:=by
 obtain ⟨a,b⟩:=om hk n
 have c:gP k n<r+1:=by
  refine Nat.lt_of_not_le fun h=>?_;have:=Nat.pow_le_pow_left h k;omega
 omega
theorem yE {k n r:Nat} (hk:0<k) (h:r^k≤n):r≤gP k n:=by
 obtain ⟨a,b⟩:=om hk n
 have c:r<gP k n+1:=by
  refine Nat.lt_of_not_le fun h=>?_;have:=Nat.pow_le_pow_left h k;omega
 omega
theorem av6 (r x k:Nat):r^k*x+r*x^k≤x^(k+1)+r^(k+1):=by
 rw [cZ,cZ]
 rcases Nat.le_total r x with h|h
 ·have hk:=Nat.pow_le_pow_left h k;obtain ⟨d,rfl⟩:=Nat.exists_eq_add_of_le h;obtain ⟨e,he⟩:=Nat.exists_eq_add_of_le hk;rw [he];generalize r^k=a;have:(a+e)*(r+d)+a*r=a*(r+d)+r*(a+e)+e*d:=by grind
  omega
 ·have hk:=Nat.pow_le_pow_left h k;obtain ⟨d,rfl⟩:=Nat.exists_eq_add_of_le h;obtain ⟨e,he⟩:=Nat.exists_eq_add_of_le hk;rw [he];generalize x^k=a;have:a*x+(a+e)*(x+d)=(a+e)*x+(x+d)*a+e*d:=by grind
  omega
theorem means (r x:Nat):∀ k,(k+1)*r*x^k≤k*x^(k+1)+r^(k+1)
 | 0=>by simp
 | k+1=>by
  have ih:=bf x (means r x k);have h:=av6 r x (k+1);have e1:(k+1+1)*r*x^(k+1)=(k+1)*r*x^k*x+r*x^(k+1):=by rw [cZ];grind
  have e2:(k+1)*x^(k+1+1)=k*x^(k+1)*x+x^(k+1+1):=by rw [cZ x (k+1)];grind
  have e3:(k*x^(k+1)+r^(k+1))*x=k*x^(k+1)*x+r^(k+1)*x:=by rw [dL]
  omega
def MX (k m x:Nat):Nat:=(x*(k - 1)+m / x^(k - 1)) / k
theorem YR {k m x:Nat} (hk:0<k) (hx:0<x):gP k m≤MX k m x:=by
 obtain ⟨a, -⟩:=om hk m;generalize gP k m=r at *;obtain ⟨j,rfl⟩:=Nat.exists_eq_add_of_le' hk;unfold MX;rw [dS];rw [Nat.le_div_iff_mul_le zo];replace a:r^(j+1)≤m:=a
 show r*(j+1)≤_
 have hm:=means r x j;have hp:0<x^j:=Nat.pow_pos hx
 have h1:r*(j+1) - x*j≤m / x^j:=by
  rw [Nat.le_div_iff_mul_le hp,Nat.sub_mul];have e1:(j+1)*r*x^j=r*(j+1)*x^j:=by rw [aL (j+1)]
  have e2:j*x^(j+1)=x*j*x^j:=by rw [cZ];grind
  omega
 omega
theorem VF {k m x:Nat} (hk:0<k) (hx:0<x) (h1:gP k m≤x) (h2:x≤MX k m x):x=gP k m:=by
 obtain ⟨j,rfl⟩:=Nat.exists_eq_add_of_le' hk;unfold MX at h2;rw [dS] at h2;rw [Nat.le_div_iff_mul_le zo] at h2;have hp:0<x^j:=Nat.pow_pos hx;have h3:x≤m / x^j:=by rw [Nat.mul_succ] at h2;omega
 rw [Nat.le_div_iff_mul_le hp] at h3;have h4:x^(j+1)≤m:=by rw [cZ,aL];exact h3
 have:=yE hk h4;omega
theorem MW {k m l:Nat} (hk:0<k) (h:m<10^l):gP k m≤10^(l / k+1):=by
 refine J6 hk ?_;have h1:(10^(l / k+1))^k≤(10^(l / k+1)+1)^k:=Nat.pow_le_pow_left zo k;rw [← Nat.pow_mul] at h1
 have h2:10^l≤10^((l / k+1)*k):=bH zo (by
  have:=Nat.lt_mul_div_succ l hk;rw [aL];omega)
 omega
end Go.Num
namespace Go.Num
def kQ (n p q:Nat):Nat:=n^p*10^(12*q) / 10^(12*p)
def zQ (n p q:Nat):Nat:=gP q (kQ n p q)
def RD (n p q:Nat):Bool:=decide (zQ n p q^q*10^(12*p)=n^p*10^(12*q))
def phi (n p q:Nat):Nat:=if RD n p q then zQ n p q else zQ n p q+1
theorem sQ (k:Nat):0<10^k:=Nat.pow_pos zo
theorem JJ {n p q:Nat} (h:p≤q):kQ n p q=n^p*10^(12*(q - p)):=by
 unfold kQ;rw [show 12*q=12*(q - p)+12*p by omega,gG,← dA,Nat.mul_div_cancel _ (sQ _)]
theorem JK {n p q:Nat} (h:q≤p):kQ n p q=n^p / 10^(12*(p - q)):=by
 unfold kQ;rw [show 12*p=12*(p - q)+12*q by omega,gG,Nat.mul_div_mul_right _ _ (sQ _)]
theorem V5 {n p q x:Nat}:x≤kQ n p q↔x*10^(12*p)≤n^p*10^(12*q):=by
 unfold kQ;exact Nat.le_div_iff_mul_le (sQ _)
theorem ai1 {n p q r:Nat} (hq:0<q) (h:r^q*10^(12*p)≤n^p*10^(12*q)):r≤zQ n p q:=yE hq (V5.2 h)
theorem Yi {B k:Nat} (h:B=10^k) (b:Nat):10^(k+b)=B*10^b:=by rw [h,gG]
theorem YA {n p q:Nat} (hq:0<q) (p36:p≤36) (q12:q≤12) (h:10^600≤n^p):10^18<zQ n p q:=by
 obtain ⟨B,eB⟩:∃ B,B=10^600:=⟨_,rfl⟩;rw [← eB] at h;refine ai1 hq ?_
 have h1:(10^18+1)^q≤2^q*10^(18*q):=by
  rw [Nat.pow_mul,← Nat.mul_pow];exact Nat.pow_le_pow_left zd q
 have h2:2^q≤2^12:=bH zo q12;have h3:2^12≤10^4:=by decide
 have h4:(10^18+1)^q≤10^(4+18*q):=by
  rw [gG];exact ay h1 (bf _ (ay h2 h3))
 calc (10^18+1)^q*10^(12*p)≤10^(4+18*q)*10^(12*p):=bf _ h4
  _=10^(4+18*q+12*p):=(gG ..).symm
  _≤10^(600+12*q):=bH zo zo
  _=B*10^(12*q):=Yi eB _
  _≤n^p*10^(12*q):=bf _ h
end Go.Num
namespace Go.Num
theorem ag1 {n p q:Nat} (h:p≤q):RD n p q=decide (zQ n p q^q=kQ n p q):=by
 unfold RD;rw [JJ h,show 12*q=12*(q - p)+12*p by omega,gG 10,← dA];exact decide_eq_decide.2 ⟨fun e=>Nat.eq_of_mul_eq_mul_right (sQ _) e,fun e=>by rw [e]⟩
theorem ag2 {n p q:Nat} (hq:0<q) (h:q≤p):RD n p q=(decide (zQ n p q^q=kQ n p q)&&decide (n^p%10^(12*(p - q))=0)):=by
 have hs:=(om hq (kQ n p q)).1;have hd:=dB (n^p) (10^(12*(p - q)));have hp:=sQ (12*(p - q));unfold RD;rw [Bool.and_eq_decide];refine decide_eq_decide.2 ?_;rw [show 12*p=12*(p - q)+12*q by omega,gG 10,← dA];rw [← JK h] at hd
 change zQ n p q^q≤kQ n p q at hs
 simp only [decide_eq_true_eq]
 constructor
 ·intro e;have e:=Nat.eq_of_mul_eq_mul_right (sQ _) e
  have h1:zQ n p q^q*10^(12*(p - q))≤10^(12*(p - q))*kQ n p q:=by
   rw [aL];exact aT _ hs
  refine ⟨?_,by omega⟩;refine Nat.eq_of_mul_eq_mul_right hp ?_;rw [aL (kQ n p q)];omega
 ·rintro ⟨e1,e2⟩;rw [e1,← hd,e2,fU,aL (kQ n p q)]
theorem Xj {q x:Nat} (hq:0<q) (q12:q≤12) (h:10^600≤x):10^18<gP q x:=by
 refine yE hq (ay ?_ h);have h1:(10^18+1)^q≤(10^18+1)^12:=bH zo q12;have h2:(10^18+1)^12≤10^600:=by decide+kernel
 exact ay h1 h2
def DR (n p q:Nat) (up:Bool):Int × Int:=if zQ n p q≤10^18 then (((if up then phi n p q else zQ n p q:Nat):Int),0) else (0,6)
theorem Zv {n p q:Nat} {up:Bool} (h:zQ n p q≤10^18):DR n p q up=(((zQ n p q:Nat):Int)+(if (up&& !(RD n p q)) then 1 else 0),0):=by
 unfold DR phi;rw [if_pos h];cases up<;>cases RD n p q<;>simp
end Go.Num
namespace Go.Num
def sM (l:List Nat):Nat:=(l.map fun x=>x^2).sum
def nlo (l:List Nat):Nat:=gP 2 (sM l)
def nhi (l:List Nat):Nat:=if nlo l^2=sM l then nlo l else nlo l+1
theorem U4 (x:Nat) (l:List Nat):sM (x::l)=x^2+sM l:=rfl
theorem Cr (a b:List Nat):sM (a++b)=sM a+sM b:=by
 unfold sM;rw [List.map_append,List.sum_append]
end Go.Num
namespace Go.Num
def FQ (b:Int × Int):Nat:=(max b.1 (max (-b.2) 0)).toNat
def IW (b:Int × Int):Nat:=(max (-b.1) b.2).toNat
def zZ (l:List Nat) (up:Bool):Int × Int:=if nlo l≤10^18 then (((if up then nhi l else nlo l:Nat):Int),0) else (0,6)
theorem YO {l:List Nat} {up:Bool} (h:nlo l≤10^18):zZ l up=(((nlo l:Nat):Int)+(if (up&& !(decide (nlo l^2=sM l))) then 1 else 0),0):=by
 unfold zZ nhi;rw [if_pos h]
 by_cases e:nlo l^2=sM l<;>cases up<;>simp [e]
end Go.Num
namespace Go.gB
open Go.Num
end Go.gB
namespace Go.Num
end Go.Num
namespace Go.Proofs.power
open Go Go.RowKit Go.SW Go.Num Go.Mem Go.Proofs Go.Proofs.aW
def eok (p q:Int):Bool:=decide (1≤p)&&(decide (p≤36)&&(decide (1≤q)&&decide (q≤12)))
theorem nN (p q:Int) (w:World):Calls Tryz.prog 251 #[au #[Z I p,Z I q]] w (fun e w'=>e= ah (ak (eok p q))∧Below w.heap.size w w'):=by
 unfold eok;cases h1:decide (1≤p)<;>cases h2:decide (p≤36)<;>cases h3:decide (1≤q)<;>cases h4:decide (q≤12)
 all_goals
  go_enter Tryz.func251,Tryz.ntmps251
  go_wp2_with fail
  go_ret
  exact ⟨rfl,aJ⟩
def RS (a b:Int × Int):Value:=if a.2≠0 then aD #[au #[Z I 0,Z I 0],Z I a.2] else if b.2≠0 then aD #[au #[Z I 0,Z I 0],Z I b.2] else
 if gM a.1 b.1 then aD #[au #[Z I a.1,Z I b.1],Z I 0] else aD #[au #[Z I 0,Z I 0],Z I 6]
theorem MO (lo hi:Int) (f:Value) (F:FuncId) (caps free:Array Value) (a b:Int × Int) (w:World) (hf:f= .func (.func F) caps free)
  (h1:∀ W,Below w.heap.size w W→Calls Tryz.prog F (caps++#[Z I lo,ak false]) W (fun e w'=>e= ah (aD #[Z I a.1,Z I a.2])∧Below W.heap.size W w'))
  (h2:∀ W,Below w.heap.size w W→Calls Tryz.prog F (caps++#[Z I hi,ak true]) W (fun e w'=>e= ah (aD #[Z I b.1,Z I b.2])∧Below W.heap.size W w')) (hfr:free=#[])
  (hen:∀ args W,(callFunc F args).run Tryz.prog W= .ok (.enter F args) W) :
  Calls Tryz.prog 252 #[Z I lo,Z I hi,f] w (fun e w'=>e= ah (RS a b)∧Below w.heap.size w w'):=by
 subst hf hfr;obtain ⟨a1,a2⟩:=a;obtain ⟨b1,b2⟩:=b;have H1:=zh h1;have H2:=zh h2;have HO:=zh (fun W=>mE a1 b1 W);unfold RS;simp only;clear h1 h2;go_enter Tryz.func252,Tryz.ntmps252
 go_wp2_with fail
 refine (H1.out _ aJ).mono ?_;rintro e w1 ⟨rfl,hb1⟩;have hx:=aB.later (aB.new w #[Z I 0,Z I 0] 40) hb1;have HX:=zh hx;have HB1:=zh (Bt (show Below w.heap.size w (w.alloc (.cells #[Z I 0,Z I 0] 40)) from aJ) hb1);clear hx hb1
 by_cases ha:a2=0
 ·subst ha;go_wp2_with fail
  refine (H2.out _ HB1.out).mono ?_;rintro e w2 ⟨rfl,hb2⟩;replace HX:=zh (HX.out.later hb2);have HB2:=zh (Bt HB1.out hb2);clear hb2 HB1
  by_cases hb:b2=0
  ·subst hb;go_wp2_with fail
   refine (HO.out _).mono ?_;rintro e w3 ⟨rfl,hb3⟩;replace HX:=zh (HX.out.later hb3);have HB3:=zh (Bt HB2.out hb3);clear hb3 HB2;have hx:=HX.out;have cx:=hx.cell;have fx:=hx.free;have lx:=hx.lt;have hw:=HB3.out;cases hk:gM a1 b1
   all_goals
    go_wp2_with fail
    refine bK rfl rfl bI Tryz.underlying40 rfl zk ?_;exact ⟨by first|rfl|(rw [if_neg (fun h=>h rfl),if_neg (fun h=>h rfl),hk];rfl),aJ⟩
  ·have g:(b2 == 0)=false:=beq_eq_false_iff_ne.2 hb;have hx:=HX.out;have cx:=hx.cell;have fx:=hx.free;have lx:=hx.lt;have hw:=HB2.out;go_wp2_with fail
   refine bK rfl rfl bI Tryz.underlying40 rfl zk ?_;exact ⟨by first|rfl|(rw [if_neg (fun h=>h rfl),if_pos hb];rfl),aJ⟩
 ·have g:(a2 == 0)=false:=beq_eq_false_iff_ne.2 ha;have hx:=HX.out;have cx:=hx.cell;have fx:=hx.free;have lx:=hx.lt;have hw:=HB1.out;go_wp2_with fail
  refine bK rfl rfl bI Tryz.underlying40 rfl zk ?_;exact ⟨by first|rfl|(rw [if_pos ha];rfl),aJ⟩
end Go.Proofs.power
namespace Go.Proofs
open Go Go.RowKit Go.SW Go.Num Go.Mem Go.gB
def bL {α β:Type} (z:β) (x:α × Int) (f:α→β × Int):β × Int:=if x.2=0 then f x.1 else (z,x.2)
def qx {α:Type} (x:α):α × Int:=(x,0)
def gq {α:Type} (x:α × Int) (v:α) (k:Int):Prop:=x.2=k∧(k=0→x.1=v)
theorem gq.of {α:Type} {x:α × Int} {v:α} {k:Int} (h:x=(v,k)):gq x v k:=by subst h;exact ⟨rfl,fun _=>rfl⟩
theorem gq.cond_true {α:Type} {a b:α × Int} {v:α} {k:Int} (h:gq (cond true a b) v k):gq a v k:=h
theorem gq.cond_false {α:Type} {a b:α × Int} {v:α} {k:Int} (h:gq (cond false a b) v k):gq b v k:=h
theorem gq.pos {α:Type} {a b:α × Int} {v:α} {k:Int} {p:Prop} [Decidable p] (h:gq (if p then a else b) v k) (hp:p):gq a v k:=by rwa [if_pos hp] at h
theorem gq.neg {α:Type} {a b:α × Int} {v:α} {k:Int} {p:Prop} [Decidable p] (h:gq (if p then a else b) v k) (hp:¬ p):gq b v k:=by rwa [if_neg hp] at h
theorem oQ {α β:Type} {z:β} {x:α × Int} {f:α→β × Int} {y:α} (h:x=(y,0)):bL z x f=f y:=by subst h;rfl
theorem ZM {α β:Type} {z:β} {x:α × Int} {f:α→β × Int} (h:x.2≠0):bL z x f=(z,x.2):=if_neg h
theorem aK {α β:Type} {z:β} {x:α × Int} {f:α→β × Int} {r:β} {k:Int} (h:gq (bL z x f) r k):∃ y k1,x=(y,k1)∧((k1=0∧gq (f y) r k)∨(k1≠0∧k=k1)):=by
 obtain ⟨y,k1⟩:=x;refine ⟨y,k1,rfl,?_⟩
 by_cases h0:k1=0
 ·subst h0;exact .inl ⟨rfl,h⟩
 ·rw [ZM (x:=(y,k1)) h0] at h;exact .inr ⟨h0,h.1.symm⟩
theorem jL {α:Type} {x:α × Int} {r:α} {k:Int} (h:gq x r k):∃ y k1,x=(y,k1)∧((k1=0∧gq (qx y) r k)∨(k1≠0∧k=k1)):=by
 obtain ⟨y,k1⟩:=x;refine ⟨y,k1,rfl,?_⟩
 by_cases h0:k1=0
 ·subst h0;exact .inl ⟨rfl,h⟩
 ·exact .inr ⟨h0,h.1.symm⟩
def Xt (T:Int→Ending) (w:World) (v:Value) (k:Int) (e:Ending) (w':World):Prop:=Below w.heap.size w w'∧((k=0∧e= ah v)∨(k≠0∧e=T k))
def EU (w:World) (v z:Value) (k:Int) (e:Ending) (w':World):Prop:=Below w.heap.size w w'∧((k=0∧e= ah (aD #[v,Z I 0]))∨(k≠0∧e= ah (aD #[z,Z I k])))
end Go.Proofs
namespace Go.Fx
open Go Go.RowKit Go.SW Go.Mem Go.Proofs
section
variable {P:Program} {n:Nat} {fn:Func} {T:Int→Ending} {w0:World} {V:Value} {k:Int} {p:Pos} {S:Sl} {L:Mm}
theorem xK {R:Post} {c:List PanicEntry} {w:World} (h:R (.panic c) S w):∀ ks:List Kt,Cont P n R ks (.panic c) S w
 | []=>h
 | x::ks=>by cases x<;>exact xK h ks
theorem cO (hT:∀ k,∃ c,T k= .panicked c) (hs:List Nat) (d:Nat) (St:Sl) (U:List (Nat × Array Value)) {f:FuncId} {args:Array Value} {v:Value} {k1:Int} {A:Prop} (hC:∀ w,Mem w0 [] (upd L U) w→Calls P f args w (Xt T w v k1)) (hn:(k1=0∧A)∨(k1≠0∧k=k1))
  (hc:k1=0→A→G P n (Ends P n fn (Xt T w0 V k)) w0 [] (tr 4000 hs p).2.past ((d,v)::(St++S)) (upd L U))
  (h:GU P n w0 (tr 4000 hs p).1 S L St (upd L U):=by intro _;kernel_rfl) (hx:∀ w,rG P n w (zB P n w0 (tr 4000 hs p).1 S L) (tr 4000 hs p).2=some (d,f,args,w):=by intro _;kernel_rfl):G P n (Ends P n fn (Xt T w0 V k)) w0 [] p S L:=by
 refine Zm hs St _ h ?_;have hsub:=h.sub;have hh:=sD (hx w0);generalize zB P n w0 (tr 4000 hs p).1 S L=F at hx hsub ⊢;generalize (tr 4000 hs p).2=q at hc hx hh;generalize upd L U=L at hC hc;generalize St++S=S at hc hsub;obtain ⟨ops,o,hn',hf,hw,hd,hlt, -⟩:=mD (h:=hx w0);refine place hn' hf hw (Y:=fun N H w a a' w1=>a'=a.put (some d) v∧Below w.heap.size w w1∧k1=0∧A) (fun w N H hM hok a ha K hK ks=>?_) fun w N H hM hok a a' w' ha hy=>?_
 ·obtain ⟨ops',o',hn2, -, -, -, -, hr⟩:=mD (h:=hx w);rw [hn'] at hn2;cases hn2
  unfold Oper.wp;rw [ha.exec hf,hr];simp only [Oper.upon];refine (hC w hM).mono fun e w' he=>?_;obtain ⟨hb,⟨h1,rfl⟩|⟨h1,rfl⟩⟩:=he
  ·rw [hd]
   rcases hn with ⟨-, hA⟩|⟨h2, -⟩
   ·exact hK _ _ ⟨rfl,hb,h1,hA⟩
   ·exact absurd h1 h2
  ·obtain ⟨c,hc'⟩:=hT k1
   rcases hn with ⟨h2, -⟩|⟨h2,h3⟩
   ·exact absurd h2 h1
   ·rw [hc'];refine ⟨ha.defers,F,xK ?_ ks⟩
    show Xt T w0 V k (.panicked c) w'
    exact ⟨Bt hM.below hb,.inr ⟨by rw [h3];exact h1,by rw [h3,hc']⟩⟩
 ·obtain ⟨rfl,h1,h2,h3⟩:=hy;exact ⟨fun _ _ _ _ _ _=>.of h1,_,ha.put hlt v,((hc h2 h3).of (oI hsub d v) hh).out w' N H (hM.later h1) (Ig hok (fun _=>rfl) rfl)⟩
def Pj (P:Program) (w:World) (S:Sl) (p:Pos):Option (Value × World):=match p with
 | .reg ops (i:: _) _=>(match ops[i]? with
  | some o=>(match fit ops S o,Region.wanted o (yl ops S) with
   | true,true=>(match (execOp (ev S) o).run P w with
    | .halt (.panic v) w'=>some (v,w')
    | _=>none)
   | _,_=>none)
  | none=>none)
 | _=>none
theorem panics (m:Nat) (hs:List Nat) (U:List (Nat × Array Value)) {E:Ending→World→Prop} {v:Value} (hE:∀ w,Mem w0 [] (upd L U) w→E (.panicked [{ v,recovered:=false }]) w)
  (h:Ls P n w0 (tr m hs p).1 S L (upd L U):=by intro _;kernel_rfl) (hx:∀ w,Pj P w (zB P n w0 (tr m hs p).1 S L) (tr m hs p).2=some (v,w):=by intro _;kernel_rfl):G P n (Ends P n fn E) w0 [] p S L:=by
 refine goR hs _ h ?_;generalize zB P n w0 (tr m hs p).1 S L=S at hx ⊢;generalize (tr m hs p).2=q at hx;generalize upd L U=L at hE;refine ⟨fun w N H hM hok=>?_⟩;have h1:=hx w;unfold Pj at h1;split at h1
 ·rename_i ops i is ks;split at h1
  ·rename_i o ho;split at h1
   ·rename_i hf hw;split at h1
    ·rename_i v' w' hr;cases h1
     intro a ha;unfold wpOps;simp only [ho,ha.wanted (o7 hf)];rw [if_pos hw];refine .inl ?_;unfold Oper.wp;rw [ha.exec hf,hr];exact ⟨ha.defers,S,xK (hE w hM) ks⟩
    ·cases h1
   ·cases h1
  ·cases h1
 ·cases h1
end
end Go.Fx
namespace Go.gB
open Go Go.RowKit Go.Num Go.Mem Go.Fx
theorem gX.keep {l:List TypeId} {w w':World} {v:Value} {q:Rat} (h:gX w v q) (k:Kept l w w') (hT:l.contains 61=false:=by kernel_rfl):gX w' v q:=by
 obtain ⟨pa,n,ca,pb,m,cb,h1,h2,h3⟩:=h;exact ⟨pa,n,ca,pb,m,cb,h1,Fx.bZ.keep h2 k hT,Fx.bZ.keep h3 k hT⟩
theorem Yk {k:Nat} {p q:Rat} (h:jy k p) (i:jy k q):jy (2*k+1) (p - q):=by
 rw [Rat.sub_eq_add_neg];exact vQ h (vP i)
def aC2 (w:World) (q:Rat) (e:Ending) (w':World):Prop:=∃ p l c b p' l' c',e= ah (au #[aj p l c,ak b,aj p' l' c'])∧Below w.heap.size w w'∧gX w' (au #[aj p l c,ak b,aj p' l' c']) q
theorem ab7 {w:World} {q:Rat} {e:Ending} {w':World} (h:∃ v,e= ah v∧Below w.heap.size w w'∧gX w' v q):aC2 w q e w':=by
 obtain ⟨v,rfl,h,hv⟩:=h;obtain ⟨p,l,c,p',l',c',rfl, -⟩:=id hv;exact ⟨p,l,c,_,p',l',c',rfl,h,hv⟩
def ap4 (u:Value) (w:World) (q:Rat) (e:Ending) (w':World):Prop:=∃ p l c b p' l' c',e= ah (aD #[au #[aj p l c,ak b,aj p' l' c'],u])∧Below w.heap.size w w'∧gX w' (au #[aj p l c,ak b,aj p' l' c']) q
theorem uN {u:Value} {w:World} {q:Rat} {e:Ending} {w':World} (h:∃ v,e= ah (aD #[v,u])∧Below w.heap.size w w'∧gX w' v q):ap4 u w q e w':=by
 obtain ⟨v,rfl,h,hv⟩:=h;obtain ⟨p,l,c,p',l',c',rfl, -⟩:=id hv;exact ⟨p,l,c,_,p',l',c',rfl,h,hv⟩
end Go.gB
