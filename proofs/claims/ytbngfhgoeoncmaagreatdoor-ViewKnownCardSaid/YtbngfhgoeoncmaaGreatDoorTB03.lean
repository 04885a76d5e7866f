/- Lemmas for the proof. No condition. -/
import Derived.Test.YtbngfhgoeoncmaaGreatDoorTB02
import Derived.WalkKit
import Derived.WalkSpells
import Derived.WalkLawsBesides
import Derived.Lib.Hide
import Derived.Laws.OwnMore
import Derived.Laws.ResultCell
import Derived.Laws.Rows
import Derived.Lib.ItoaNum
set_option linter.unusedVariables false
set_option linter.unusedSimpArgs false
set_option maxRecDepth 100000
set_option maxHeartbeats 16000000
open Array renaming getElem?_eq_none → bq
open Bool renaming and_eq_true → aD, false_eq_true → bK, not_eq_true' → iN
open Go.Ending renaming returned → ah
open Go.IntKind renaming i64 → I
open Go.Value renaming agg → aB, int → Z, pointer → au, slice → aj, tuple → aF
open List renaming all_eq_true → bZ, append_assoc → kQ, getD_eq_getElem?_getD → bJ, getElem?_append_left → fq, getElem?_drop → tT, length_cons → aV, map_cons → bL, replicate → bP, take_append_drop → gy, take_of_length_le → kR
open List.cons renaming injEq → iM
open Nat renaming add_mul → dH, div_eq_of_lt → iB, eq_zero_or_pos → bA, le_refl → aG, lt_of_lt_of_le → aP, lt_or_ge → aH, mod_eq_of_lt → gH, mul_assoc → bV, mul_comm → aL, mul_pos → fV, pow_le_pow_right → bX, pow_succ → bF, strongRecOn → fD, zero_add → dS
namespace Go.SW
open Go Go.RowKit
section
variable (P:Program) (ops:Array Oper) (Q:Exit→Act→World→Prop)
def walk (N:Nat):List (K × Nat)→List Nat→Act→World→Prop
 | [],_,a,w=>∀ w',Below w.heap.size w w'→Q .normal a w'
 | (k,i)::is,A,a,w =>
  match ops[i]? with
  | none=>False
  | some o =>
   match k with
   | .pure=>if Region.wanted o (yielded ops a.tmps) then ∃ v,(∀ w',(execOp a.eval o).run P w'= .ok (.value v) w')∧walk N is A (a.put o.dst v) w else walk N is A (a.put o.dst undef) w
   | .read=>if Region.wanted o (yielded ops a.tmps) then ∃ v,(∀ w',Below w.heap.size w w'→(execOp a.eval o).run P w'= .ok (.value v) w')∧walk N is A (a.put o.dst v) w else walk N is A (a.put o.dst undef) w
   | .alloc cs T=>∀ b w',Below w.heap.size w w'→N≤b→b<w'.heap.size→b∉A→w'.heap[b]? =some (.cells cs T (0,0))→walk N is (b::A) (a.put o.dst (au (some ⟨b,0,none⟩))) w'
   | .ext=>if Region.wanted o (yielded ops a.tmps) then ∀ w',Below w.heap.size w w'→o.wp P a w' (fun a' w''=>Below w'.heap.size w' w''∧walk N is A a' w'') Q else walk N is A (a.put o.dst undef) w
   | .fin=>∀ w',Below w.heap.size w w'→wpOps P ops Q (i::is.map (·.2)) a w'
end
section
variable {P:Program} {ops:Array Oper} {Q:Exit→Act→World→Prop}
theorem aj9 {N:Nat}:Bv.Ug N (fun w w'=>Below w.heap.size w w'):=⟨fun _=>Below.refl _ _,kH,id,fun h=>h.size,fun h b _ h2=>h.block b h2⟩
theorem mq {N:Nat}:∀ (is:List (K × Nat)) (A:List Nat) (a:Act) (w:World),walk P ops Q N is A a w→Bv.walk (fun w w'=>Below w.heap.size w w') P ops Q N is A a w
 | [],_,_,_,h=>h
 | (k,i)::is,A,a,w,h=>by
  unfold walk at h;unfold Bv.walk;cases ho:ops[i]? with
  | none=>simp only [ho] at h
  | some o =>
   simp only [ho] at h ⊢;cases k with
   | pure =>
    simp only at h ⊢;split at h
    ·rename_i hw;simp only [hw,if_true];obtain ⟨v,h1,h2⟩:=h;exact ⟨v,h1,mq is _ _ _ h2⟩
    ·rename_i hw;simp only [hw,if_false,bK];exact mq is _ _ _ h
   | read =>
    simp only at h ⊢;split at h
    ·rename_i hw;simp only [hw,if_true];obtain ⟨v,h1,h2⟩:=h;exact ⟨v,h1,mq is _ _ _ h2⟩
    ·rename_i hw;simp only [hw,if_false,bK];exact mq is _ _ _ h
   | alloc cs T=>exact fun b w' h1 h2 h3 h4 h5=>mq is _ _ _ (h b w' h1 h2 h3 h4 h5)
   | ext =>
    simp only at h ⊢;split at h
    ·rename_i hw;simp only [hw,if_true];exact fun w' hb=>Oper.wp_mono (fun a' w'' hk=>⟨hk.1,mq is _ _ _ hk.2⟩) (h w' hb)
    ·rename_i hw;simp only [hw,if_false,bK];exact mq is _ _ _ h
   | fin=>exact h
theorem aQ {id:Nat} {a:Act} {w:World} (is:List (K × Nat)) (hm:P.follows .mixedOrders=true) (hc:check ops is=true) (hal:pR P ops is)
  (hQ:∀ c (a s:Act) w,s.defers=a.defers→Q (.panic c) a w→Q (.panic c) s w)
  (h:walk P ops Q w.heap.size is [] a w.drew):(Code.region id ops true).wp P Q a w:=Bv.aQ is aj9 rfl hm hc hal hQ (mq _ _ _ _ h)
section
variable {N:Nat} {is:List (K × Nat)} {i:Nat} {A:List Nat} {a:Act} {w:World} {o:Oper}
theorem Lg (ho:ops[i]? =some o) (h:∀ J:Act→Prop,(∀ a,walk P ops Q N is A a w→J a) →
  if Region.wanted o (yielded ops a.tmps) then ∃ v,(∀ w',(execOp a.eval o).run P w'= .ok (.value v) w')∧J (a.put o.dst v) else J (a.put o.dst undef)):walk P ops Q N ((.pure,i)::is) A a w:=by
 unfold walk;simp only [ho];exact h (fun a=>walk P ops Q N is A a w) fun _ h=>h
theorem nJ (ho:ops[i]? =some o) (hg:o.guard=none) (h:∀ J:Act→Prop,(∀ a,walk P ops Q N is A a w→J a)→∃ v,(∀ w',(execOp a.eval o).run P w'= .ok (.value v) w')∧J (a.put o.dst v)):walk P ops Q N ((.pure,i)::is) A a w:=by
 unfold walk;simp only [ho,Region.wanted,hg,if_true];exact h (fun a=>walk P ops Q N is A a w) fun _ h=>h
theorem cells_of_cell {w:World} {p:Addr} (h:(w.cell? p).isSome=true):∃ cs T fr,w.heap[p.block]? =some (.cells cs T fr):=by
 unfold World.cell? at h;split at h
 ·rename_i c e f hh;exact ⟨c,e,f,hh⟩
 ·cases h
theorem mY {w w':World} (p:Addr) (hh:w'.heap[p.block]? =w.heap[p.block]?) (hcs:∃ cs T fr,w.heap[p.block]? =some (.cells cs T fr)):∀ (n i:Nat) (acc:Array Value) (v:Array Value),
  (loadCellsFrom p i n acc).run P w= .ok v w→(loadCellsFrom p i n acc).run P w'= .ok v w'
 | 0,i,acc,v,h=>by
  simp [loadCellsFrom] at h ⊢
  exact h
 | n+1,i,acc,v,h=>by
  have hbl:(p.add i).block=p.block:=by unfold Addr.add;split<;>rfl
  have hq:w'.cell? (p.add i)=w.cell? (p.add i):=World.cell?_of_block (by rw [hbl];exact hh);simp only [loadCellsFrom,Sem.run_bind,run_load,hq] at h ⊢;cases hcell:w.cell? (p.add i) with
  | none =>
   obtain ⟨cs,T,fr,hb⟩:=hcs;simp [hcell,Result.andThen,World.farLoad,hbl,hb] at h
  | some u =>
   simp only [hcell,Result.andThen] at h ⊢;exact mY p hh hcs n (i+1) _ v h
theorem tK {w w':World} {T:TypeId} {p:Addr} {v:Value} (hb:Below w.heap.size w w') (hc:(w.cell? p).isSome=true) (h:(loadVar T p).run P w= .ok v w):(loadVar T p).run P w'= .ok v w':=by
 have hcs:=cells_of_cell hc
 have hp:p.block<w.heap.size:=by
  obtain ⟨cs,T,fr,hh⟩:=hcs
  rcases aH p.block w.heap.size with h|h
  ·exact h
  ·rw [bq h] at hh;cases hh
 have hh:=hb.block p.block hp;have hq:w'.cell? p=w.cell? p:=World.cell?_of_block hh;obtain ⟨u,hu⟩:=Option.isSome_iff_exists.1 hc;unfold loadVar at h ⊢;rw [Sem.run_bind] at h ⊢
 have ha:∃ r,∀ x:World,(isAgg T).run P x=match r with|Except.ok b=>Result.ok b x|Except.error e=>Result.halt e x:=by
  cases hT:P.underlying T with
  | none => exact ⟨.error (.stuck "no such type"), fun x => by simp [isAgg, Go.underlying, Sem.run_bind, hT, Result.andThen]⟩
  | some d=>cases d<;>first
   | (refine ⟨.ok true,fun x=>?_⟩;simp [isAgg,Go.underlying,Sem.run_bind,hT,Result.andThen];done)
   | (refine ⟨.ok false,fun x=>?_⟩;simp [isAgg,Go.underlying,Sem.run_bind,hT,Result.andThen];done)
 obtain ⟨r,hr⟩:=ha;rw [hr] at h ⊢;cases r with
 | error e=>simp [Result.andThen] at h
 | ok b =>
  simp only [Result.andThen] at h ⊢;cases b with
  | false =>
   simp only [bK,if_false,run_load,hq,hu] at h ⊢
   injection h with h1
   rw [h1]
  | true =>
   simp only [if_true,Sem.run_bind,sizeOf,typeInfo] at h ⊢;cases hi:P.info? T with
   | none=>simp [hi,Result.andThen] at h
   | some i =>
    simp [hi,Result.andThen] at h ⊢
    unfold loadCells at h ⊢;cases hl:(loadCellsFrom p 0 i.size #[]).run P w with
    | halt e x=>simp [hl] at h
    | ok c x =>
     simp [hl] at h
     obtain ⟨h1,h2⟩:=h;rw [h2] at hl;rw [mY p hh hcs _ _ _ _ hl];simp [h1]
theorem BA {T:TypeId} {x:Operand} {p:Addr} (ho:ops[i]? =some o) (hg:o.guard=none) (hop:o.op= .load T x) (hx:a.eval x= au (some p))
  (h:∀ J:Value→Prop,(∀ v,walk P ops Q N is A (a.put o.dst v) w→J v)→(w.cell? p).isSome=true∧∃ v,(loadVar T p).run P w= .ok v w∧J v):walk P ops Q N ((.read,i)::is) A a w:=by
 unfold walk;simp only [ho,Region.wanted,hg,if_true];obtain ⟨h1,v,h2,h3⟩:=h (fun v=>walk P ops Q N is A (a.put o.dst v) w) fun _ h=>h;refine ⟨v,fun w' hb=>?_,h3⟩;simp only [execOp,hop,hx,Instr.loadAt,Instr.sureAddr,Sem.run_bind,Sem.run_pure,Result.andThen_ok,tK hb h1 h2]
theorem aN (ho:ops[i]? =some o) (hg:o.guard=none) (h:∀ w',Below w.heap.size w w'→∀ J:Act→World→Prop,(∀ a' w'',Below w'.heap.size w' w''→walk P ops Q N is A a' w''→J a' w'')→o.wp P a w' J Q):walk P ops Q N ((.ext,i)::is) A a w:=by
 unfold walk;simp only [ho,Region.wanted,hg,if_true];exact fun w' hb=>h w' hb _ fun a' w'' h1 h2=>⟨h1,h2⟩
theorem fE {cs:Array Value} {T:TypeId} (ho:ops[i]? =some o) (h:∀ b w',Below w.heap.size w w'→N≤b→b<w'.heap.size→b∉A→w'.heap[b]? =some (.cells cs T (0,0))→walk P ops Q N is (b::A) (a.put o.dst (au (some ⟨b,0,none⟩))) w'):walk P ops Q N ((.alloc cs T,i)::is) A a w:=by
 unfold walk;simp only [ho];exact h
theorem ou:∀ (js:List Nat) (l:List Oper) (a:Act) (w:World),js.map (ops[·]?)=l.map some→wpList P ops Q l a w→wpOps P ops Q js a w
 | [],[],_,_,_,h=>h
 | [],_:: _,_,_,hl,_=>by cases hl
 | _:: _,[],_,_,hl,_=>by cases hl
 | j::js,x::xs,a,w,hl,h=>by
  simp only [bL,iM] at hl;unfold wpList at h;simp only [wpOps,hl.1];split
  ·rename_i hw;simp only [hw,if_true] at h;exact h.imp (Oper.wp_mono fun a w h=>ou js xs a w hl.2 h) id
  ·rename_i hw;simp only [hw] at h;exact ou js xs _ _ hl.2 h
theorem bT (l:List Oper) (hl:(i::is.map (·.2)).map (ops[·]?)=l.map some) (h:∀ w',Below w.heap.size w w'→wpList P ops Q l a w'):walk P ops Q N ((.fin,i)::is) A a w:=by
 have hi:∃ o,ops[i]? =some o:=by
  cases l with
  | nil=>cases hl
  | cons x xs=>simp only [bL,iM] at hl;exact ⟨x,hl.1⟩
 obtain ⟨o,ho⟩:=hi;unfold walk;simp only [ho];exact fun w' hb=>ou _ l a w' hl (h w' hb)
end
end
end Go.SW
namespace Go.Mem
open Go Go.RowKit Go.SW Go.Num
def aA (w:World) (b:Nat) (cs:Array Value) (T:TypeId):Prop:=w.heap[b]? =some (.cells cs T (0,0))
theorem aA.lt {w:World} {b:Nat} {cs:Array Value} {T:TypeId} (h:aA w b cs T):b<w.heap.size:=by
 rcases aH b w.heap.size with h1|h1
 ·exact h1
 ·unfold aA at h;rw [bq h1] at h;cases h
theorem aA.cell {w:World} {b:Nat} {cs:Array Value} {T:TypeId} (h:aA w b cs T) (o:Nat):w.cell? ⟨b,o,none⟩=cs[o]? :=by
 unfold aA at h;simp [World.cell?, h]
theorem aA.free {w:World} {b:Nat} {cs:Array Value} {T:TypeId} (h:aA w b cs T) (o:Nat):w.frozen? ⟨b,o,none⟩=false:=by
 unfold aA at h;simp [World.frozen?, h]
theorem aA.later {w w':World} {b:Nat} {cs:Array Value} {T:TypeId} (h:aA w b cs T) (hb:Below w.heap.size w w'):aA w' b cs T:=by
 unfold aA;rw [hb.block b h.lt];exact h
theorem aA.new (w:World) (cs:Array Value) (T:TypeId):aA (w.alloc (.cells cs T (0,0))) w.heap.size cs T:=by
 show (w.heap.push _)[w.heap.size]? =_;simp
theorem aA.alloc {w:World} {b:Nat} {cs:Array Value} {T:TypeId} (h:aA w b cs T) (o:Obj):aA (w.alloc o) b cs T :=
 h.later ((Below.refl _ _).alloc (aG _) _)
theorem aA.drew {w:World} {b:Nat} {cs:Array Value} {T:TypeId} (h:aA w b cs T):aA w.drew b cs T:=h
theorem z8 {w:World} {b:Nat} (a:Addr) (u:Value) (h:b≠a.block):(w.setCell a u).heap[b]? =w.heap[b]? :=Below.heap_setCell w a u b h
theorem aA.setOther {w:World} {b:Nat} {cs:Array Value} {T:TypeId} (h:aA w b cs T) {a:Addr} (u:Value) (hne:b≠a.block):aA (w.setCell a u) b cs T:=by
 unfold aA;rw [z8 a u hne];exact h
theorem aA.set {w:World} {b:Nat} {cs:Array Value} {T:TypeId} (h:aA w b cs T) (o:Nat) (u:Value):aA (w.setCell ⟨b,o,none⟩ u) b (cs.setIfInBounds o u) T:=by
 have hl:=h.lt;unfold aA at h ⊢;have e:w.heap[b]= .cells cs T (0,0):=by simpa [hl] using h
 simp [World.setCell,hl,Array.getElem_modify,e]
theorem aA.ne {w:World} {b b':Nat} {cs cs':Array Value} {T T':TypeId} (h:aA w b cs T) (h':aA w b' cs' T') (hT:T≠T'):b≠b':=by
 rintro rfl;unfold aA at h h';rw [h] at h'
 injection h' with e
 injection e with _ e2
 exact hT e2
theorem OQ {w w':World} {n:Nat} (h:Below (w.drewN n).heap.size (w.drewN n) w'):Below w.heap.size w w':=⟨h.os,h.tape,h.output,h.size,h.block⟩
theorem Bt {w w1 w2:World} (h:Below w.heap.size w w1) (k:Below w1.heap.size w1 w2):Below w.heap.size w w2:=kH h k
def Row (w:World) (T:TypeId) (v:Value) (xs:List Value):Prop :=
 ∃ a cap,v= aj a xs.length cap∧xs.length≤cap∧cap≤9223372036854775807∧(a=none→cap=0) ∧
  ∀ ad,a=some ad→ad.spot=none∧∃ arr,w.heap[ad.block]? =some (.cells arr T (0,0))∧∀ i (h:i<xs.length),arr[ad.off+i]? =some xs[i]
theorem Row.later {w w':World} {T:TypeId} {v:Value} {xs:List Value} (h:Row w T v xs) (hb:Below w.heap.size w w'):Row w' T v xs:=by
 obtain ⟨a,cap,h1,h2,h3,h4,h5⟩:=h;refine ⟨a,cap,h1,h2,h3,h4,fun ad had=>?_⟩;obtain ⟨h6,arr,h7,h8⟩:=h5 ad had;have hx:aA w ad.block arr T:=h7;exact ⟨h6,arr,hx.later hb,h8⟩
theorem Row.setOther {w:World} {T:TypeId} {v:Value} {xs:List Value} (h:Row w T v xs) {b:Nat} {cs:Array Value} {T':TypeId} (hx:aA w b cs T') (hT:T≠T') (o:Nat) (u:Value):Row (w.setCell ⟨b,o,none⟩ u) T v xs:=by
 obtain ⟨a,cap,h1,h2,h3,h4,h5⟩:=h;refine ⟨a,cap,h1,h2,h3,h4,fun ad had=>?_⟩;obtain ⟨h6,arr,h7,h8⟩:=h5 ad had;have hy:aA w ad.block arr T:=h7;exact ⟨h6,arr,hy.setOther u (hy.ne hx hT),h8⟩
theorem Row.nil (w:World) (T:TypeId):Row w T (aj none 0 0) []:=⟨none,0,rfl,by simp,by simp,fun _=>rfl,fun _ h=>by cases h⟩
theorem Row.cases {w:World} {T:TypeId} {v:Value} {xs:List Value} (h:Row w T v xs) :
  (v= aj none 0 0∧xs=[])∨∃ b off cap arr,v= aj (some ⟨b,off,none⟩) xs.length cap∧xs.length≤cap∧cap≤9223372036854775807∧aA w b arr T∧∀ i (h:i<xs.length),arr[off+i]? =some xs[i]:=by
 obtain ⟨a,cap,h1,h2,h3,h4,h5⟩:=h;cases a with
 | none =>
  have h6:=h4 rfl;have h7:xs=[]:=List.length_eq_zero_iff.1 zo;subst h6 h7;exact .inl ⟨h1,rfl⟩
 | some ad =>
  obtain ⟨h6,arr,h7,h8⟩:=h5 ad rfl;obtain ⟨b,off,sp⟩:=ad;simp only at h6;subst h6;exact .inr ⟨b,off,cap,arr,h1,h2,h3,h7,h8⟩
theorem Row.mk {w:World} {T:TypeId} {xs:List Value} {b off cap n:Nat} {arr:Array Value} (hn:n=xs.length) (h2:xs.length≤cap) (h3:cap≤9223372036854775807) (h7:aA w b arr T) (h8:∀ i (h:i<xs.length),arr[off+i]? =some xs[i]) :
  Row w T (aj (some ⟨b,off,none⟩) n cap) xs:=by
 subst hn;exact ⟨_,_,rfl,h2,h3,(fun h=>by cases h),fun ad had=>by cases had;exact ⟨rfl,arr,h7,h8⟩⟩
def dB (l:List Nat):List Value:=l.map fun (d:Nat)=>Z .u32 (d:Int)
def ints (l:List Nat):List Value:=l.map fun (d:Nat)=>Z I (d:Int)
theorem dO (l:List Nat):(dB l).length=l.length:=by simp [dB]
theorem je (l:List Nat):(ints l).length=l.length:=by simp [ints]
def aT (w:World) (v:Value) (n:Nat):Prop:=Row w 22 v (dB (fG 1000000000 n))
theorem aT.later {w w':World} {v:Value} {n:Nat} (h:aT w v n) (hb:Below w.heap.size w w'):aT w' v n:=Row.later h hb
theorem aT.setOther {w:World} {v:Value} {n:Nat} (h:aT w v n) {b:Nat} {cs:Array Value} {T':TypeId} (hx:aA w b cs T') (hT:22≠T') (o:Nat) (u:Value):aT (w.setCell ⟨b,o,none⟩ u) v n:=Row.setOther h hx hT o u
def kP (w:World) (v:Value) (l:List Nat):Prop:=Row w 22 v (dB l)
theorem kP.later {w w':World} {v:Value} {l:List Nat} (h:kP w v l) (hb:Below w.heap.size w w'):kP w' v l:=Row.later h hb
theorem kP.cases {w:World} {v:Value} {l:List Nat} (h:kP w v l) :
  (v= aj none 0 0∧l=[])∨∃ b off cap,v= aj (some ⟨b,off,none⟩) l.length cap∧l.length≤cap∧cap≤9223372036854775807∧b<w.heap.size∧(∃ arr,aA w b arr 22)∧∀ i,i<l.length→w.cell? ⟨b,off+i,none⟩=some (.int .u32 (l.getD i 0:Nat)):=by
 rcases Row.cases h with ⟨h1,h2⟩|⟨b,off,cap,arr,h1,h2,h3,h4,h5⟩
 ·refine .inl ⟨h1,?_⟩;unfold dB at h2
  simpa using h2
 ·refine .inr ⟨b,off,cap,by rw [h1,dO],by rwa [dO] at h2,h3,h4.lt,⟨arr,h4⟩,fun i hi=>?_⟩;rw [h4.cell,h5 i (by rw [dO];exact hi)];simp [dB,hi]
theorem kP.read {w:World} {v:Value} {l:List Nat} (h:kP w v l) :
  ∃ a cap,v= aj a l.length cap∧l.length≤cap∧cap≤9223372036854775807∧∀ k,k<l.length→∃ b off,a=some ⟨b,off,none⟩∧b<w.heap.size∧w.cell? ⟨b,off+k,none⟩=some (.int .u32 (l.getD k 0:Nat)):=by
 rcases kP.cases h with ⟨rfl,rfl⟩|⟨b,off,cap,rfl,h1,h2,h3,_,h5⟩
 ·exact ⟨none,0,rfl,by simp,by simp,fun k hk=>by cases hk⟩
 ·exact ⟨some ⟨b,off,none⟩,cap,rfl,h1,h2,fun k hk=>⟨b,off,rfl,h3,h5 k hk⟩⟩
theorem aT.II {w:World} {v:Value} {l:List Nat} (h:kP w v l) (hd:gF 1000000000 l) (ht:Top l):aT w v (val 1000000000 l):=by
 unfold aT;rw [F6 zo hd ht];exact h
theorem aT.xM {w:World} {v:Value} {n:Nat} (h:aT w v n):kP w v (fG 1000000000 n):=h
theorem Row.jN {w:World} {base k:Nat} {T:TypeId} {v:Value} {xs:List Value} (h:w.ownsRow base T 1 v k xs):Row w T v xs:=by
 obtain ⟨h1,h2|⟨g,cap,cur,h3,h4,h5,h6,h7,h8,h9⟩⟩:=h
 ·obtain ⟨rfl,rfl⟩:=h2;have:xs=[]:=List.length_eq_zero_iff.1 zo;subst this;exact Row.nil _ _
 ·rw [Nat.mul_one] at h1 h8 h9;subst h3;unfold maxLen at h7;refine Row.mk h1.symm zo h7 h5 fun i hi=>?_;have hik:i<k:=by omega
  rw [dS];have:xs[i]? =(cur.toList.take k)[i]? :=by rw [h9]
  rw [List.getElem?_take_of_lt hik] at this;rw [← Array.getElem?_toList,← this];simp [hi]
theorem kP.jN {w:World} {base k:Nat} {v:Value} {s:List Nat} (h:w.ownsRow base 22 1 v k (dB s)):kP w v s:=Row.jN h
theorem o7 (n:Nat):(madeCells #[Value.int .u32 0] n).toList=dB (bP n 0):=by
 rw [toList_madeCells_one];simp [dB]
theorem jY (l:List Nat) (k d:Nat):(dB l).set k (Z .u32 (d:Int))=dB (l.set k d):=by simp [dB,List.map_set]
theorem mE {l:List Nat} {k:Nat} (h:k<l.length):(dB l)[k]? =some (.int .u32 (l.getD k 0:Nat)):=by simp [dB,h]
theorem BO (w:World) (g:Option Nat):w.grownBy w g:=⟨rfl,rfl,rfl,aG _,fun _ _ _=>rfl⟩
theorem ko {a w:World} {g:Option Nat} (h:a.grownBy w g) (n:Nat):a.grownBy (w.drewN n) g:=⟨h.os,h.tape,h.output,h.size,h.block⟩
theorem rD {a w:World} {g:Nat} (h:a.grownBy w (some g)) (o:Nat) (u:Value):a.grownBy (w.setCell ⟨g,o,none⟩ u) (some g) :=
 ⟨h.os,h.tape,h.output,by simpa [World.setCell] using h.size,fun i hi hne=>(Below.heap_setCell w _ u i (by rintro rfl;exact hne rfl)).trans (h.block i hi hne)⟩
theorem tN {B g:Nat} {a b c:World} (h:Below B a b) (k:b.grownBy c (some g)) (hB:B≤b.heap.size) (hg:B≤g):Below B a c :=
 h.grown k hB (fun k hk=>by cases hk;exact hg)
theorem wP {w:World} {base g n:Nat} {T:TypeId} {xs:List Value} (h:w.ownsRow base T 1 (aj (some ⟨g,0,none⟩) n n) n xs):aA w g xs.toArray T∧base≤g:=by
 obtain ⟨h1,h2|⟨g',cap,cur,h3,h4,h5,h6,h7,h8,h9⟩⟩:=h
 ·cases h2.1
 ·simp only [Value.slice.injEq,Option.some.injEq,Addr.mk.injEq,and_true,true_and] at h3;obtain ⟨rfl,rfl⟩:=h3;rw [Nat.mul_one] at h8 h9;rw [kR (by rw [Array.length_toList,h8];exact aG _)] at h9;exact ⟨by unfold aA;rw [h5,← h9],h4⟩
theorem kP.zC {w:World} {g n m:Nat} {l post:List Nat} (h:aA w g (dB (l++post)).toArray 22) (hl:l.length=n) (hm:n≤m) (hm2:m≤9223372036854775807):kP w (aj (some ⟨g,0,none⟩) n m) l:=by
 refine Row.mk (by rw [dO];omega) (by rw [dO];omega) hm2 h fun i hi=>?_;rw [dO] at hi;rw [dS,List.getElem?_toArray];simp [dB,hi,fq]
theorem aT.lit {w:World} {d:Nat} (h0:0<d) (h1:d<1000000000):aT (w.alloc (.cells #[Z .u32 d] 22 (0,0))) (aj (some ⟨w.heap.size,0,none⟩) 1 1) d:=by
 have e:fG 1000000000 d=[d]:=by rw [j3 zo h0,gH h1,iB h1,gY]
 unfold aT;rw [e];refine Row.mk rfl (by simp [dB]) zo (aA.new _ _ _) fun i hi=>?_
 match i,hi with
 | 0,_=>rfl
theorem aT.zero (w:World):aT w (aj none 0 0) 0:=by unfold aT;rw [gY];exact Row.nil _ _
theorem Cw (l:List Nat):∀ v∈dB l,v.oneCell'=true:=fun v hv=>by
 obtain ⟨d,_,rfl⟩:=List.mem_map.1 hv;rfl
theorem kP.src {w:World} {a:Option Addr} {l:List Nat} (h:∀ k,k<l.length→∃ b off,a=some ⟨b,off,none⟩∧b<w.heap.size∧w.cell? ⟨b,off+k,none⟩=some (.int .u32 (l.getD k 0:Nat))) (hl:0<(dB l).length) :
  ∃ ad,a=some ad∧∀ j v,(dB l)[j]? =some v→w.cell? (ad.add j)=some v:=by
 rw [dO] at hl;obtain ⟨b,off,rfl,_,_⟩:=h 0 hl;refine ⟨_,rfl,fun j v hv=>?_⟩
 have hj:j<l.length:=by
  have:=(List.getElem?_eq_some_iff.1 hv).1;rwa [dO] at this
 obtain ⟨b',off',h1,_,h3⟩:=h j hj;simp only [Option.some.injEq,Addr.mk.injEq,and_true] at h1;obtain ⟨rfl,rfl⟩:=h1;rw [mE hj] at hv;rw [Addr.add_lit,h3,← hv]
end Go.Mem
namespace Go.Mem
open Go Go.RowKit
variable {P:Program} {fn:Func} {R:Ending→World→Prop} {w:World} {tmps:Array Value}
theorem qZ {p u:Tmp} {ty t:TypeId} {g:Nat} {cs:Array Value} {d:TypeDesc} (h:fn.results=#[.cell p ty,.tmp u])
  (hp:tmps.getD p undef= au (some ⟨g,0,none⟩)) (hg:aA w g cs t) (hu:P.underlying ty=some d)
  (hd:(match d with| .struct _| .array _ _=>true| _=>false)=true) (hi:(P.info? ty).map (·.size)=some cs.size) :
  (results fn tmps).run P w= .ok (aF #[aB cs,tmps.getD u undef]) w:=by
 rw [results_cell_tmp h,hp];simp only [asAddr,Sem.run_pure,Result.andThen_ok];rw [run_loadVar_row w g t ty cs (0,0) d hg hu hd hi];rfl
theorem bE {p u:Tmp} {ty t:TypeId} {g:Nat} {cs:Array Value} {d:TypeDesc} (h:fn.results=#[.cell p ty,.tmp u])
  (hp:tmps.getD p undef= au (some ⟨g,0,none⟩)) (hg:aA w g cs t) (hu:P.underlying ty=some d)
  (hd:(match d with| .struct _| .array _ _=>true| _=>false)=true) (hi:(P.info? ty).map (·.size)=some cs.size)
  (k:R (ah (aF #[aB cs,tmps.getD u undef])) w):bodyPost P fn R .ret { tmps:=tmps,defers:=[] } w :=
 bodyPost_ret (qZ h hp hg hu hd hi) rfl k
theorem iX {p:Tmp} {ty t:TypeId} {g:Nat} {cs:Array Value} {d:TypeDesc} (h:fn.results=#[.cell p ty])
  (hp:tmps.getD p undef= au (some ⟨g,0,none⟩)) (hg:aA w g cs t) (hu:P.underlying ty=some d)
  (hd:(match d with| .struct _| .array _ _=>true| _=>false)=true) (hi:(P.info? ty).map (·.size)=some cs.size)
  (k:R (ah (aB cs)) w):bodyPost P fn R .ret { tmps:=tmps,defers:=[] } w :=
 bodyPost_ret (results_cell_row h tmps w g t cs (0,0) d hp hg hu hd hi) rfl k
end Go.Mem
namespace Go.Dec
open Go.Num Go.Lib
theorem iC {u:Nat} (h:u<10):decDigits u=[UInt8.ofNat (48+u)]:=by rw [decDigits,dif_pos h]
theorem oo {u:Nat} (h:¬ u<10):decDigits u=decDigits (u / 10)++[UInt8.ofNat (48+u%10)]:=by rw [decDigits,dif_neg h]
theorem rM (u:Nat):decDigits u≠[]:=by
 by_cases h:u<10
 ·rw [iC h];simp
 ·rw [oo h];simp
theorem Ga (u:Nat):1≤(decDigits u).length:=List.length_pos_iff.mpr (rM u)
def pad:Nat→Nat→List UInt8
 | 0,_=>[]
 | k+1,r=>pad k (r / 10)++[UInt8.ofNat (48+r%10)]
theorem zA:∀ k r,(pad k r).length=k
 | 0,_=>rfl
 | k+1,r=>by simp [pad,zA k]
theorem zy:∀ k,pad k 0=bP k 48
 | 0=>rfl
 | k+1=>by
  rw [pad,Nat.zero_div,zy k,List.replicate_succ'];rfl
theorem Dm:∀ (k q r:Nat),0<q→r<10^k→decDigits (q*10^k+r)=decDigits q++pad k r
 | 0,q,r,hq,hr=>by
  have:r=0:=by simpa using hr
  subst this;simp [pad]
 | k+1,q,r,hq,hr=>by
  have hp:0<10^k:=Nat.pow_pos zd;have e:q*10^(k+1)+r=10*(q*10^k)+r:=by rw [bF,aL 10,bV]
  have h1:0<q*10^k:=fV hq hp
  rw [oo zo,e,show (10*(q*10^k)+r) / 10=q*10^k+r / 10 by omega,show (10*(q*10^k)+r)%10=r%10 by omega,
   Dm k q (r / 10) hq (by rw [bF] at hr;omega),pad,kQ]
theorem Al:∀ (k r:Nat),0<k→r<10^k→bP (k - (decDigits r).length) 48++decDigits r=pad k r
 | 0,_,h,_=>by omega
 | k+1,r,_,hr=>by
  by_cases h:r<10
  ·rw [iC h,pad,iB h,gH h,zy];simp
  ·have hk:0<k:=by
    rcases bA k with h0|h0
    ·subst h0;simp at hr;omega
    ·exact h0
   rw [oo h,pad,← Al k (r / 10) hk (by rw [bF] at hr;omega)];simp
theorem lW:∀ (k r:Nat),0<k→r<10^k→(decDigits r).length≤k:=fun k r hk hr=>by
 by_cases h:(decDigits r).length≤k
 ·exact h
 ·have h1:=congrArg List.length (Al k r hk hr);rw [List.length_append,List.length_replicate,zA] at h1;omega
theorem Aj (n:Nat):n<10^(decDigits n).length:=by
 induction n using fD with
 | _ n ih =>
  by_cases h:n<10
  ·rw [iC h];simpa using h
  ·rw [oo h,List.length_append,List.length_singleton,bF];have:=ih (n / 10) zo;omega
def num (l:List UInt8):Nat:=l.foldl (fun v b=>v*10+(b.toNat - 48)) 0
def qG (l:List UInt8):Prop:=∀ b∈l,48≤b.toNat∧b.toNat≤57
theorem oV (l:List UInt8) (b:UInt8):num (l++[b])=num l*10+(b.toNat - 48):=by simp [num]
theorem CX:num []=0:=rfl
theorem vW:∀ (m:List UInt8) (v:Nat),m.foldl (fun v b=>v*10+(b.toNat - 48)) v=v*10^m.length+num m
 | [],v=>by simp [num]
 | b::m,v=>by
  have h1:=vW m (v*10+(b.toNat - 48));have h2:=vW m (0*10+(b.toNat - 48));rw [List.foldl_cons,h1];have e:num (b::m)=m.foldl (fun v b=>v*10+(b.toNat - 48)) (0*10+(b.toNat - 48)):=rfl;rw [e,h2,aV,bF,dH,dH,bV,aL (10^m.length) 10];omega
theorem zG (l m:List UInt8):num (l++m)=num l*10^m.length+num m:=by
 unfold num;rw [List.foldl_append,vW];rfl
theorem EO {α:Type} {Q:List α→Prop} (h0:Q []) (h1:∀ l a,Q l→Q (l++[a])) (l:List α):Q l:=by
 have h:∀ m:List α,Q m.reverse:=fun m=>by
  induction m with
  | nil=>exact h0
  | cons a m ih=>rw [List.reverse_cons];exact h1 _ _ ih
 have:=h l.reverse
 rwa [List.reverse_reverse] at this
theorem Wt (l:List UInt8):qG l→num l<10^l.length :=
 EO (Q:=fun l=>qG l→num l<10^l.length) (fun _=>by simp [num]) (fun l b ih h=>by
  rw [oV,List.length_append,List.length_singleton,bF];have h1:=ih fun x hx=>h x (by simp [hx]);have h2:=h b zi;omega) l
theorem F7 {l m:List UInt8} (h:qG l) (k:qG m):qG (l++m):=fun b hb=>by
 rcases List.mem_append.mp hb with hb|hb
 ·exact h b hb
 ·exact k b hb
theorem nT {d:Nat} (h:d<10):(UInt8.ofNat (48+d)).toNat=48+d:=by
 rw [UInt8.toNat_ofNat'];omega
theorem lg (n:Nat):qG (decDigits n):=by
 induction n using fD with
 | _ n ih =>
  by_cases h:n<10
  ·rw [iC h];intro b hb;rw [List.mem_singleton] at hb;subst hb;rw [nT h];omega
  ·rw [oo h];refine F7 (ih _ zo) fun b hb=>?_;rw [List.mem_singleton] at hb;subst hb;rw [nT zo];omega
theorem mo (n:Nat):num (decDigits n)=n:=by
 induction n using fD with
 | _ n ih =>
  by_cases h:n<10
  ·rw [iC h,← List.nil_append [UInt8.ofNat (48+n)],oV,CX,nT h];omega
  ·rw [oo h,oV,ih _ zo,nT zo];omega
theorem TL (l:List UInt8):qG l→l≠[]→(l.head? =some 48→l.length=1)→decDigits (num l)=l :=
 EO (Q:=fun l=>qG l→l≠[]→(l.head? =some 48→l.length=1)→decDigits (num l)=l) (fun _ h=>absurd rfl h) (fun l b ih hd _ h0=>by
  have hb:=hd b zi
  have hbe:UInt8.ofNat (48+(b.toNat - 48))=b:=by
   rw [show 48+(b.toNat - 48)=b.toNat by omega];exact UInt8.ofNat_toNat
  by_cases hl:l=[]
  ·subst hl;rw [oV,CX,List.nil_append,iC zo,Nat.zero_mul,dS,hbe]
  ·have hdl:qG l:=fun x hx=>hd x (by simp [hx])
   have hh:l.head? ≠some 48:=fun e=>by
    have e2:(l++[b]).head? =some 48:=by rw [List.head?_append,e];rfl
    have:=h0 e2;rw [List.length_append,List.length_singleton] at this;have:=List.length_pos_iff.mpr hl;omega
   have ih2:=ih hdl hl (fun e=>absurd e hh)
   have hpos:0<num l:=by
    rcases bA (num l) with e|e
    ·rw [e,iC zo] at ih2;rw [← ih2] at hh;exact absurd rfl hh
    ·exact e
   rw [oV,oo zo,show (num l*10+(b.toNat - 48)) / 10=num l by omega,show (num l*10+(b.toNat - 48))%10=b.toNat - 48 by omega,ih2,hbe]) l
theorem Ak {n:Nat} (h:(decDigits n).head? =some 48):n=0:=by
 induction n using fD with
 | _ n ih =>
  by_cases hn:n<10
  ·rw [iC hn] at h;simp only [List.head?_cons,Option.some.injEq] at h;have:=congrArg UInt8.toNat h;rw [nT hn] at this;simp at this
   omega
  ·rw [oo hn] at h
   have h2:(decDigits (n / 10)).head? =some 48:=by
    cases hq:decDigits (n / 10) with
    | nil=>exact absurd hq (rM _)
    | cons x t=>rw [hq] at h;simpa using h
   have:=ih _ zo h2;omega
def kX (d:List UInt8) (neg:Bool):Bool :=
 d≠[]&&d.length≤600&&d.all (fun b=>48≤b.toNat&&b.toNat≤57)&& !(d.head? == some 48&&(neg || 1<d.length))
def cut (s:List UInt8):List UInt8 × Bool:=if s.head? =some 45 then (s.tail,true) else (s,false)
def mk (n:Nat) (neg:Bool):Int:=if neg then -(n:Int) else n
def whole (s:List UInt8):Option Int:=if kX (cut s).1 (cut s).2 then some (mk (num (cut s).1) (cut s).2) else none
theorem Fw {d:List UInt8} {neg:Bool} (h:kX d neg=true):qG d:=by
 intro b hb;unfold kX at h;simp only [aD] at h;have:=List.all_eq_true.mp h.1.2 b hb
 simpa using this
theorem nI {s:List UInt8} {z:Int} (h:whole s=some z):s=itoa z∧(decDigits z.natAbs).length≤600:=by
 unfold whole at h;split at h
 ·rename_i hok;have hd:=Fw hok;unfold kX at hok;simp only [aD,iN,decide_eq_true_eq] at hok;obtain ⟨⟨⟨h1,h2⟩, -⟩,h4⟩:=hok
  have hlen:(cut s).1.head? =some 48→(cut s).1.length=1:=fun e=>by
   have:=List.length_pos_iff.mpr h1;rw [e] at h4;simp at h4
   omega
  have hdn:=TL _ hd h1 hlen;simp only [Option.some.injEq] at h;unfold cut at *
  by_cases hs:s.head? =some 45
  ·rw [if_pos hs] at *;simp only at *
   have hz:0<num s.tail:=by
    rcases bA (num s.tail) with e|e
    ·rw [e,iC zo] at hdn;rw [← hdn] at h4;simp at h4
    ·exact e
   subst h;have e1:mk (num s.tail) true= -((num s.tail:Nat):Int):=rfl;have e2:(-((num s.tail:Nat):Int)).natAbs=num s.tail:=by omega
   rw [e1,e2,hdn];refine ⟨?_,h2⟩;unfold itoa;rw [if_pos zo,e2,hdn];cases s with
   | nil=>simp at hs
   | cons x t=>simp only [List.head?_cons,Option.some.injEq] at hs;subst hs;rfl
  ·rw [if_neg hs] at *;simp only at *;subst h;have e1:mk (num s) false=((num s:Nat):Int):=rfl;rw [e1,Int.natAbs_natCast,hdn];refine ⟨?_,h2⟩;unfold itoa;rw [if_neg zo,Int.toNat_natCast,hdn]
 ·simp at h
theorem eT {z:Int} (h:(decDigits z.natAbs).length≤600):whole (itoa z)=some z:=by
 unfold whole
 by_cases hz:z<0
 ·have e:itoa z=45::decDigits z.natAbs:=by unfold itoa;rw [if_pos hz]
  have ec:cut (itoa z)=(decDigits z.natAbs,true):=by rw [e];rfl
  rw [ec];have hh:(decDigits z.natAbs).head? ≠some 48:=fun e=>by have:=Ak e;omega
  rw [if_pos,mo]
  ·have:mk z.natAbs true=z:=by unfold mk;rw [if_pos rfl];omega
   rw [this]
  ·unfold kX;have hd:=lg z.natAbs;simp only [aD,decide_eq_true_eq,bZ,iN,Bool.and_eq_false_iff];exact ⟨⟨⟨rM _,h⟩,hd⟩,.inl (by simpa using hh)⟩
 ·have e:itoa z=decDigits z.natAbs:=by unfold itoa;rw [if_neg hz,show z.toNat=z.natAbs by omega]
  have hnm:(itoa z).head? ≠some 45:=by
   rw [e];intro h1;have hd:=lg z.natAbs;cases hq:decDigits z.natAbs with
   | nil=>exact rM _ hq
   | cons x t =>
    rw [hq] at h1 hd;simp only [List.head?_cons,Option.some.injEq] at h1;have:=hd x zi;subst h1;simp at this
  have ec:cut (itoa z)=(decDigits z.natAbs,false):=by unfold cut;rw [if_neg hnm,e]
  rw [ec,if_pos,mo]
  ·have:mk z.natAbs false=z:=by unfold mk;simp;omega
   rw [this]
  ·unfold kX;have hd:=lg z.natAbs;simp only [aD,decide_eq_true_eq,bZ,iN,Bool.and_eq_false_iff];refine ⟨⟨⟨rM _,h⟩,hd⟩,?_⟩
   by_cases hh:(decDigits z.natAbs).head? =some 48
   ·have:=Ak hh
    right
    rw [this,iC zo];rfl
   ·exact .inl (by simpa using hh)
theorem Gb (z:Int):cut (itoa z)=(decDigits z.natAbs,decide (z<0)):=by
 by_cases hz:z<0
 ·have e:itoa z=45::decDigits z.natAbs:=by unfold itoa;rw [if_pos hz]
  rw [e,decide_eq_true hz];rfl
 ·have e:itoa z=decDigits z.natAbs:=by unfold itoa;rw [if_neg hz,show z.toNat=z.natAbs by omega]
  have hnm:(itoa z).head? ≠some 45:=by
   rw [e];intro h1;have hd:=lg z.natAbs;cases hq:decDigits z.natAbs with
   | nil=>exact rM _ hq
   | cons x t =>
    rw [hq] at h1 hd;simp only [List.head?_cons,Option.some.injEq] at h1;have:=hd x zi;subst h1;simp at this
  unfold cut;rw [if_neg hnm,e,decide_eq_false hz]
theorem FL {a b:Int} (h:itoa a=itoa b):a=b:=by
 unfold itoa at h
 have key:∀ (n m:Nat),45::decDigits n≠decDigits m:=fun n m e=>by
  have:=lg m 45 (by rw [← e];simp);simp at this
 by_cases ha:a<0<;>by_cases hb:b<0
 ·rw [if_pos ha,if_pos hb] at h;have:=congrArg num (List.cons.inj h).2;rw [mo,mo] at this;omega
 ·rw [if_pos ha,if_neg hb] at h;exact absurd h (key _ _)
 ·rw [if_neg ha,if_pos hb] at h;exact absurd h.symm (key _ _)
 ·rw [if_neg ha,if_neg hb] at h;have:=congrArg num h;rw [mo,mo] at this;omega
theorem Ca {l:List Nat} {i:Nat} (hi:i<l.length) (hd:gF 1000000000 l) (hp:0<val 1000000000 (l.drop (i+1))) :
  decDigits (val 1000000000 (l.drop i))=decDigits (val 1000000000 (l.drop (i+1)))++(bP (9 - (decDigits (l.getD i 0)).length) 48++decDigits (l.getD i 0)):=by
 have hx:l.getD i 0<10^9:=hd.getD zo i;rw [Al 9 _ zo hx,yN hi,← Dm 9 _ _ hp hx]
theorem EH {l:List Nat} (h:Top l) (i:Nat):Top (l.drop i):=fun k hk=>by
 rw [List.length_drop] at hk;have:=h (i+k) zo;rw [bJ,tT]
 rwa [bJ] at this
theorem rO {l:List Nat} (h:gF 1000000000 l):(decDigits (val 1000000000 l)).length≤9*l.length+1:=by
 refine lW _ _ zo (aP (jF zo h) ?_);rw [show (1000000000:Nat)=10^9 by rfl,← Nat.pow_mul];exact bX zo zo
theorem OA {l:List Nat} {n i:Nat} (hn:l.length=n+1) (ht:Top l) (hi:i≤n):0<val 1000000000 (l.drop i) :=
 kS zo (EH ht i) (fun e=>by have:=congrArg List.length e;rw [List.length_drop,hn] at this;simp at this;omega)
theorem Ba {l:List Nat} {n:Nat} (hn:l.length=n+1):val 1000000000 (l.drop n)=l.getD n 0:=by
 rw [kF zo,List.drop_eq_nil_of_le zo];simp [val]
theorem F9 {l:List Nat} {n:Nat} (hn:l.length=n+1) (hd:gF 1000000000 l) (ht:Top l):(decDigits (val 1000000000 l)).length=9*n+(decDigits (l.getD n 0)).length:=by
 have key:∀ j,j≤n→(decDigits (val 1000000000 (l.drop (n - j)))).length=9*j+(decDigits (l.getD n 0)).length:=fun j=>by
  induction j with
  | zero=>intro _;rw [Nat.sub_zero,Ba hn];omega
  | succ j ih =>
   intro hj;have h1:=Ca (l:=l) (i:=n - (j+1)) zo hd (OA hn ht zo);rw [show n - (j+1)+1=n - j by omega] at h1;have h2:(decDigits (l.getD (n - (j+1)) 0)).length≤9:=lW 9 _ zo (hd.getD zo _);rw [h1,List.length_append,ih zo,List.length_append,List.length_replicate];omega
 have:=key n (aG _)
 rwa [Nat.sub_self,List.drop_zero] at this
theorem BN {bs:List UInt8} {s e:Nat} (h:s≤e) (he:e≤bs.length):num (bs.drop s)=num ((bs.take e).drop s)*10^(bs.length - e)+num (bs.drop e):=by
 have e1:bs.drop s=(bs.take e).drop s++bs.drop e:=by
  conv=>lhs;rw [← gy e bs]
  rw [List.drop_append_of_le_length (by rw [List.length_take];omega)]
 rw [e1,zG,List.length_drop]
theorem yJ {bs:List UInt8} {st i:Nat} {x:UInt8} (hst:st≤i) (hx:bs[i]? =some x):(bs.take (i+1)).drop st=(bs.take i).drop st++[x]:=by
 have hi:i<bs.length:=by
  rcases aH i bs.length with h|h
  ·exact h
  ·rw [List.getElem?_eq_none h] at hx;simp at hx
 rw [List.take_add_one,hx,Option.toList_some,List.drop_append_of_le_length (by rw [List.length_take];omega)]
theorem Ab {bs:List UInt8} (hd:qG bs) {st i:Nat} (h9:i - st≤9):num ((bs.take i).drop st)<1000000000:=by
 have h1:=Wt ((bs.take i).drop st) (fun b hb=>hd b (List.mem_of_mem_take (List.mem_of_mem_drop hb)));have h2:(10:Nat)^((bs.take i).drop st).length≤10^9:=bX zo (by rw [List.length_drop,List.length_take];omega);omega
theorem wN {bs:List UInt8} (hd:qG bs) {st i:Nat} {x:UInt8} (hst:st≤i) (h9:i - st<9) (hx:bs[i]? =some x) :
  (((num ((bs.take i).drop st):Nat):Int)*10%4294967296+((x.toNat:Int) - 48)%256)%4294967296=(num ((bs.take (i+1)).drop st):Nat):=by
 have hb:=hd x (List.mem_of_getElem? hx);have h2:=Ab hd (i:=i+1) (st:=st) zo;rw [yJ hst hx,oV] at h2 ⊢;omega
end Go.Dec
