/- Lemmas for the proof. No condition. -/
import Derived.Test.YtneajphgfdlmhaaGreatDoorXB01
set_option linter.unusedVariables false
set_option linter.unusedSimpArgs false
set_option maxRecDepth 100000
set_option maxHeartbeats 16000000
namespace Go.Fx
open Go Go.RowKit Go.SW Go.Mem
def Rq:TypeDesc→Bool
 | .struct _| .array _ _=>true
 | _=>false
def rdv (P:Program) (T:TypeId) (cs:Array Value) (off:Nat):Option Value:=match P.underlying T with
 | some d=>(match Rq d with
  | true=>(match P.info? T with
   | some i=>(match Nat.ble (off+i.size) cs.size with
    | true=>some (.agg (cs.extract off (off+i.size)))
    | false=>none)
   | none=>none)
  | false=>cs[off]?)
 | none=>none
theorem Zn {P:Program} {w:World} {b:Nat} {cs:Array Value} {T0 T:TypeId} {off:Nat} {v:Value} (hX:ah w b cs T0) (h:rdv P T cs off=some v):(loadVar T ⟨b,off,none⟩).run P w= .ok v w:=by
 have hl:∀ (m i:Nat) (acc:Array Value),off+i+m≤cs.size→(loadCellsFrom ⟨b,off,none⟩ i m acc).run P w= .ok (acc++cs.extract (off+i) (off+i+m)) w:=by
  intro m
  induction m with
  | zero=>intro i acc _;simp [loadCellsFrom];omega
  | succ m ih =>
   intro i acc hm;have hadd:(⟨b,off,none⟩:Addr).add i=⟨b,off+i,none⟩:=by unfold Addr.add;simp
   have hc:w.cell? ⟨b,off+i,none⟩=some cs[off+i]:=by rw [hX.cell];simp
   unfold loadCellsFrom;simp only [Sem.run_bind,hadd,run_load,hc];rw [show Result.andThen _ _=(loadCellsFrom ⟨b,off,none⟩ (i+1) m (acc.push cs[off+i])).run P w from rfl,ih (i+1) _ zo]
   congr 1
   apply Array.ext_getElem?
   intro j;simp only [Array.getElem?_append,Array.getElem?_push,Array.size_push,Array.getElem?_extract]
   rcases Nat.lt_trichotomy j acc.size with h1|h1|h1
   ·simp [h1,Nat.lt_succ_of_lt h1,Nat.ne_of_lt h1]
   ·subst h1;simp
    omega
   ·have h2:¬ j<acc.size:=by omega
    have h3:¬ j<acc.size+1:=by omega
    have h4:j≠acc.size:=by omega
    simp only [h2,h3,if_false];have e1:off+(i+1)+(j - (acc.size+1))=off+i+(j - acc.size):=by omega
    rw [e1];have e2:(j - (acc.size+1)<min (off+(i+1)+m) cs.size - (off+(i+1)))↔(j - acc.size<min (off+i+(m+1)) cs.size - (off+i)):=by omega
    simp only [e2]
 unfold rdv at h;cases hu:P.underlying T with
 | none=>rw [hu] at h;cases h
 | some d =>
  rw [hu] at h;cases hd:Rq d with
  | true =>
   simp only [hd] at h;cases hi:P.info? T with
   | none=>rw [hi] at h;cases h
   | some i =>
    rw [hi] at h;cases hb:Nat.ble (off+i.size) cs.size with
    | false=>simp only [hb] at h;cases h
    | true =>
     simp only [hb] at h;cases h
     have h1:=hl i.size 0 #[] (by have:=Nat.le_of_ble_eq_true hb;omega);simp only [Nat.add_zero,Array.empty_append] at h1;cases d<;>simp [Rq] at hd<;>simp [loadVar,isAgg,underlying,hu,loadCells,sizeOf,typeInfo,hi,h1]
  | false =>
   simp only [hd] at h;have hc:w.cell? ⟨b,off,none⟩=some v:=by rw [hX.cell,h]
   cases d<;>simp [Rq] at hd<;>simp [loadVar,isAgg,underlying,hu,run_load,hc]
structure Stored (w w':World) (b:Nat):Prop where
 os:w'.os=w.os
 tape:w'.tape=w.tape
 output:w'.output=w.output
 size:w'.heap.size=w.heap.size
 block:∀ j,j≠b→w'.heap[j]? =w.heap[j]?
theorem Stored.refl (w:World) (b:Nat):Stored w w b:=⟨rfl,rfl,rfl,rfl,fun _ _=>rfl⟩
theorem Stored.set {w w':World} {b:Nat} (h:Stored w w' b) (o:Nat) (u:Value):Stored w (w'.setCell ⟨b,o,none⟩ u) b :=
 ⟨h.os,h.tape,h.output,by simp [World.setCell,h.size],fun j hj=>(Below.heap_setCell w' ⟨b,o,none⟩ u j hj).trans (h.block j hj)⟩
theorem Stored.below {a w w':World} {b:Nat} (h:Stored w w' b) (ha:Below a.heap.size a w) (hb:a.heap.size≤b):Below a.heap.size a w' :=
 ⟨h.os.trans ha.os,h.tape.trans ha.tape,h.output.trans ha.output,by rw [h.size];exact ha.size,fun j hj=>(h.block j zo).trans (ha.block j hj)⟩
theorem Stored.box {w w':World} {b b':Nat} {cs:Array Value} {T:TypeId} (h:Stored w w' b) (hX:ah w b' cs T) (hne:b'≠b):ah w' b' cs T:=(h.block b' hne).trans hX
def putCells (cs:Array Value) (off:Nat):List Value→Array Value
 | []=>cs
 | v::l=>putCells (cs.setIfInBounds off v) (off+1) l
theorem Vv {P:Program} {b:Nat} {T0:TypeId}:∀ (vs:List Value) (off i:Nat) (cs:Array Value) (w:World),ah w b cs T0→off+i+vs.length≤cs.size→(vs.all (·.oneCell'))=true →
  ∃ w',(storeCells ⟨b,off,none⟩ vs i).run P w= .ok () w'∧Stored w w' b∧ah w' b (putCells cs (off+i) vs) T0:=by
 intro vs
 induction vs with
 | nil=>intro off i cs w hX _ _;exact ⟨w,by simp [storeCells],Stored.refl w b,hX⟩
 | cons v vs ih =>
  intro off i cs w hX hl h1;simp only [List.all_cons,Bool.and_eq_true] at h1;simp only [List.length_cons] at hl;have hadd:(⟨b,off,none⟩:Addr).add i=⟨b,off+i,none⟩:=by unfold Addr.add;simp
  obtain ⟨w',e1,e2,e3⟩:=ih off (i+1) (cs.setIfInBounds (off+i) v) (w.setCell ⟨b,off+i,none⟩ v) (hX.set _ _) (by simp;omega) h1.2;refine ⟨w',?_,⟨e2.os,e2.tape,e2.output,e2.size.trans (by simp [World.setCell]),fun j hj=>(e2.block j hj).trans (Below.heap_setCell w ⟨b,off+i,none⟩ v j hj)⟩,?_⟩
  ·have hcell:w.cell? ⟨b,off+i,none⟩=some cs[off+i]:=by rw [hX.cell];simp
   have hfro:w.frozen? ⟨b,off+i,none⟩=false:=hX.free _
   have hst:(store (⟨b,off+i,none⟩:Addr) v).run P w= .ok () (w.setCell ⟨b,off+i,none⟩ v):=by
    rw [run_store P w _ v _ h1.1,hcell];simp [hfro]
   unfold storeCells;simp only [Sem.run_bind,hadd,hst,Result.andThen_ok,e1]
  ·exact e3
structure mh (H:List Nat) (w w':World):Prop where
 os:w'.os=w.os
 tape:w'.tape=w.tape
 output:w'.output=w.output
 size:w.heap.size≤w'.heap.size
 block:∀ k,k<w.heap.size→k∉H→w'.heap[k]? =w.heap[k]?
theorem mh.refl {H:List Nat} (w:World):mh H w w:=⟨rfl,rfl,rfl,Nat.le_refl _,fun _ _ _=>rfl⟩
theorem mh.trans {H:List Nat} {a b c:World} (h:mh H a b) (k:mh H b c):mh H a c :=
 ⟨k.os.trans h.os,k.tape.trans h.tape,k.output.trans h.output,Nat.le_trans h.size k.size,fun i hi hn=>(k.block i (Nat.lt_of_lt_of_le hi h.size) hn).trans (h.block i hi hn)⟩
theorem mh.of {H:List Nat} {a b:World} (h:Below a.heap.size a b):mh H a b:=⟨h.os,h.tape,h.output,h.size,fun i hi _=>h.block i hi⟩
theorem mh.stored {a b:World} {x:Nat} (h:Stored a b x):mh [x] a b:=⟨h.os,h.tape,h.output,Nat.le_of_eq h.size.symm,fun i _ hn=>h.block i (fun e=>hn (by simp [e]))⟩
theorem mh.box {H:List Nat} {w w':World} {b:Nat} {cs:Array Value} {T:TypeId} (h:mh H w w') (hX:ah w b cs T) (hn:b∉H):ah w' b cs T:=(h.block b hX.lt hn).trans hX
theorem mh.aX7 {x:Nat} {w w':World} {b:Nat} {cs:Array Value} {T:TypeId} (h:mh [x] w w') (hX:ah w b cs T) (hn:b≠x):ah w' b cs T:=h.box hX (by simpa using hn)
theorem mh.below {H:List Nat} {a w w':World} (h:mh H w w') (ha:Below a.heap.size a w) (hn:∀ b∈H,a.heap.size≤b):Below a.heap.size a w' :=
 ⟨h.os.trans ha.os,h.tape.trans ha.tape,h.output.trans ha.output,Nat.le_trans ha.size h.size,fun i hi=>(h.block i (Nat.lt_of_lt_of_le hi ha.size) (fun hm=>by have:=hn i hm;omega)).trans (ha.block i hi)⟩
theorem lax {H:List Nat} {N:Nat} (hH:∀ h∈H,h<N):Lb.Lax N (mh H):=⟨.refl,.trans,.of,fun h=>h.size,fun h b h1 h2=>h.block b h2 fun hm=>by have:=hH b hm;omega⟩
theorem mh.own {H:List Nat} {a w w':World} {b:Nat} (h:mh H a w) (k:Stored w w' b) (hb:a.heap.size≤b):mh H a w' :=
 ⟨k.os.trans h.os,k.tape.trans h.tape,k.output.trans h.output,by rw [k.size];exact h.size,fun i hi hn=>(k.block i zo).trans (h.block i hi hn)⟩
theorem mh.aS1 {H:List Nat} {a w w':World} {b:Nat} (h:mh H a w) (k:mh [b] w w') (hb:a.heap.size≤b):mh H a w' :=
 ⟨k.os.trans h.os,k.tape.trans h.tape,k.output.trans h.output,Nat.le_trans h.size k.size,fun i hi hn=>(k.block i (Nat.lt_of_lt_of_le hi h.size) (by simp;omega)).trans (h.block i hi hn)⟩
/-! ### aZ8 -/
structure Bx where
 b:Nat
 cs:Array Value
 T:TypeId
 o:Bool
abbrev Mm:=List Bx
structure Mem (w0:World) (H:List Nat) (L:Mm) (w:World):Prop where
 all:∀ (j:Nat) (x:Bx),L[j]? =some x→ah w x.b x.cs x.T
 dis:∀ (i j:Nat) (x y:Bx),L[i]? =some x→L[j]? =some y→i≠j→x.o=true→x.b≠y.b
 own:∀ (j:Nat) (x:Bx),L[j]? =some x→x.o=true→x.b∈H∨w0.heap.size≤x.b
 tK:mh H w0 w
def xu:Mm→Nat→Array Value→Mm
 | [],_,_=>[]
 | x::L,0,cs=>⟨x.b,cs,x.T,x.o⟩::L
 | x::L,j+1,cs=>x::xu L j cs
theorem oK (cs:Array Value):∀ (L:Mm) (j i:Nat),(xu L j cs)[i]? =(L[i]?).map fun x=>if i=j then ⟨x.b,cs,x.T,x.o⟩ else x
 | [],_,_=>by simp [xu]
 | x::L,0,0=>by simp [xu]
 | x::L,0,i+1=>by simp [xu]
 | x::L,j+1,0=>by simp [xu]
 | x::L,j+1,i+1=>by simp [xu,oK cs L j i]
def upd:Mm→List (Nat × Array Value)→Mm
 | L,[]=>L
 | L,u::U=>upd (xu L u.1 u.2) U
section
variable {w0:World} {H:List Nat} {L:Mm} {w w':World}
theorem Mem.later (h:Mem w0 H L w) (hb:Below w.heap.size w w'):Mem w0 H L w':=⟨fun j x hx=>(h.all j x hx).later hb,h.dis,h.own,h.tK.trans (.of hb)⟩
theorem Mem.set (h:Mem w0 H L w) {j:Nat} {x:Bx} (hj:L[j]? =some x) (ho:x.o=true) (hw:mh [x.b] w w') {cs:Array Value} (hX:ah w' x.b cs x.T):Mem w0 H (xu L j cs) w':=by
 refine ⟨fun i y hy=>?_,fun i k y z hy hz hne WG=>?_,fun i y hy WG=>?_,?_⟩
 ·rw [oK] at hy;cases hi:L[i]? with
  | none=>rw [hi] at hy;cases hy
  | some u =>
   rw [hi] at hy;simp only [Option.map_some,Option.some.injEq] at hy
   by_cases hij:i=j
   ·rw [if_pos hij] at hy;rw [hij,hj] at hi;cases hi
    subst hy;exact hX
   ·rw [if_neg hij] at hy;subst hy;exact hw.aX7 (h.all i u hi) fun e=>h.dis j i x u hj hi (fun e=>hij e.symm) ho e.symm
 ·rw [oK] at hy hz;cases hi:L[i]? with
  | none=>rw [hi] at hy;cases hy
  | some u =>
   cases hk:L[k]? with
   | none=>rw [hk] at hz;cases hz
   | some v =>
    rw [hi] at hy;rw [hk] at hz;simp only [Option.map_some,Option.some.injEq] at hy hz;have e1:y.b=u.b:=by subst hy;split<;>rfl
    have e2:z.b=v.b:=by subst hz;split<;>rfl
    have e3:y.o=u.o:=by subst hy;split<;>rfl
    rw [e1,e2];exact h.dis i k u v hi hk hne (by rw [← e3];exact WG)
 ·rw [oK] at hy;cases hi:L[i]? with
  | none=>rw [hi] at hy;cases hy
  | some u =>
   rw [hi] at hy;simp only [Option.map_some,Option.some.injEq] at hy;have e1:y.b=u.b:=by subst hy;split<;>rfl
   have e2:y.o=u.o:=by subst hy;split<;>rfl
   rw [e1];exact h.own i u hi (by rw [← e2];exact WG)
 ·rcases h.own j x hj ho with hm|hm
  ·exact h.tK.trans ⟨hw.os,hw.tape,hw.output,hw.size,fun i hi hn=>hw.block i hi (by simp;intro e;exact hn (e ▸ hm))⟩
  ·exact h.tK.aS1 hw hm
theorem Mem.push (h:Mem w0 H L w) {b:Nat} {cs:Array Value} {T:TypeId} (hb:Below w.heap.size w w') (h1:∀ (j:Nat) (x:Bx),L[j]? =some x→x.b≠b) (h2:w0.heap.size≤b) (hX:ah w' b cs T):Mem w0 H (L++[⟨b,cs,T,true⟩]) w':=by
 have key:∀ i (y:Bx),(L++[(⟨b,cs,T,true⟩:Bx)])[i]? =some y→L[i]? =some y∨(i=L.length∧y=⟨b,cs,T,true⟩):=fun i y hy=>by
  rcases Nat.lt_trichotomy i L.length with hi|hi|hi
  ·rw [List.getElem?_append_left hi] at hy;exact .inl hy
  ·subst hi;simp at hy;exact .inr ⟨rfl,hy.symm⟩
  ·rw [List.getElem?_append_right zo,List.getElem?_eq_none (by simp;omega)] at hy;cases hy
 have hm:=h.later hb;refine ⟨fun i y hy=>?_,fun i k y z hy hz hne WG=>?_,fun i y hy WG=>?_,hm.tK⟩
 ·rcases key i y hy with hy|⟨-, rfl⟩
  ·exact hm.all i y hy
  ·exact hX
 ·rcases key i y hy with hy|⟨hi,rfl⟩<;>rcases key k z hz with hz|⟨hk,rfl⟩
  ·exact h.dis i k y z hy hz hne WG
  ·exact h1 i y hy
  ·exact fun e=>h1 k z hz e.symm
  ·omega
 ·rcases key i y hy with hy|⟨-, rfl⟩
  ·exact h.own i y hy WG
  ·exact .inr h2
theorem Mem.below (h:Mem w0 [] L w):Below w0.heap.size w0 w:=⟨h.tK.os,h.tK.tape,h.tK.output,h.tK.size,fun i hi=>h.tK.block i hi zi⟩
theorem Mem.nil (w:World) (H:List Nat):Mem w H [] w:=⟨fun j x h=>by simp at h,fun i j x y h=>by simp at h,fun j x h=>by simp at h,mh.refl w⟩
end
/-! ### What is done -/
inductive Do
 | op (ops:Array Oper) (o:Oper)
 | no (ops:Array Oper) (o:Oper)
 | ld (ops:Array Oper) (o:Oper) (j:Nat)
 | st (ops:Array Oper) (o:Oper) (j:Nat)
 | br (x:Operand) (b:Bool)
structure Ex where
 S:Sl
 L:Mm
 rs:List (Sem Next × Value)
 us:List Nat
 vs:List Nat
def aS3:Op→Bool
 | .select _ _=>false
 | _=>true
def fit (ops:Array Oper) (S:Sl) (o:Oper):Bool:=gk ops S o&&(aS3 o.op&&o.op.operands.toList.all (known S))
theorem xS.exec {n:Nat} {S:Sl} {a:Act} (h:xS n S a) {ops:Array Oper} {o:Oper} (hf:fit ops S o=true):execOp a.eval o=execOp (ev S) o:=by
 unfold fit at hf;simp only [Bool.and_eq_true] at hf;refine execOp_congr o (fun cs b e=>?_) fun x hx=>h.eval ?_
 ·rw [e] at hf;cases hf.2.1
 ·exact List.all_eq_true.1 hf.2.2 x (by simpa using hx)
def uS (P:Program) (n:Nat) (w:World) (S:Sl) (L:Mm):Do→Option Ex
 | .op ops o=>(match fit ops S o with
  | true=>(match Region.wanted o (yl ops S) with
   | true=>(match (execOp (ev S) o).run P w with
    | .ok (.value v) _=>(nT n S o.dst v).map fun S'=>⟨S',L,[(execOp (ev S) o,v)],[],[]⟩
    | _=>none)
   | false=>(nT n S o.dst undef).map fun S'=>⟨S',L,[],[],[]⟩)
  | false=>none)
 | .no ops o=>(match gk ops S o,Region.wanted o (yl ops S) with
  | true,false=>(nT n S o.dst undef).map fun S'=>⟨S',L,[],[],[]⟩
  | _,_=>none)
 | .ld ops o j=>(match fit ops S o,Region.wanted o (yl ops S),o.op with
  | true,true,.load T x=>(match ev S x,L[j]? with
   | .pointer (some ⟨b,off,none⟩),some y=>(match rdv P T y.cs off with
    | some v=>(nT n S o.dst v).map fun S'=>⟨S',L,[],[b],[y.b]⟩
    | none=>none)
   | _,_=>none)
  | _,_,_=>none)
 | .st ops o j=>(match fit ops S o,Region.wanted o (yl ops S),o.dst,o.op with
  | true,true,none,.store T x y=>(match ev S x,L[j]?, P.info? T with
   | .pointer (some ⟨b,off,none⟩),some z,some f=>(match z.o,Nat.beq (ev S y).cells.size f.size,Nat.ble (off+f.size) z.cs.size,(ev S y).cells.toList.all (·.oneCell') with
    | true,true,true,true=>some ⟨S,xu L j (putCells z.cs off (ev S y).cells.toList),[],[b],[z.b]⟩
    | _,_,_,_=>none)
   | _,_,_=>none)
  | _,_,_,_=>none)
 | .br x b=>(match known S x,ev S x with
  | true,.bool c=>(match c == b with
   | true=>some ⟨S,L,[],[],[]⟩
   | false=>none)
  | _,_=>none)
def exec (P:Program) (n:Nat) (w:World):List Do→Sl→Mm→Option Ex
 | [],S,L=>some ⟨S,L,[],[],[]⟩
 | d::ds,S,L=>match uS P n w S L d with
  | some e=>(match exec P n w ds e.S e.L with
   | some r=>some ⟨r.S,r.L,e.rs++r.rs,e.us++r.us,e.vs++r.vs⟩
   | none=>none)
  | none=>none
def Bears (P:Program) (rs:List (Sem Next × Value)):Prop:=∀ w,rs.map (fun p=>p.1.run P w)=rs.map fun p=>.ok (.value p.2) w
theorem Bears.left {P:Program} {a b:List (Sem Next × Value)} (h:Bears P (a++b)):Bears P a:=fun w=>(List.append_inj (by simpa using h w) zi).1
theorem Bears.right {P:Program} {a b:List (Sem Next × Value)} (h:Bears P (a++b)):Bears P b:=fun w=>(List.append_inj (by simpa using h w) zi).2
theorem Bears.one {P:Program} {x:Sem Next} {v:Value} (h:Bears P [(x,v)]) (w:World):x.run P w= .ok (.value v) w:=by simpa using h w
/-! ### Where the walk stands -/
inductive Pos
 | code (c:Code) (k:List Kt)
 | nx (e:Exit) (k:List Kt)
 | reg (ops:Array Oper) (is:List Nat) (k:List Kt)
 | uG (ops:Array Oper) (Hj:List Nat) (is:List (K × Nat)) (A:List Nat) (k:List Kt)
def cls:Op→Nat
 | .load _ _=>1
 | .store _ _ _=>2
 | .alloc _| .box _ _| .buildSlice _ _ _| .makeSlice _ _ _=>3
 | .call c=>(match c.callee with
  | .builtin _=>0
  | _=>3)
 | _=>0
def Du:List Nat→Pos→Option (Option Do × List Nat × Pos)
 | hs,.code c k=>(match c with
  | .seq a b=>some (none,hs,.code a (.seq b::k))
  | .block id c=>some (none,hs,.code c (.block id::k))
  | .loop c=>some (none,hs,.code c (.again c 255::k))
  | .skip=>some (none,hs,.nx .normal k)
  | .exit id=>some (none,hs,.nx (.exit id) k)
  | .region _ ops false=>some (none,hs,.reg ops (List.range ops.size) k)
  | .cond x c1 c2=>(match hs with
   | 1::hs=>some (some (.br x true),hs,.code c1 k)
   | 2::hs=>some (some (.br x false),hs,.code c2 k)
   | _=>none)
  | _=>none)
 | hs,.nx e k=>(match e,k with
  | .normal,.seq c::k=>some (none,hs,.code c k)
  | .normal,.block _::k=>some (none,hs,.nx .normal k)
  | .normal,.again c (m+1)::k=>some (none,hs,.code c (.again c m::k))
  | .exit id,.seq _::k=>some (none,hs,.nx (.exit id) k)
  | .exit id,.again _ _::k=>some (none,hs,.nx (.exit id) k)
  | .exit id,.block id'::k=>(match Nat.beq id id' with
   | true=>some (none,hs,.nx .normal k)
   | false=>some (none,hs,.nx (.exit id) k))
  | _,_=>none)
 | hs,.reg ops is k=>(match is with
  | []=>some (none,hs,.nx .normal k)
  | i::is=>(match ops[i]? with
   | none=>none
   | some o=>(match cls o.op,hs with
    | 0,hs=>some (some (.op ops o),hs,.reg ops is k)
    | _,0::hs=>some (some (.no ops o),hs,.reg ops is k)
    | 1,(j+3)::hs=>some (some (.ld ops o j),hs,.reg ops is k)
    | 2,(j+3)::hs=>some (some (.st ops o j),hs,.reg ops is k)
    | _,_=>none)))
 | hs,.uG ops Hj is A k=>(match is with
  | []=>some (none,hs,.nx .normal k)
  | (kd,i)::is=>(match ops[i]? with
   | none=>none
   | some o=>(match kd,hs with
    | .pure,hs=>some (some (.op ops o),hs,.uG ops Hj is A k)
    | .read,0::hs=>some (some (.no ops o),hs,.uG ops Hj is A k)
    | .read,(j+3)::hs=>(match Hj.contains j with
     | false=>some (some (.ld ops o j),hs,.uG ops Hj is A k)
     | true=>none)
    | .ext,0::hs=>some (some (.no ops o),hs,.uG ops Hj is A k)
    | .ext,1::hs=>some (some (.op ops o),hs,.uG ops Hj is A k)
    | .ext,(j+3)::hs=>(match Hj.contains j with
     | true=>some (some (.st ops o j),hs,.uG ops Hj is A k)
     | false=>none)
    | .fin,hs=>some (none,hs,.reg ops (i::is.map (·.2)) k)
    | _,_=>none)))
def tr:Nat→List Nat→Pos→List Do × Pos
 | 0,_,p=>([],p)
 | m+1,hs,p=>match Du hs p with
  | none=>([],p)
  | some (none,hs',p')=>tr m hs' p'
  | some (some d,hs',p')=>(d::(tr m hs' p').1,(tr m hs' p').2)
end Go.Fx
namespace Go.Fx
open Go Go.RowKit Go.SW Go.Mem
section
variable (P:Program) (n:Nat) (R:Post)
def W (N:Nat) (H:List Nat):Pos→Sl→World→Prop
 | .code c k,S,w=>∀ a,xS n S a→c.wp P (lift n (Cont P n R k)) a w
 | .nx e k,S,w=>Cont P n R k e S w
 | .reg ops is k,S,w=>∀ a,xS n S a→wpOps P ops (lift n (Cont P n R k)) is a w
 | .uG ops _ is A k,S,w=>∀ a,xS n S a→Lb.walk (mh H) P ops (lift n (Cont P n R k)) N is A a w
end
def blk (L:Mm) (j:Nat):Option Nat:=(L[j]?).map (·.b)
theorem Oo {L:Mm} {j:Nat} {cs:Array Value}:blk (xu L j cs)=blk L:=by
 funext i
 unfold blk;rw [oK];cases L[i]? with
 | none=>rfl
 | some x=>simp;split<;>rfl
def Qv:K→Bool
 | .alloc _ _=>true
 | _=>false
def wrt (L:Mm) (j:Nat):Bool:=match L[j]? with
 | some x=>x.o
 | none=>false
theorem Lx {L:Mm} {j:Nat} {cs:Array Value}:wrt (xu L j cs)=wrt L:=by
 funext i
 unfold wrt;rw [oK];cases L[i]? with
 | none=>rfl
 | some x=>simp;split<;>rfl
def ok (w0:World) (N:Nat) (H:List Nat):Pos→Mm→Prop
 | .uG _ Hj is A _,L=>(is.any (fun x=>Qv x.1)=true→w0.heap.size≤N)∧(is.any (fun x=>Qv x.1)=true→∀ (j:Nat) (x:Bx),L[j]? =some x→x.b<N∨x.b∈A)∧(∀ h∈H,h<N)∧H=Hj.filterMap (blk L)∧∀ j∈Hj,wrt L j=true
 | _,_=>True
structure G (P:Program) (n:Nat) (R:Post) (w0:World) (H0:List Nat) (p:Pos) (S:Sl) (L:Mm):Prop where
 out:∀ w N H,Mem w0 H0 L w→ok w0 N H p L→W P n R N H p S w
section
variable {P:Program} {n:Nat} {R:Post} {w0:World} {H0:List Nat} {S S':Sl} {L L':Mm}
theorem JX {ops:Array Oper} {o:Oper} {a:Act} {w:World} {v:Value} (ha:xS n S a) (hf:fit ops S o=true) (hr:(execOp (ev S) o).run P w= .ok (.value v) w) {K:Act→World→Prop} {Q:Exit→Act→World→Prop} (hK:K (a.put o.dst v) w):o.wp P a w K Q:=by
 unfold Oper.wp;rw [ha.exec hf,hr];exact hK
theorem nI {ops:Array Oper} {o:Oper} (hf:fit ops S o=true):gk ops S o=true:=by
 unfold fit at hf;simp only [Bool.and_eq_true] at hf;exact hf.1
theorem ab6 {ops:Array Oper} {o:Oper} {w:World} {e:Ex} (h:uS P n w S L (.op ops o)=some e) (hb:Bears P e.rs) :
  fit ops S o=true∧e.L=L∧((∃ v,Region.wanted o (yl ops S)=true∧(∀ w,(execOp (ev S) o).run P w= .ok (.value v) w)∧nT n S o.dst v=some e.S)∨(Region.wanted o (yl ops S)=false∧nT n S o.dst undef=some e.S)):=by
 rw [uS] at h;split at h
 ·rename_i hf;split at h
  ·rename_i hw;split at h
   ·rename_i v w1 hr;obtain ⟨S1,h1,h2⟩:=Option.map_eq_some_iff.1 h;subst h2;exact ⟨hf,rfl,.inl ⟨v,hw,hb.one,h1⟩⟩
   ·cases h
  ·rename_i hw;obtain ⟨S1,h1,h2⟩:=Option.map_eq_some_iff.1 h;subst h2;exact ⟨hf,rfl,.inr ⟨hw,h1⟩⟩
 ·cases h
theorem ab7 {ops:Array Oper} {o:Oper} {w:World} {e:Ex} (h:uS P n w S L (.no ops o)=some e) :
  gk ops S o=true∧e.L=L∧Region.wanted o (yl ops S)=false∧nT n S o.dst undef=some e.S:=by
 rw [uS] at h;split at h
 ·rename_i hf hw;obtain ⟨S1,h1,h2⟩:=Option.map_eq_some_iff.1 h;subst h2;exact ⟨hf,rfl,hw,h1⟩
 ·cases h
theorem as2 {ops:Array Oper} {o:Oper} {j:Nat} {w:World} {e:Ex} (h:uS P n w S L (.ld ops o j)=some e) (hb:e.us=e.vs) :
  fit ops S o=true∧e.L=L∧Region.wanted o (yl ops S)=true∧∃ y v,L[j]? =some y∧nT n S o.dst v=some e.S∧∀ w,ah w y.b y.cs y.T→(execOp (ev S) o).run P w= .ok (.value v) w:=by
 rw [uS] at h;split at h
 ·rename_i T x hf hw hop;split at h
  ·rename_i b off y hx hy;split at h
   ·rename_i v hv;obtain ⟨S1,h1,h2⟩:=Option.map_eq_some_iff.1 h;subst h2;simp only [List.cons.injEq,and_true] at hb;refine ⟨hf,rfl,hw,y,v,hy,h1,fun w hX=>?_⟩;rw [← hb] at hX;simp only [execOp,hop,hx,Instr.loadAt,Instr.sureAddr,Sem.run_bind,Sem.run_pure,Result.andThen_ok,Zn hX hv]
   ·cases h
  ·cases h
 ·cases h
theorem as1 {ops:Array Oper} {o:Oper} {j:Nat} {w:World} {e:Ex} (h:uS P n w S L (.st ops o j)=some e) (hb:e.us=e.vs) :
  fit ops S o=true∧e.S=S∧Region.wanted o (yl ops S)=true∧o.dst=none∧∃ y cs,L[j]? =some y∧y.o=true∧e.L=xu L j cs∧∀ w,ah w y.b y.cs y.T→∃ w',(execOp (ev S) o).run P w= .ok .skip w'∧Stored w w' y.b∧ah w' y.b cs y.T:=by
 rw [uS] at h;split at h
 ·rename_i T x y hf hw hd hop;split at h
  ·rename_i b off z f hx hz hi;split at h
   ·rename_i ho h1 h2 h3;cases h
    simp only [List.cons.injEq,and_true] at hb;refine ⟨hf,rfl,hw,hd,z,_,hz,ho,rfl,fun w hX=>?_⟩;have hs:(ev S y).cells.size=f.size:=Nat.eq_of_beq_eq_true h1;have hle:=Nat.le_of_ble_eq_true h2;obtain ⟨w',e1,e2,e3⟩:=Vv (P:=P) (ev S y).cells.toList off 0 z.cs w hX (by simp;omega) h3;refine ⟨w',?_,e2,e3⟩;simp [execOp,hop,hx,hb,Instr.storeAt,Instr.sureAddr,storeVar,sizeOf,typeInfo,hi,hs,e1]
   ·cases h
  ·cases h
 ·cases h
theorem aN6 {x:Operand} {b:Bool} {w:World} {e:Ex} (h:uS P n w S L (.br x b)=some e):e.S=S∧e.L=L∧known S x=true∧ev S x= .bool b:=by
 rw [uS] at h;split at h
 ·rename_i c hk hx;split at h
  ·rename_i hc;cases h
   have:c=b:=by simpa using hc
   exact ⟨rfl,rfl,hk,this ▸ hx⟩
  ·cases h
 ·cases h
theorem aB9 {w:World} (hM:Mem w0 H0 L w) {Hj:List Nat} (hw:∀ j∈Hj,wrt L j=true) {j:Nat} {y:Bx} (hj:L[j]? =some y) (hn:Hj.contains j=false):y.b∉Hj.filterMap (blk L):=by
 intro hm;obtain ⟨i,hi,he⟩:=List.mem_filterMap.1 hm;unfold blk at he;obtain ⟨x,hx,hxb⟩:=Option.map_eq_some_iff.1 he;refine hM.dis i j x y hx hj (fun e=>?_) (by have:=hw i hi;unfold wrt at this;rw [hx] at this;exact this) hxb;subst e;simp at hn
 exact hn hi
theorem UH {Hj:List Nat} {j:Nat} {y:Bx} (hj:L[j]? =some y) (hn:Hj.contains j=true):y.b∈Hj.filterMap (blk L) :=
 List.mem_filterMap.2 ⟨j,by simpa using hn,by simp [blk,hj]⟩
theorem AV {hs hs':List Nat} {p p':Pos} {d:Option Do} (hm:Du hs p=some (d,hs',p'))
  (hd:match d with|none=>S'=S∧L'=L|some d=>∃ e,uS P n w0 S L d=some e∧e.S=S'∧e.L=L'∧Bears P e.rs∧e.us=e.vs)
  (hc:G P n R w0 H0 p' S' L'):G P n R w0 H0 p S L:=by
 refine ⟨fun w N H hM hok=>?_⟩;cases p with
 | code c k =>
  cases c with
  | seq a b=>cases hm;obtain ⟨rfl,rfl⟩:=hd;exact (seq ⟨hc.out w N H hM trivial⟩).out
  | block id c=>cases hm;obtain ⟨rfl,rfl⟩:=hd;exact (block ⟨hc.out w N H hM trivial⟩).out
  | loop c=>cases hm;obtain ⟨rfl,rfl⟩:=hd;exact (loop 255 ⟨hc.out w N H hM trivial⟩).out
  | skip=>cases hm;obtain ⟨rfl,rfl⟩:=hd;exact (skip ⟨hc.out w N H hM trivial⟩).out
  | exit id=>cases hm;obtain ⟨rfl,rfl⟩:=hd;exact (exit ⟨hc.out w N H hM trivial⟩).out
  | region id ops draw =>
   cases draw with
   | true=>cases hm
   | false=>cases hm;obtain ⟨rfl,rfl⟩:=hd;exact fun a ha=>wp_region (hc.out w N H hM trivial a ha)
  | cond x c1 c2 =>
   have key:∀ (b:Bool) (hs0:List Nat),hs=(if b then 1 else 2)::hs0→d=some (.br x b)∧hs'=hs0∧p'= .code (if b then c1 else c2) k:=fun b hs0 he=>by
    subst he;cases b<;>cases hm<;>exact ⟨rfl,rfl,rfl⟩
   have:∃ (b:Bool) (hs0:List Nat),hs=(if b then 1 else 2)::hs0:=by
    simp only [Du] at hm;split at hm
    ·exact ⟨true,_,rfl⟩
    ·exact ⟨false,_,rfl⟩
    ·cases hm
   obtain ⟨b,hs0,he⟩:=this;obtain ⟨rfl,rfl,rfl⟩:=key b hs0 he;obtain ⟨e,h1,rfl,rfl, -, -⟩:=hd;obtain ⟨e1,e2,hk,hx⟩:=aN6 h1;rw [e1,e2] at hc;exact (cond hk hx ⟨hc.out w N H hM trivial⟩).out
  | _=>cases hm
 | nx e k =>
  cases k with
  | nil=>cases e<;>cases hm
  | cons x k =>
   cases e with
   | normal =>
    cases x with
    | seq c=>cases hm;obtain ⟨rfl,rfl⟩:=hd;exact (aw6 ⟨hc.out w N H hM trivial⟩).out
    | block id=>cases hm;obtain ⟨rfl,rfl⟩:=hd;exact (Zc (id:=id) ⟨hc.out w N H hM trivial⟩).out
    | again c m =>
     cases m with
     | zero=>cases hm
     | succ m=>cases hm;obtain ⟨rfl,rfl⟩:=hd;exact (again ⟨hc.out w N H hM trivial⟩).out
   | exit id =>
    cases x with
    | seq c=>cases hm;obtain ⟨rfl,rfl⟩:=hd;exact (aj5 (c:=c) ⟨hc.out w N H hM trivial⟩).out
    | block id' =>
     simp only [Du] at hm;split at hm
     ·rename_i hb;cases hm
      obtain ⟨rfl,rfl⟩:=hd;obtain rfl:=Nat.eq_of_beq_eq_true hb;exact (aj7 ⟨hc.out w N H hM trivial⟩).out
     ·rename_i hb;cases hm
      obtain ⟨rfl,rfl⟩:=hd;exact (aj6 (Nat.ne_of_beq_eq_false hb) ⟨hc.out w N H hM trivial⟩).out
    | again c m=>cases hm;obtain ⟨rfl,rfl⟩:=hd;exact (Wt (c:=c) (m:=m) ⟨hc.out w N H hM trivial⟩).out
   | _=>cases x<;>cases hm
 | reg ops is k =>
  cases is with
  | nil=>cases hm;obtain ⟨rfl,rfl⟩:=hd;exact fun a ha=>vO ha (hc.out w N H hM trivial)
  | cons i is =>
   simp only [Du] at hm;split at hm
   ·cases hm
   ·rename_i o ho
    have hop:d=some (.op ops o)→p'= .reg ops is k→W P n R N H (.reg ops (i::is) k) S w:=by
     rintro rfl rfl;obtain ⟨e,h1,rfl,rfl,h4, -⟩:=hd;obtain ⟨hf,hL,hx⟩:=ab6 h1 h4;rw [hL] at hc;intro a ha;unfold wpOps;simp only [ho,ha.wanted (nI hf)]
     rcases hx with ⟨v,hw,hr,hp⟩|⟨hw,hp⟩
     ·rw [if_pos hw];exact .inl (JX ha hf (hr w) (hc.out w N H hM trivial _ (ha.nT hp)))
     ·rw [if_neg (by rw [hw];decide)];exact hc.out w N H hM trivial _ (ha.nT hp)
    have hno:d=some (.no ops o)→p'= .reg ops is k→W P n R N H (.reg ops (i::is) k) S w:=by
     rintro rfl rfl;obtain ⟨e,h1,rfl,rfl, -, -⟩:=hd;obtain ⟨hf,hL,hw,hp⟩:=ab7 h1;rw [hL] at hc;intro a ha;unfold wpOps;simp only [ho,ha.wanted hf];rw [if_neg (by rw [hw];decide)];exact hc.out w N H hM trivial _ (ha.nT hp)
    split at hm
    ·cases hm;exact hop rfl rfl
    ·cases hm;exact hno rfl rfl
    ·rename_i j hs1 hcl;cases hm
     obtain ⟨e,h1,rfl,rfl, -, h5⟩:=hd;obtain ⟨hf,hL,hw,y,v,hj,hp,hr⟩:=as2 h1 h5;rw [hL] at hc;intro a ha;unfold wpOps;simp only [ho,ha.wanted (nI hf)];rw [if_pos hw];exact .inl (JX ha hf (hr w (hM.all _ y hj)) (hc.out w N H hM trivial _ (ha.nT hp)))
    ·rename_i j hs1 hcl;cases hm
     obtain ⟨e,h1,rfl,rfl, -, h5⟩:=hd;obtain ⟨hf,hS,hw,hdn,y,cs,hj,WG,hL,hr⟩:=as1 h1 h5;rw [hL,hS] at hc;intro a ha;unfold wpOps;simp only [ho,ha.wanted (nI hf)];rw [if_pos hw];obtain ⟨w',e1,e2,e3⟩:=hr w (hM.all _ y hj);refine .inl ?_;unfold Oper.wp;rw [ha.exec hf,e1];simp only [Oper.upon,hdn];exact hc.out w' N H (hM.set hj WG (.stored e2) e3) trivial _ ha
    ·cases hm
 | uG ops Hj is A k =>
  obtain ⟨k1,k2,k3,k4⟩:=hok;cases is with
  | nil =>
   cases hm
   obtain ⟨rfl,rfl⟩:=hd;exact fun a ha=>fun w' hb=>vO ha (hc.out w' N H (hM.later hb) trivial)
  | cons x is =>
   obtain ⟨kd,i⟩:=x;simp only [Du] at hm;split at hm
   ·cases hm
   ·rename_i o ho;have k1:is.any (fun x=>Qv x.1)=true→w0.heap.size≤N:=fun h=>k1 (by rw [List.any_cons,h,Bool.or_true]);have k2:is.any (fun x=>Qv x.1)=true→∀ (j:Nat) (x:Bx),L[j]? =some x→x.b<N∨x.b∈A:=fun h=>k2 (by rw [List.any_cons,h,Bool.or_true]);have okk:ok w0 N H (.uG ops Hj is A k) L:=⟨k1,k2,k3,k4⟩;split at hm
    ·cases hm
     obtain ⟨e,h1,rfl,rfl,h4, -⟩:=hd;obtain ⟨hf,hL,hx⟩:=ab6 h1 h4;rw [hL] at hc;intro a ha;unfold Lb.walk;simp only [ho,ha.wanted (nI hf)]
     rcases hx with ⟨v,hw,hr,hp⟩|⟨hw,hp⟩
     ·rw [if_pos hw];exact ⟨v,fun w'=>by rw [ha.exec hf];exact hr w',hc.out w N H hM okk _ (ha.nT hp)⟩
     ·rw [if_neg (by rw [hw];decide)];exact hc.out w N H hM okk _ (ha.nT hp)
    ·cases hm
     obtain ⟨e,h1,rfl,rfl, -, -⟩:=hd;obtain ⟨hf,hL,hw,hp⟩:=ab7 h1;rw [hL] at hc;intro a ha;unfold Lb.walk;simp only [ho,ha.wanted hf];rw [if_neg (by rw [hw];decide)];exact hc.out w N H hM okk _ (ha.nT hp)
    ·split at hm
     ·rename_i j hs1 hcj;cases hm
      obtain ⟨e,h1,rfl,rfl, -, h5⟩:=hd;obtain ⟨hf,hL,hw,y,v,hj,hp,hr⟩:=as2 h1 h5;rw [hL] at hc;intro a ha;unfold Lb.walk;simp only [ho,ha.wanted (nI hf)];rw [if_pos hw];refine ⟨v,fun w' hb=>?_,hc.out w N H hM okk _ (ha.nT hp)⟩;rw [ha.exec hf];exact hr w' (hb.box (hM.all _ y hj) (k4.1 ▸ aB9 hM k4.2 hj hcj))
     ·cases hm
    ·cases hm
     obtain ⟨e,h1,rfl,rfl, -, -⟩:=hd;obtain ⟨hf,hL,hw,hp⟩:=ab7 h1;rw [hL] at hc;intro a ha;unfold Lb.walk;simp only [ho,ha.wanted hf];rw [if_neg (by rw [hw];decide)];exact hc.out w N H hM okk _ (ha.nT hp)
    ·cases hm
     obtain ⟨e,h1,rfl,rfl,h4, -⟩:=hd;obtain ⟨hf,hL,hx⟩:=ab6 h1 h4;rw [hL] at hc;intro a ha;unfold Lb.walk;simp only [ho,ha.wanted (nI hf)]
     rcases hx with ⟨v,hw,hr,hp⟩|⟨hw,hp⟩
     ·rw [if_pos hw];exact fun w' hb=>JX ha hf (hr w') ⟨.refl w',hc.out w' N H (hM.later hb) okk _ (ha.nT hp)⟩
     ·rw [if_neg (by rw [hw];decide)];exact hc.out w N H hM okk _ (ha.nT hp)
    ·split at hm
     ·rename_i j hs1 hcj;cases hm
      obtain ⟨e,h1,rfl,rfl, -, h5⟩:=hd;obtain ⟨hf,hS,hw,hdn,y,cs,hj,WG,hL,hr⟩:=as1 h1 h5;rw [hL,hS] at hc;intro a ha;unfold Lb.walk;simp only [ho,ha.wanted (nI hf)];rw [if_pos hw];intro w' hb;have hM':=hM.later hb;obtain ⟨w2,e1,e2,e3⟩:=hr w' (hM'.all _ y hj);unfold Oper.wp;rw [ha.exec hf,e1];simp only [Oper.upon,hdn];have hin:y.b∈H:=k4.1 ▸ UH hj hcj;refine ⟨⟨e2.os,e2.tape,e2.output,Nat.le_of_eq e2.size.symm,fun i _ hn=>e2.block i fun e=>hn (e ▸ hin)⟩,hc.out w2 N H (hM'.set hj WG (.stored e2) e3) ⟨k1,fun hal i x hx=>?_,k3,by rw [Oo,Lx];exact k4⟩ _ ha⟩;rw [oK] at hx;cases hi:L[i]? with
      | none=>rw [hi] at hx;cases hx
      | some u =>
       rw [hi] at hx;simp only [Option.map_some,Option.some.injEq] at hx;have e1:x.b=u.b:=by subst hx;split<;>rfl
       rw [e1];exact k2 hal i u hi
     ·cases hm
    ·cases hm
     obtain ⟨rfl,rfl⟩:=hd;intro a ha;unfold Lb.walk;simp only [ho];exact fun w' hb=>hc.out w' N H (hM.later hb) trivial a ha
    ·cases hm
theorem CG:∀ (m:Nat) (hs:List Nat) (p:Pos) (S:Sl) (L:Mm) (r:Ex),exec P n w0 (tr m hs p).1 S L=some r→Bears P r.rs→r.us=r.vs→G P n R w0 H0 (tr m hs p).2 r.S r.L→G P n R w0 H0 p S L
 | 0,hs,p,S,L,r,h,h1,h2,hc=>by cases h;exact hc
 | m+1,hs,p,S,L,r,h,h1,h2,hc=>by
  unfold tr at h hc;cases hm:Du hs p with
  | none=>simp only [hm] at h hc;cases h;exact hc
  | some x =>
   obtain ⟨d,hs',p'⟩:=x;cases d with
   | none =>
    simp only [hm] at h hc;exact AV hm ⟨rfl,rfl⟩ (CG m hs' p' S L r h h1 h2 hc)
   | some d =>
    simp only [hm] at h hc;unfold exec at h;cases he:uS P n w0 S L d with
    | none=>simp only [he] at h;cases h
    | some e =>
     simp only [he] at h;cases hr:exec P n w0 (tr m hs' p').1 e.S e.L with
     | none=>simp only [hr] at h;cases h
     | some r' =>
      simp only [hr,Option.some.injEq] at h;subst h
      have hl:e.us.length=e.vs.length:=by
       cases d<;>unfold uS at he<;>(repeat' split at he)<;>first|cases he<;>rfl|(obtain ⟨S1, -, rfl⟩:=Option.map_eq_some_iff.1 he;rfl)
      have h3:=List.append_inj h2 hl;exact AV hm ⟨e,he,rfl,rfl,h1.left,h3.1⟩ (CG m hs' p' e.S e.L r' hr h1.right h3.2 hc)
end
end Go.Fx
namespace Go.Fx
open Go Go.RowKit Go.SW Go.Mem
def fits (S1 St S:Sl):Bool:=(S1.take (S1.length - S.length)).all fun p=>(look St p.1).isSome || !(look S p.1).isSome
def Jq (P:Program) (n:Nat) (w0:World) (ds:List Do) (S:Sl) (L:Mm) (St:Sl) (L':Mm):Prop :=
 ∀ w,(exec P n w0 ds S L).map (fun r=>(St.map (fun p=>look r.S p.1),r.L,r.us,r.rs.map (fun p=>p.1.run P w),fits r.S St S)) =
  some (St.map (fun p=>some p.2),L',((exec P n w0 ds S L).getD ⟨[],[],[],[],[]⟩).vs,((exec P n w0 ds S L).getD ⟨[],[],[],[],[]⟩).rs.map (fun p=>.ok (.value p.2) w),true)
theorem AZ (A B:Sl) (i:Nat):look (A++B) i=(look A i).or (look B i):=by
 induction A with
 | nil=>simp [look]
 | cons x A ih =>
  simp only [List.cons_append,qX];cases Nat.beq i x.1 with
  | true=>rfl
  | false=>exact ih
theorem Ni {A:Sl} {i:Nat} {v:Value} (h:look A i=some v):(i,v)∈A:=by
 induction A with
 | nil=>cases h
 | cons x A ih =>
  rw [qX] at h;cases hb:Nat.beq i x.1 with
  | true =>
   obtain rfl:=Nat.eq_of_beq_eq_true hb;simp only [hb,cond_true,Option.some.injEq] at h;subst h;exact List.mem_cons_self
  | false =>
   simp only [hb,cond_false] at h;exact List.mem_cons_of_mem _ (ih h)
def Pos.here:Pos→Bool
 | .nx _ _=>false
 | _=>true
section
variable {P:Program} {n:Nat} {R:Post} {w0:World} {H0:List Nat} {p:Pos} {S:Sl} {L:Mm}
theorem YM {S':Sl} {d:Option Nat} {v:Value} (h:nT n S d v=some S'):∃ A,S'=A++S:=by
 cases d with
 | none=>cases h;exact ⟨[],rfl⟩
 | some d =>
  unfold nT at h;cases hb:Nat.blt d n with
  | true=>simp only [hb,cond_true,Option.some.injEq] at h;subst h;exact ⟨[(d,v)],rfl⟩
  | false=>simp only [hb,cond_false] at h;cases h
theorem ab5 {d:Do} {e:Ex} {w:World} (h:uS P n w S L d=some e):∃ A,e.S=A++S:=by
 cases d<;>rw [uS] at h<;>(repeat' split at h)<;>first|(cases h;done)|(cases h;exact ⟨[],rfl⟩)|(obtain ⟨S1,h1,rfl⟩:=Option.map_eq_some_iff.1 h;exact YM h1)
theorem Oa {w:World}:∀ (ds:List Do) (S:Sl) (L:Mm) (r:Ex),exec P n w ds S L=some r→∃ A,r.S=A++S
 | [],S,L,r,h=>by cases h;exact ⟨[],rfl⟩
 | d::ds,S,L,r,h=>by
  unfold exec at h;cases he:uS P n w S L d with
  | none=>simp only [he] at h;cases h
  | some e =>
   simp only [he] at h;cases hr:exec P n w ds e.S e.L with
   | none=>simp only [hr] at h;cases h
   | some r' =>
    simp only [hr,Option.some.injEq] at h;subst h;obtain ⟨A,hA⟩:=ab5 he;obtain ⟨B,hB⟩:=Oa ds e.S e.L r' hr;exact ⟨B++A,by simp [hB,hA]⟩
theorem G.of {S':Sl} (h:G P n R w0 H0 p S' L) (hs:∀ i v,look S' i=some v→look S i=some v) (hp:p.here=true):G P n R w0 H0 p S L:=⟨fun w N H hM hok=>by
 have:=h.out w N H hM hok;cases p with
 | nx e k=>cases hp
 | code c k=>exact fun a ha=>this a (ha.of hs)
 | reg ops is k=>exact fun a ha=>this a (ha.of hs)
 | uG ops Hj is A k=>exact fun a ha=>this a (ha.of hs)⟩
theorem aj8 {α β:Type} {f g:α→β} {l:List α} (h:l.map f=l.map g) {x:α} (hx:x∈l):f x=g x:=by
 induction l with
 | nil=>cases hx
 | cons y l ih =>
  simp only [List.map_cons,List.cons.injEq] at h
  rcases List.mem_cons.1 hx with rfl|hx
  ·exact h.1
  ·exact ih h.2 hx
def zJ (P:Program) (n:Nat) (w0:World) (ds:List Do) (S:Sl) (L:Mm):Sl:=match exec P n w0 ds S L with
 | some r=>r.S
 | none=>[]
def OL (P:Program) (n:Nat) (w0:World) (ds:List Do) (S:Sl) (L L':Mm):Prop :=
 ∀ w,(exec P n w0 ds S L).map (fun r=>(r.L,r.us,r.rs.map (fun p=>p.1.run P w))) =
  some (L',((exec P n w0 ds S L).getD ⟨[],[],[],[],[]⟩).vs,((exec P n w0 ds S L).getD ⟨[],[],[],[],[]⟩).rs.map (fun p=>.ok (.value p.2) w))
theorem goR (hs:List Nat) {m:Nat} (L':Mm) (h:OL P n w0 (tr m hs p).1 S L L') (hc:G P n R w0 H0 (tr m hs p).2 (zJ P n w0 (tr m hs p).1 S L) L'):G P n R w0 H0 p S L:=by
 have h0:=h w0;obtain ⟨r,hr,he⟩:=Option.map_eq_some_iff.1 h0;simp only [Prod.mk.injEq] at he;obtain ⟨e2,e3, -⟩:=he
 have hB:Bears P r.rs:=fun w=>by
  have:=h w;rw [hr] at this;simp only [Option.map_some,Option.some.injEq,Prod.mk.injEq,Option.getD_some] at this;exact this.2.2
 rw [hr] at e3;subst e2;unfold zJ at hc;rw [hr] at hc;exact CG m hs p S L r hr hB e3 hc
theorem Jq.plain {ds:List Do} {St:Sl} {L':Mm} (h:Jq P n w0 ds S L St L'):OL P n w0 ds S L L':=fun w=>by
 obtain ⟨r,hr,he⟩:=Option.map_eq_some_iff.1 (h w);simp only [Prod.mk.injEq] at he;obtain ⟨-, e2,e3,e4, -⟩:=he;rw [hr] at e3 e4 ⊢;simp only [Option.map_some,Option.some.injEq,Prod.mk.injEq];exact ⟨e2,e3,e4⟩
theorem goF (hs:List Nat) (St:Sl) {m:Nat} (L':Mm) (h:Jq P n w0 (tr m hs p).1 S L St L') (hc:G P n R w0 H0 (tr m hs p).2 (zJ P n w0 (tr m hs p).1 S L) L'):G P n R w0 H0 p S L:=goR hs L' h.plain hc
theorem Jq.sub {ds:List Do} {St:Sl} {L':Mm} (h:Jq P n w0 ds S L St L'):∀ i v,look (St++S) i=some v→look (zJ P n w0 ds S L) i=some v:=by
 intro i v hv;have h0:=h w0;obtain ⟨r,hr,he⟩:=Option.map_eq_some_iff.1 h0;simp only [Prod.mk.injEq] at he;obtain ⟨e1, -, -, -, e5⟩:=he;unfold zJ;rw [hr]
 show look r.S i=some v
 obtain ⟨A,hA⟩:=Oa _ _ _ _ hr;rw [AZ] at hv;cases hl:look St i with
 | some u =>
  rw [hl] at hv;simp only [Option.or] at hv;cases hv
  exact aj8 e1 (Ni hl)
 | none =>
  rw [hl] at hv;simp only [Option.or] at hv;rw [hA,AZ];cases hAi:look A i with
  | none=>exact hv
  | some u =>
   exfalso
   unfold fits at e5;rw [hA] at e5;have:=List.all_eq_true.1 e5 (i,u) (by simp;exact Ni hAi);simp [hl,hv] at this
theorem go (hs:List Nat) (St:Sl) {m:Nat} (L':Mm) (h:Jq P n w0 (tr m hs p).1 S L St L') (hp:(tr m hs p).2.here=true) (hc:G P n R w0 H0 (tr m hs p).2 (St++S) L'):G P n R w0 H0 p S L :=
 goF hs St L' h (hc.of h.sub hp)
end
end Go.Fx
namespace Go.Fx
open Go Go.RowKit Go.SW Go.Mem
def Pos.next:Pos→Option (Array Oper × Oper)
 | .reg ops (i:: _) _=>(ops[i]?).map fun o=>(ops,o)
 | .uG ops _ ((.ext,i):: _) _ _=>(ops[i]?).map fun o=>(ops,o)
 | _=>none
def Pos.past:Pos→Pos
 | .reg ops (_::is) k=>.reg ops is k
 | .uG ops Hj (_::is) A k=>.uG ops Hj is A k
 | p=>p
def qG (P:Program) (n:Nat) (w:World) (S:Sl) (p:Pos):Option (Nat × FuncId × Array Value × World):=match p.next with
 | some (ops,o)=>(match fit ops S o,Region.wanted o (yl ops S),o.dst with
  | true,true,some d=>(match Nat.blt d n with
   | true=>(match (execOp (ev S) o).run P w with
    | .ok (.enter f args) w'=>some (d,f,args,w')
    | _=>none)
   | false=>none)
  | _,_,_=>none)
 | none=>none
def wX (P:Program) (n:Nat) (w:World) (S:Sl) (p:Pos):Option (Nat × Value × World):=match p.next with
 | some (ops,o)=>(match fit ops S o,Region.wanted o (yl ops S),o.dst with
  | true,true,some d=>(match Nat.blt d n with
   | true=>(match (execOp (ev S) o).run P w with
    | .ok (.value v) w'=>some (d,v,w')
    | _=>none)
   | false=>none)
  | _,_,_=>none)
 | none=>none
def Pos.may (j:Nat):Pos→Bool
 | .uG _ Hj _ _ _=>Hj.contains j
 | _=>true
def Pos.Hy:Pos→Bool
 | .uG _ _ is _ _=> !is.any (fun x=>Qv x.1)
 | _=>true
def Pos.noH:Pos→Bool
 | .uG _ Hj _ _ _=>Hj.isEmpty
 | _=>true
section
variable {P:Program} {n:Nat} {R:Post} {w0:World} {H0:List Nat} {p:Pos} {S:Sl} {L L':Mm}
theorem jK {w w':World} {d:Nat} {f:FuncId} {args:Array Value} (h:qG P n w S p=some (d,f,args,w')) :
  ∃ ops o,p.next=some (ops,o)∧fit ops S o=true∧Region.wanted o (yl ops S)=true∧o.dst=some d∧d<n∧(execOp (ev S) o).run P w= .ok (.enter f args) w':=by
 unfold qG at h;split at h
 ·rename_i ops o ho;split at h
  ·rename_i d' hf hw hd;split at h
   ·rename_i hb;split at h
    ·rename_i hr;cases h
     exact ⟨ops,o,ho,hf,hw,hd,Nat.le_of_ble_eq_true hb,hr⟩
    ·cases h
   ·cases h
  ·cases h
 ·cases h
theorem zQ {w w':World} {d:Nat} {v:Value} (h:wX P n w S p=some (d,v,w')) :
  ∃ ops o,p.next=some (ops,o)∧fit ops S o=true∧Region.wanted o (yl ops S)=true∧o.dst=some d∧d<n∧(execOp (ev S) o).run P w= .ok (.value v) w':=by
 unfold wX at h;split at h
 ·rename_i ops o ho;split at h
  ·rename_i d' hf hw hd;split at h
   ·rename_i hb;split at h
    ·rename_i hr;cases h
     exact ⟨ops,o,ho,hf,hw,hd,Nat.le_of_ble_eq_true hb,hr⟩
    ·cases h
   ·cases h
  ·cases h
 ·cases h
theorem place {ops:Array Oper} {o:Oper} (hn:p.next=some (ops,o)) (hf:fit ops S o=true) (hw:Region.wanted o (yl ops S)=true) {Y:Nat→List Nat→World→Act→Act→World→Prop}
  (h:∀ w N H,Mem w0 H0 L w→ok w0 N H p L→∀ a,xS n S a→∀ K:Act→World→Prop,(∀ a' w',Y N H w a a' w'→K a' w')→∀ k,o.wp P a w K (lift n (Cont P n R k)))
  (hY:∀ w N H,Mem w0 H0 L w→ok w0 N H p L→∀ a a' w',xS n S a→Y N H w a a' w'→(∀ ops Hj is A k,p= .uG ops Hj is A k→mh H w w')∧∃ S',xS n S' a'∧W P n R N H p.past S' w'):G P n R w0 H0 p S L:=⟨fun w N H hM hok=>by
 cases p with
 | code c k=>cases hn
 | nx e k=>cases hn
 | reg ops' is k =>
  cases is with
  | nil=>cases hn
  | cons i is =>
   obtain ⟨o',ho,he⟩:=Option.map_eq_some_iff.1 hn;cases he
   intro a ha;unfold wpOps;simp only [ho,ha.wanted (nI hf)];rw [if_pos hw];refine .inl (h w N H hM hok a ha _ (fun a' w' hy=>?_) k);obtain ⟨-, S',h1,h2⟩:=hY w N H hM hok a a' w' ha hy;exact h2 a' h1
 | uG ops' Hj is A k =>
  cases is with
  | nil=>cases hn
  | cons x is =>
   obtain ⟨kd,i⟩:=x;cases kd with
   | ext =>
    obtain ⟨o',ho,he⟩:=Option.map_eq_some_iff.1 hn;cases he
    intro a ha;unfold Lb.walk;simp only [ho,ha.wanted (nI hf)];rw [if_pos hw];intro w1 hb;refine h w1 N H (hM.later hb) hok a ha _ (fun a' w' hy=>?_) k;obtain ⟨h0,S',h1,h2⟩:=hY w1 N H (hM.later hb) hok a a' w' ha hy;exact ⟨h0 _ _ _ _ _ rfl,h2 a' h1⟩
   | _=>cases hn⟩
theorem JR {N:Nat} {H:List Nat} (hok:ok w0 N H p L) (hb:∀ j,blk L' j=blk L j) (hwr:wrt L'=wrt L):ok w0 N H p.past L':=by
 have hbl:blk L'=blk L:=funext hb;cases p with
 | reg ops is k=>cases is<;>exact trivial
 | uG ops Hj is A k =>
  obtain ⟨k1,k2,k3,k4⟩:=hok
  have key:∀ (j:Nat) (x:Bx),L'[j]? =some x→∃ y,L[j]? =some y∧y.b=x.b:=fun j x hx=>by
   have:=hb j;unfold blk at this;rw [hx] at this;obtain ⟨y,h1,h2⟩:=Option.map_eq_some_iff.1 this.symm;exact ⟨y,h1,h2⟩
  cases is with
  | nil=>exact ⟨fun h=>by simp at h,fun h=>by simp at h,k3,by rw [hbl,hwr];exact k4⟩
  | cons x is =>
   refine ⟨fun hal=>k1 (by rw [List.any_cons,hal,Bool.or_true]),fun hal j x hx=>?_,k3,by rw [hbl,hwr];exact k4⟩;obtain ⟨y,h1,h2⟩:=key j x hx;rw [← h2];exact k2 (by rw [List.any_cons,hal,Bool.or_true]) j y h1
 | _=>exact trivial
theorem Jg {d:Nat} {f:FuncId} {args:Array Value} {v:Value} {B:List Nat} (hC:∀ w,Mem w0 H0 L w→Calls P f args w (fun e w'=>e= .returned v∧mh B w w'∧Mem w0 H0 L' w')) (h:∀ w,qG P n w S p=some (d,f,args,w))
  (hB:∀ ops Hj is A k,p= .uG ops Hj is A k→∀ b∈B,b∈Hj.filterMap (blk L)) (hb:∀ j,blk L' j=blk L j) (hwr:wrt L'=wrt L) (hc:G P n R w0 H0 p.past ((d,v)::S) L'):G P n R w0 H0 p S L:=by
 obtain ⟨ops,o,hn,hf,hw,hd,hlt, -⟩:=jK (h w0);refine place hn hf hw (Y:=fun N H w a a' w'=>a'=a.put (some d) v∧mh B w w'∧Mem w0 H0 L' w') (fun w N H hM hok a ha K hK k=>?_) fun w N H hM hok a a' w' ha hy=>?_
 ·obtain ⟨ops',o',hn', -, -, -, -, hr⟩:=jK (h w);rw [hn] at hn';cases hn'
  unfold Oper.wp;rw [ha.exec hf,hr];simp only [Oper.upon];refine (hC w hM).mono fun e w' he=>?_;obtain ⟨rfl,h1,h2⟩:=he;rw [hd];exact hK _ _ ⟨rfl,h1,h2⟩
 ·obtain ⟨rfl,h1,h2⟩:=hy;refine ⟨fun ops Hj is A k e=>?_,_,ha.put hlt v,hc.out w' N H h2 (JR hok hb hwr)⟩;subst e;exact ⟨h1.os,h1.tape,h1.output,h1.size,fun i hi hnm=>h1.block i hi fun hm=>hnm (by rw [hok.2.2.2.1];exact hB _ _ _ _ _ rfl i hm)⟩
theorem IQ {x:Array Oper × Oper} (h:p.next=some x):p.past.here=true:=by
 cases p with
 | reg ops is k=>cases is<;>first|cases h|rfl
 | uG ops Hj is A k=>cases is<;>first|cases h|rfl
 | _=>cases h
theorem mW {S':Sl} (h:∀ i v,look S' i=some v→look S i=some v) (d:Nat) (u:Value):∀ i v,look ((d,u)::S') i=some v→look ((d,u)::S) i=some v:=fun i v hv=>by
 rw [qX] at hv ⊢;cases hb:Nat.beq i d with
 | true=>simp only [hb,cond_true] at hv ⊢;exact hv
 | false=>simp only [hb,cond_false] at hv ⊢;exact h i v hv
theorem ru {w w':World} {d:Nat} {f:FuncId} {args:Array Value} (h:qG P n w S p=some (d,f,args,w')):p.past.here=true:=by
 obtain ⟨_,_,hn, -⟩:=jK h;exact IQ hn
theorem Iz {w w':World} {d:Nat} {v:Value} (h:wX P n w S p=some (d,v,w')):p.past.here=true:=by
 obtain ⟨_,_,hn, -⟩:=zQ h;exact IQ hn
theorem call (hs:List Nat) (d:Nat) (St:Sl) (U:List (Nat × Array Value)) {f:FuncId} {args:Array Value} {v:Value} (hC:∀ w,Mem w0 H0 (upd L U) w→Calls P f args w (fun e w'=>e= .returned v∧Below w.heap.size w w'))
  (hc:G P n R w0 H0 (tr 4000 hs p).2.past ((d,v)::(St++S)) (upd L U))
  (h:Jq P n w0 (tr 4000 hs p).1 S L St (upd L U):=by intro _;kernel_rfl) (hx:∀ w,qG P n w (zJ P n w0 (tr 4000 hs p).1 S L) (tr 4000 hs p).2=some (d,f,args,w):=by intro _;kernel_rfl):G P n R w0 H0 p S L :=
 goF hs St _ h (Jg (B:=[]) (fun w hM=>(hC w hM).mono fun e w' he=>⟨he.1,.of he.2,hM.later he.2⟩) hx (fun _ _ _ _ _ _ b hb=>by cases hb) (fun _=>rfl) rfl (hc.of (mW h.sub d v) (ru (hx w0))))
theorem aO (hs:List Nat) (d:Nat) (St:Sl) (U:List (Nat × Array Value)) {f:FuncId} {args:Array Value} {v:Value} (hC:∀ w,Calls P f args w (fun e w'=>e= .returned v∧Below w.heap.size w w'))
  (hc:G P n R w0 H0 (tr 4000 hs p).2.past ((d,v)::(St++S)) (upd L U))
  (h:Jq P n w0 (tr 4000 hs p).1 S L St (upd L U):=by intro _;kernel_rfl) (hx:∀ w,qG P n w (zJ P n w0 (tr 4000 hs p).1 S L) (tr 4000 hs p).2=some (d,f,args,w):=by intro _;kernel_rfl):G P n R w0 H0 p S L:=call hs d St U (fun w _=>hC w) hc h hx
theorem iw (hs:List Nat) (d j:Nat) (St:Sl) (U:List (Nat × Array Value)) {f:FuncId} {args:Array Value} {v:Value} {b:Nat} {T:TypeId} {cs:Array Value} (hC:∀ w,Mem w0 H0 (upd L U) w→Calls P f args w (fun e w'=>e= .returned v∧mh [b] w w'∧ah w' b cs T))
  (hc:G P n R w0 H0 (tr 4000 hs p).2.past ((d,v)::(St++S)) (xu (upd L U) j cs))
  (h:Jq P n w0 (tr 4000 hs p).1 S L St (upd L U):=by intro _;kernel_rfl) (hx:∀ w,qG P n w (zJ P n w0 (tr 4000 hs p).1 S L) (tr 4000 hs p).2=some (d,f,args,w):=by intro _;kernel_rfl)
  (hj:((upd L U)[j]?).map (fun x=>(x.b,x.T,x.o,(tr 4000 hs p).2.may j))=some (b,T,true,true):=by kernel_rfl):G P n R w0 H0 p S L:=by
 obtain ⟨x,hx1,hx2⟩:=Option.map_eq_some_iff.1 hj;simp only [Prod.mk.injEq] at hx2;obtain ⟨rfl,rfl,e3,e4⟩:=hx2;refine goF hs St _ h (Jg (L':=xu (upd L U) j cs) (B:=[x.b]) (fun w hM=>(hC w hM).mono fun e w' he=>⟨he.1,he.2.1,hM.set hx1 e3 he.2.1 he.2.2⟩) hx (fun ops Hj is A k e b hb=>?_) (fun i=>by rw [Oo]) Lx (hc.of (mW h.sub d v) (ru (hx w0))));rw [e] at e4;simp only [List.mem_singleton] at hb;subst hb;exact UH hx1 e4
theorem Ow {j:Nat} {x:Bx} (h:wrt L j=true):blk (L++[x]) j=blk L j∧wrt (L++[x]) j=wrt L j:=by
 unfold wrt at h;unfold blk wrt;cases hl:L[j]? with
 | none=>rw [hl] at h;cases h
 | some y=>rw [List.getElem?_append_left (List.getElem?_eq_some_iff.1 hl).1,hl];exact ⟨rfl,rfl⟩
def ro (L:Mm):Mm:=L.map fun x=>⟨x.b,x.cs,x.T,false⟩
def ba6 (P:Program) (n:Nat) (R:Post) (w0:World) (p:Pos) (d:Nat) (S:Sl) (L:Mm) (w w1:World):Ending→Prop
 | .returned v=>Below w.heap.size w w1∧(Mem w0 [] L w1→G P n R w1 [] p.past ((d,v)::S) (ro L))
 | _=>False
theorem PD {L:Mm} {j:Nat} {x:Bx} (h:(ro L)[j]? =some x):∃ y,L[j]? =some y∧x=⟨y.b,y.cs,y.T,false⟩:=by
 unfold ro at h;rw [List.getElem?_map] at h;obtain ⟨y,h1,h2⟩:=Option.map_eq_some_iff.1 h;exact ⟨y,h1,h2.symm⟩
theorem Mem.anew {w:World} (h:Mem w0 H0 L w):Mem w [] (ro L) w:=by
 refine ⟨fun j x hx=>?_,fun i j x y hx hy hne ho=>?_,fun j x hx ho=>?_,mh.refl w⟩
 ·obtain ⟨y,hy,rfl⟩:=PD hx;exact h.all j y hy
 ·obtain ⟨u,hu,rfl⟩:=PD hx;cases ho
 ·obtain ⟨u,hu,rfl⟩:=PD hx;cases ho
theorem gL (hs:List Nat) (d:Nat) (St:Sl) (U:List (Nat × Array Value)) {f:FuncId} {args:Array Value} {E:World→Ending→World→Prop} (hC:∀ w,Mem w0 [] (upd L U) w→Calls P f args w (E w))
  (hc:∀ w w1 e,Mem w0 [] (upd L U) w→E w e w1→ba6 P n R w0 (tr 4000 hs p).2 d (St++S) (upd L U) w w1 e)
  (h:Jq P n w0 (tr 4000 hs p).1 S L St (upd L U):=by intro _;kernel_rfl) (hx:∀ w,qG P n w (zJ P n w0 (tr 4000 hs p).1 S L) (tr 4000 hs p).2=some (d,f,args,w):=by intro _;kernel_rfl) (hal:((tr 4000 hs p).2.past.Hy,(tr 4000 hs p).2.noH)=(true,true):=by kernel_rfl):G P n R w0 [] p S L:=by
 refine goF hs St _ h ?_;have hsub:=h.sub;have hh:=ru (hx w0);simp only [Prod.mk.injEq] at hal;generalize zJ P n w0 (tr 4000 hs p).1 S L=F at hx hsub ⊢;generalize (tr 4000 hs p).2=q at hc hx hal hh;generalize upd L U=L at hC hc;generalize St++S=S at hc hsub;obtain ⟨ops,o,hn,hf,hw,hd,hlt, -⟩:=jK (h:=hx w0);refine place hn hf hw (Y:=fun N H w a a' w1=>∃ v,a'=a.put (some d) v∧Below w.heap.size w w1∧Mem w0 [] L w1∧G P n R w1 [] q.past ((d,v)::F) (ro L)) (fun w N H hM hok a ha K hK k=>?_) fun w N H hM hok a a' w' ha hy=>?_
 ·obtain ⟨ops',o',hn', -, -, -, -, hr⟩:=jK (h:=hx w);rw [hn] at hn';cases hn'
  unfold Oper.wp;rw [ha.exec hf,hr];simp only [Oper.upon];refine (hC w hM).mono fun e w' he=>?_;have:=hc w w' e hM he;cases e with
  | returned v =>
   rw [hd];exact hK _ _ ⟨v,rfl,this.1,hM.later this.1,(this.2 (hM.later this.1)).of (mW hsub d v) hh⟩
  | _=>exact this.elim
 ·obtain ⟨v,rfl,h1,h2,h3⟩:=hy;refine ⟨fun _ _ _ _ _ _=>.of h1,_,ha.put hlt v,h3.out w' N H h2.anew ?_⟩;cases q with
  | uG ops Hj is A k =>
   cases is with
   | nil=>cases hn
   | cons x is =>
    obtain ⟨k1,k2,k3,k4⟩:=hok;have aN4:=hal.1;have aN3:=hal.2;simp only [Pos.noH,List.isEmpty_iff] at aN3;subst aN3;refine ⟨fun hx=>?_,fun hx=>?_,k3,k4.1,fun j hj=>by cases hj⟩<;>simp only [Pos.past,Pos.Hy,hx] at aN4<;>cases aN4
  | reg ops is k=>cases is<;>exact trivial
  | _=>exact trivial
theorem back {w1:World} {L0:Mm} (M1:Mem w0 [] L0 w1) (hc:G P n R w0 [] p S (L0++L.drop L0.length)) (h':(L.take L0.length,(L.drop L0.length).all (·.o))=(ro L0,true):=by kernel_rfl):G P n R w1 [] p S L:=by
 simp only [Prod.mk.injEq] at h';obtain ⟨h,hall⟩:=h'
 have hlt:∀ j,j<L0.length→∀ x,L0[j]? =some x→L[j]? =some ⟨x.b,x.cs,x.T,false⟩:=fun j hj x hx=>by
  have:(L.take L0.length)[j]? =L[j]? :=by rw [List.getElem?_take];simp [hj]
  rw [← this,h];unfold ro;rw [List.getElem?_map,hx];rfl
 have key:∀ (j:Nat) (x:Bx),(L0++L.drop L0.length)[j]? =some x→(j<L0.length∧L0[j]? =some x∧L[j]? =some ⟨x.b,x.cs,x.T,false⟩)∨(L[j]? =some x):=fun j x hx=>by
  rcases Nat.lt_or_ge j L0.length with hj|hj
  ·rw [List.getElem?_append_left hj] at hx;exact .inl ⟨hj,hx,hlt j hj x hx⟩
  ·rw [List.getElem?_append_right hj,List.getElem?_drop,show L0.length+(j - L0.length)=j by omega] at hx;exact .inr hx
 have hblk:blk (L0++L.drop L0.length)=blk L:=by
  funext j
  unfold blk
  rcases Nat.lt_or_ge j L0.length with hj|hj
  ·have hx:L0[j]? =some L0[j]:=by simp [hj]
   rw [List.getElem?_append_left hj,hx,hlt j hj _ hx];rfl
  ·rw [List.getElem?_append_right hj,List.getElem?_drop,show L0.length+(j - L0.length)=j by omega]
 have aU1:∀ j,wrt L j=true→wrt (L0++L.drop L0.length) j=true:=fun j h=>by
  unfold wrt at h ⊢
  rcases Nat.lt_or_ge j L0.length with hj|hj
  ·have hx:L0[j]? =some L0[j]:=by simp [hj]
   rw [hlt j hj _ hx] at h;cases h
  ·rw [List.getElem?_append_right hj,List.getElem?_drop,show L0.length+(j - L0.length)=j by omega];exact h
 have hb:∀ (j:Nat) (x:Bx),(L0++L.drop L0.length)[j]? =some x→∃ y,L[j]? =some y∧y.b=x.b:=fun j x hx=>by
  rcases key j x hx with ⟨-, -, h⟩|h
  ·exact ⟨_,h,rfl⟩
  ·exact ⟨_,h,rfl⟩
 refine ⟨fun w N H hM hok=>hc.out w N H ⟨fun j x hx=>?_,fun i j x y hx hy hne hxo=>?_,fun j x hx ho=>?_,M1.tK.trans hM.tK⟩ ?_⟩
 ·rcases key j x hx with ⟨-, h1, -⟩|h1
  ·exact (M1.later hM.below).all j x h1
  ·exact hM.all j x h1
 ·obtain ⟨v,hv,ev⟩:=hb j y hy;rw [← ev]
  rcases key i x hx with ⟨-, h1,h2⟩|h1
  ·rcases key j y hy with ⟨-, h3, -⟩|h3
   ·rw [ev];exact M1.dis i j x y h1 h3 hne hxo
   ·rcases Nat.lt_or_ge j L0.length with hj|hj
    ·have hx:L0[j]? =some L0[j]:=by simp [hj]
     have:=hlt j hj _ hx;rw [this] at hv;cases hv
     exact M1.dis i j x L0[j] h1 hx hne hxo
    ·have WG:y.o=true:=List.all_eq_true.1 hall y (List.mem_of_getElem? (i:=j - L0.length) (by rw [List.getElem?_drop,show L0.length+(j - L0.length)=j by omega];exact h3))
     rcases hM.own j y h3 WG with hm|hm
     ·cases hm
     ·rw [ev];exact Nat.ne_of_lt (Nat.lt_of_lt_of_le (M1.all i x h1).lt hm)
  ·exact hM.dis i j x v h1 hv hne hxo
 ·rcases key j x hx with ⟨-, h1, -⟩|h1
  ·exact M1.own j x h1 ho
  ·rcases hM.own j x h1 ho with hm|hm
   ·cases hm
   ·exact .inr (Nat.le_trans M1.tK.size hm)
 ·cases p with
  | uG ops Hj is A k =>
   obtain ⟨k1,k2,k3,k4⟩:=hok;refine ⟨fun h=>Nat.le_trans M1.tK.size (k1 h),fun h j x hx=>?_,k3,by rw [hblk];exact k4.1,fun j hj=>aU1 j (k4.2 j hj)⟩;obtain ⟨u,hu,eu⟩:=hb j x hx;rw [← eu];exact k2 h j u hu
  | _=>exact trivial
theorem Fj {α β:Type} {f g:α→Option β} {l:List α} (h:∀ x∈l,f x=g x):l.filterMap f=l.filterMap g:=by
 induction l with
 | nil=>rfl
 | cons x l ih=>simp only [List.filterMap_cons,h x List.mem_cons_self,ih fun y hy=>h y (List.mem_cons_of_mem _ hy)]
theorem Nb {d:Nat} {mk:Nat→Value} {cs:Array Value} {T:TypeId} (h:∀ w,wX P n w S p=some (d,mk w.heap.size,w.alloc (.cells cs T (0,0)))) (hal:p.past.Hy=true)
  (hc:∀ b,G P n R w0 H0 p.past ((d,mk b)::S) (L++[⟨b,cs,T,true⟩])):G P n R w0 H0 p S L:=by
 obtain ⟨ops,o,hn,hf,hw,hd,hlt, -⟩:=zQ (h w0);refine place hn hf hw (Y:=fun N H w a a' w'=>a'=a.put (some d) (mk w.heap.size)∧w'=w.alloc (.cells cs T (0,0))) (fun w N H hM hok a ha K hK k=>?_) fun w N H hM hok a a' w' ha hy=>?_
 ·obtain ⟨ops',o',hn', -, -, -, -, hr⟩:=zQ (h w);rw [hn] at hn';cases hn'
  unfold Oper.wp;rw [ha.exec hf,hr];simp only [Oper.upon];rw [hd];exact hK _ _ ⟨rfl,rfl⟩
 ·obtain ⟨rfl,rfl⟩:=hy;have hB:Below w.heap.size w (w.alloc (.cells cs T (0,0))):=(Below.refl _ _).alloc (Nat.le_refl _) _;have hM':=hM.push hB (b:=w.heap.size) (cs:=cs) (T:=T) (fun j x hx=>Nat.ne_of_lt (hM.all j x hx).lt) hM.tK.size (ah.new _ _ _);refine ⟨fun _ _ _ _ _ _=>.of hB,_,ha.put hlt _,(hc w.heap.size).out _ N H hM' ?_⟩;cases p with
  | uG ops Hj is A k =>
   cases is with
   | nil=>cases hn
   | cons x is =>
    obtain ⟨k1,k2,k3,k4⟩:=hok;refine ⟨fun hx=>?_,fun hx=>?_,k3,?_⟩
    ·simp only [Pos.past,Pos.Hy,hx] at hal;cases hal
    ·simp only [Pos.past,Pos.Hy,hx] at hal;cases hal
    ·have key:∀ j∈Hj,blk (L++[(⟨w.heap.size,cs,T,true⟩:Bx)]) j=blk L j∧wrt (L++[(⟨w.heap.size,cs,T,true⟩:Bx)]) j=wrt L j:=fun j hj=>Ow (k4.2 j hj);exact ⟨k4.1.trans (Fj fun j hj=>(key j hj).1.symm),fun j hj=>by rw [(key j hj).2];exact k4.2 j hj⟩
  | reg ops is k=>cases is<;>exact trivial
  | _=>exact trivial
theorem new (hs:List Nat) (d:Nat) (cs:Array Value) (T:TypeId) (St:Sl) (U:List (Nat × Array Value)) (hc:∀ b,G P n R w0 H0 (tr 4000 hs p).2.past ((d,.pointer (some ⟨b,0,none⟩))::(St++S)) (upd L U++[⟨b,cs,T,true⟩]))
  (h:Jq P n w0 (tr 4000 hs p).1 S L St (upd L U):=by intro _;kernel_rfl) (hx:∀ w,wX P n w (zJ P n w0 (tr 4000 hs p).1 S L) (tr 4000 hs p).2=some (d,.pointer (some ⟨w.heap.size,0,none⟩),w.alloc (.cells cs T (0,0))):=by intro _;kernel_rfl) (hal:(tr 4000 hs p).2.past.Hy=true:=by kernel_rfl):G P n R w0 H0 p S L :=
 goF hs St _ h (Nb (mk:=fun b=>.pointer (some ⟨b,0,none⟩)) hx hal fun b=>(hc b).of (mW h.sub d _) (Iz (hx w0)))
theorem newS (hs:List Nat) (d l c:Nat) (cs:Array Value) (T:TypeId) (St:Sl) (U:List (Nat × Array Value)) (hc:∀ b,G P n R w0 H0 (tr 4000 hs p).2.past ((d,.slice (some ⟨b,0,none⟩) l c)::(St++S)) (upd L U++[⟨b,cs,T,true⟩]))
  (h:Jq P n w0 (tr 4000 hs p).1 S L St (upd L U):=by intro _;kernel_rfl) (hx:∀ w,wX P n w (zJ P n w0 (tr 4000 hs p).1 S L) (tr 4000 hs p).2=some (d,.slice (some ⟨w.heap.size,0,none⟩) l c,w.alloc (.cells cs T (0,0))):=by intro _;kernel_rfl) (hal:(tr 4000 hs p).2.past.Hy=true:=by kernel_rfl):G P n R w0 H0 p S L :=
 goF hs St _ h (Nb (mk:=fun b=>.slice (some ⟨b,0,none⟩) l c) hx hal fun b=>(hc b).of (mW h.sub d _) (Iz (hx w0)))
def newP (n:Nat):Pos→Option (Nat × Array Value × TypeId)
 | .uG ops _ ((.alloc cs T,i):: _) _ _=>(match (ops[i]?).bind (·.dst) with
  | some d=>(match Nat.blt d n with
   | true=>some (d,cs,T)
   | false=>none)
  | none=>none)
 | _=>none
def Pos.YP (b:Nat):Pos→Pos
 | .uG ops Hj (_::is) A k=>.uG ops Hj is (b::A) k
 | p=>p
theorem Wu {d:Nat} {cs:Array Value} {T:TypeId} (h:newP n p=some (d,cs,T)) (hc:∀ b,G P n R w0 H0 (p.YP b) ((d,.pointer (some ⟨b,0,none⟩))::S) (L++[⟨b,cs,T,true⟩])):G P n R w0 H0 p S L:=⟨fun w N H hM hok=>by
 cases p with
 | uG ops Hj is A k =>
  cases is with
  | nil=>cases h
  | cons x is =>
   obtain ⟨kd,i⟩:=x;cases kd with
   | alloc cs' T' =>
    simp only [newP] at h;split at h
    ·rename_i d' hd;split at h
     ·rename_i hb;cases h
      obtain ⟨o,ho,hod⟩:=Option.bind_eq_some_iff.1 hd;obtain ⟨k1,k2,k3,k4⟩:=hok;intro a ha;refine Lb.cK ho fun b w' h1 h2 h3 h4 h5=>?_;rw [hod];have kk:=k2 (by simp [Qv]);have k1:=k1 (by simp [Qv])
      have hne:∀ (j:Nat) (x:Bx),L[j]? =some x→x.b≠b:=fun j x hx e=>by
       rcases kk j x hx with hlt|hm
       ·omega
       ·exact h4 (e ▸ hm)
      refine (hc b).out w' N H (hM.push h1 hne (Nat.le_trans k1 h2) h5) ⟨fun _=>k1,fun _ j x hx=>?_,k3,?_⟩ _ (ha.put (Nat.le_of_ble_eq_true hb) _)
      ·rcases Nat.lt_trichotomy j L.length with hl|hl|hl
       ·rw [List.getElem?_append_left hl] at hx
        rcases kk j x hx with hlt|hm
        ·exact .inl hlt
        ·exact .inr (List.mem_cons_of_mem _ hm)
       ·subst hl;simp at hx
        subst hx;exact .inr List.mem_cons_self
       ·rw [List.getElem?_eq_none (by simp;omega)] at hx;cases hx
      ·have key:∀ j∈Hj,blk (L++[(⟨b,cs,T,true⟩:Bx)]) j=blk L j∧wrt (L++[(⟨b,cs,T,true⟩:Bx)]) j=wrt L j:=fun j hj=>Ow (k4.2 j hj);exact ⟨k4.1.trans (Fj fun j hj=>(key j hj).1.symm),fun j hj=>by rw [(key j hj).2];exact k4.2 j hj⟩
     ·cases h
    ·cases h
   | _=>cases h
 | _=>cases h⟩
theorem aS4 (hs:List Nat) (d:Nat) (cs:Array Value) (T:TypeId) (St:Sl) (U:List (Nat × Array Value)) (hc:∀ b,G P n R w0 H0 ((tr 4000 hs p).2.YP b) ((d,.pointer (some ⟨b,0,none⟩))::(St++S)) (upd L U++[⟨b,cs,T,true⟩]))
  (h:Jq P n w0 (tr 4000 hs p).1 S L St (upd L U):=by intro _;kernel_rfl) (hp:(tr 4000 hs p).2.here=true:=by kernel_rfl) (hx:newP n (tr 4000 hs p).2=some (d,cs,T):=by kernel_rfl):G P n R w0 H0 p S L :=
 go hs St _ h hp (Wu hx hc)
def zer (P:Program) (T:TypeId):Array Value:=(vW P T).getD #[]
theorem aL (hs:List Nat) (d:Nat) (T:TypeId) (St:Sl) (U:List (Nat × Array Value)) (hc:∀ b,G P n R w0 H0 (tr 4000 hs p).2.past ((d,.pointer (some ⟨b,0,none⟩))::(St++S)) (upd L U++[⟨b,zer P T,T,true⟩]))
  (h:Jq P n w0 (tr 4000 hs p).1 S L St (upd L U):=by intro _;kernel_rfl) (hx:∀ w,wX P n w (zJ P n w0 (tr 4000 hs p).1 S L) (tr 4000 hs p).2=some (d,.pointer (some ⟨w.heap.size,0,none⟩),w.alloc (.cells (zer P T) T (0,0))):=by intro _;kernel_rfl) (hal:(tr 4000 hs p).2.past.Hy=true:=by kernel_rfl):G P n R w0 H0 p S L:=new hs d (zer P T) T St U hc h hx hal
theorem sS (hs:List Nat) (d:Nat) (T:TypeId) (St:Sl) (U:List (Nat × Array Value)) (hc:∀ b,G P n R w0 H0 ((tr 4000 hs p).2.YP b) ((d,.pointer (some ⟨b,0,none⟩))::(St++S)) (upd L U++[⟨b,zer P T,T,true⟩]))
  (h:Jq P n w0 (tr 4000 hs p).1 S L St (upd L U):=by intro _;kernel_rfl) (hp:(tr 4000 hs p).2.here=true:=by kernel_rfl) (hx:newP n (tr 4000 hs p).2=some (d,zer P T,T):=by kernel_rfl):G P n R w0 H0 p S L:=aS4 hs d (zer P T) T St U hc h hp hx
def kindOf (P:Program) (o:Oper):K:=match o.op with
 | .load _ _=>.read
 | .store _ _ _=>.fin
 | .alloc T=>.alloc ((vW P T).getD #[]) T
 | .call c=>(match c.callee with
  | .builtin _=>.pure
  | _=>.ext)
 | .box _ _| .buildSlice _ _ _| .makeSlice _ _ _=>.ext
 | _=>.pure
def plan (P:Program) (ops:Array Oper) (l:List Nat):List (K × Nat):=l.filterMap fun x=>(ops[x%1000]?).map fun o=>((match x / 1000 with|0=>kindOf P o|1=>.pure|2=>.read|3=>.ext|5=>.fin| _=>kindOf P o),x%1000)
def Pos.draw (P:Program) (Hj l:List Nat):Pos→Pos
 | .code (.region _ ops true) k=>.uG ops Hj (plan P ops l) [] k
 | p=>p
def Pos.aA7 (P:Program) (l:List Nat):Pos→Bool
 | .code (.region _ ops true) _=>check ops (plan P ops l)
 | _=>false
def Pos.probes (P:Program) (l:List Nat):Pos→List (Bool × Option (Array Value))
 | .code (.region _ ops true) _=>(plan P ops l).map (probe P ops)
 | _=>[]
def Pos.wants (P:Program) (l:List Nat):Pos→List (Bool × Option (Array Value))
 | .code (.region _ ops true) _=>(plan P ops l).map want
 | _=>[]
theorem draw (hs l Hj:List Nat) (St:Sl) (U:List (Nat × Array Value)) (hc:G P n R w0 H0 ((tr 4000 hs p).2.draw P Hj l) (St++S) (upd L U))
  (h:Jq P n w0 (tr 4000 hs p).1 S L St (upd L U):=by intro _;kernel_rfl) (hp:(tr 4000 hs p).2.here=true:=by kernel_rfl) (hm:P.follows .mixedOrders=true:=by kernel_rfl)
  (hd:(tr 4000 hs p).2.aA7 P l=true:=by kernel_rfl) (hq:(tr 4000 hs p).2.probes P l=(tr 4000 hs p).2.wants P l:=by kernel_rfl) (hj:Hj.all (wrt (upd L U))=true:=by kernel_rfl):G P n R w0 H0 p S L:=by
 refine go hs St _ h hp ?_;generalize (tr 4000 hs p).2=q at hc hd hq;generalize upd L U=L at hc hj;generalize St++S=S at hc;refine ⟨fun w N H hM hok=>?_⟩;cases q with
 | code c k =>
  cases c with
  | region id ops dr =>
   cases dr with
   | false=>cases hd
   | true =>
    intro a ha
    have hH:∀ h∈Hj.filterMap (blk L),h<w.heap.size:=fun h hh=>by
     obtain ⟨j, -, hj⟩:=List.mem_filterMap.1 hh;obtain ⟨x,hx,rfl⟩:=Option.map_eq_some_iff.1 hj;exact (hM.all j x hx).lt
    refine Lb.aF (plan P ops l) (lax hH) rfl hm hd (zq hq) (fun c a s w hs h=>Qu c a s w hs h) ?_;have hb:Below w.heap.size w w.drew:=Below.drew (Below.refl _ _);exact hc.out w.drew w.heap.size _ (hM.later hb) ⟨fun _=>hM.tK.size,fun _ j x hx=>.inl (hM.all j x hx).lt,hH,rfl,fun j hjm=>List.all_eq_true.1 hj j hjm⟩ a ha
  | _=>cases hd
 | _=>cases hd
theorem part (m:Nat) (hs:List Nat) (St:Sl) (U:List (Nat × Array Value)) (hc:G P n R w0 H0 (tr m hs p).2 (St++S) (upd L U))
  (h:Jq P n w0 (tr m hs p).1 S L St (upd L U):=by intro _;kernel_rfl) (hp:(tr m hs p).2.here=true:=by kernel_rfl):G P n R w0 H0 p S L:=go hs St _ h hp hc
theorem jo {d:Nat} {b:Bool} (c:Bool) (hb:b=c) (h:G P n R w0 H0 p ((d,.bool c)::S) L):G P n R w0 H0 p ((d,.bool b)::S) L:=hb ▸ h
theorem zX {d:Nat} {u:Value} (v:Value) (hb:u=v) (h:G P n R w0 H0 p ((d,v)::S) L):G P n R w0 H0 p ((d,u)::S) L:=hb ▸ h
theorem splitB {d:Nat} {b:Bool} (h1:b=true→G P n R w0 H0 p ((d,.bool true)::S) L) (h2:b=false→G P n R w0 H0 p ((d,.bool false)::S) L):G P n R w0 H0 p ((d,.bool b)::S) L:=by
 cases b
 ·exact h2 rfl
 ·exact h1 rfl
theorem wrap_i64 {z:Int} (h1: -9223372036854775808≤z) (h2:z≤9223372036854775807):Value.int .i64 (IntKind.i64.wrap z)= .int .i64 z:=by
 rw [show IntKind.i64.wrap z=z by unfold IntKind.wrap;simp [IntKind.bits,IntKind.signed];omega]
def Pos.cmp:Pos→Option (Array Oper × Oper)
 | .reg ops (i:: _) _=>(ops[i]?).map fun o=>(ops,o)
 | .uG ops _ ((.pure,i):: _) _ _=>(ops[i]?).map fun o=>(ops,o)
 | _=>none
def WS (P:Program) (n:Nat) (S:Sl) (p:Pos):Option (Bool × TypeId × Value × Value × Nat):=match p.cmp with
 | some (ops,o)=>(match fit ops S o,Region.wanted o (yl ops S),o.dst,o.op with
  | true,true,some d,.binOp op T x y _=>(match Nat.blt d n,P.eqGuardType P.depth T,ev S x,ev S y with
   | true,false,.agg u,.agg v=>(match op with
    | .eql=>some (true,T,.agg u,.agg v,d)
    | .neq=>some (false,T,.agg u,.agg v,d)
    | _=>none)
   | _,_,_,_=>none)
  | _,_,_,_=>none)
 | none=>none
theorem am6 {T:TypeId} {x y:Value} {d:Nat} {b e:Bool} (h:WS P n S p=some (b,T,x,y,d)) (he:∀ w,(Op.equal T x y).run P w= .ok e w) :
  ∃ ops o,p.cmp=some (ops,o)∧fit ops S o=true∧Region.wanted o (yl ops S)=true∧o.dst=some d∧d<n∧∀ w,(execOp (ev S) o).run P w= .ok (.value (.bool (b == e))) w:=by
 unfold WS at h;split at h
 ·rename_i ops o ho;split at h
  ·rename_i d' op T' xo yo pos hf hw hd hop;split at h
   ·rename_i u v hb hg hx hy;refine ⟨ops,o,ho,hf,hw,?_⟩;split at h<;>cases h<;>refine ⟨hd,Nat.le_of_ble_eq_true hb,fun w=>?_⟩<;>have:=he w<;>simp only [execOp,hop,hx,hy,eqGuard,binOp]<;>simp [hg,this]
   ·cases h
  ·cases h
 ·cases h
theorem ab1 {T:TypeId} {x y:Value} {d:Nat} {b e:Bool} (h:WS P n S p=some (b,T,x,y,d)) (he:∀ w,(Op.equal T x y).run P w= .ok e w) (hc:G P n R w0 H0 p.past ((d,.bool (b == e))::S) L):G P n R w0 H0 p S L:=by
 obtain ⟨ops,o,hn,hf,hw,hd,hlt,hr⟩:=am6 h he;refine ⟨fun w N H hM hok=>?_⟩;have aK9:=JR (p:=p) hok (fun _=>rfl) rfl;cases p with
 | reg ops' is k =>
  cases is with
  | nil=>cases hn
  | cons i is =>
   obtain ⟨o',ho,he⟩:=Option.map_eq_some_iff.1 hn;cases he
   intro a ha;unfold wpOps;simp only [ho,ha.wanted (nI hf)];rw [if_pos hw];have:=ha.put hlt (.bool (b == e));rw [← hd] at this;exact .inl (JX ha hf (hr w) (hc.out w N H hM aK9 _ this))
 | uG ops' Hj is A k =>
  cases is with
  | nil=>cases hn
  | cons x is =>
   obtain ⟨kd,i⟩:=x;cases kd with
   | pure =>
    obtain ⟨o',ho,he⟩:=Option.map_eq_some_iff.1 hn;cases he
    intro a ha;unfold Lb.walk;simp only [ho,ha.wanted (nI hf)];rw [if_pos hw];have:=ha.put hlt (.bool (b == e));rw [← hd] at this;exact ⟨_,fun w'=>by rw [ha.exec hf];exact hr w',hc.out w N H hM aK9 _ this⟩
   | _=>cases hn
 | _=>cases hn
theorem am7 {T:TypeId} {x y:Value} {d:Nat} {b:Bool} (h:WS P n S p=some (b,T,x,y,d)):p.past.here=true:=by
 unfold WS at h;split at h
 ·rename_i ops o ho;cases p with
  | reg ops is k=>cases is<;>first|cases ho|rfl
  | uG ops Hj is A k=>cases is<;>first|cases ho|rfl
  | _=>cases ho
 ·cases h
theorem eql (m:Nat) (hs:List Nat) (d:Nat) (b e:Bool) (T:TypeId) (x y:Value) (St:Sl) (U:List (Nat × Array Value)) (he:∀ w,(Op.equal T x y).run P w= .ok e w) (hc:G P n R w0 H0 (tr m hs p).2.past ((d,.bool (b == e))::(St++S)) (upd L U))
  (h:Jq P n w0 (tr m hs p).1 S L St (upd L U):=by intro _;kernel_rfl) (hx:WS P n (zJ P n w0 (tr m hs p).1 S L) (tr m hs p).2=some (b,T,x,y,d):=by kernel_rfl):G P n R w0 H0 p S L :=
 goF hs St _ h (ab1 hx he (hc.of (mW h.sub d _) (am7 hx)))
/-! ### The end -/
def Pos.IX:Pos→Bool
 | .code .ret _=>true
 | _=>false
theorem Da {w:World} {tmps:Array Value} {fn:Func} {p u:Tmp} {ty t:TypeId} {g:Nat} {cs:Array Value} {d:TypeDesc} (h:fn.results=#[.cell p ty,.tmp u])
  (hp:tmps.getD p undef= .pointer (some ⟨g,0,none⟩)) (hg:ah w g cs t) (hu:P.underlying ty=some d)
  (hd:(match d with| .struct _| .array _ _=>true| _=>false)=true) (hi:(P.info? ty).map (·.size)=some cs.size) :
  (results fn tmps).run P w= .ok (.tuple #[.agg cs,tmps.getD u undef]) w:=by
 rw [results_cell_tmp h,hp];simp only [asAddr,Sem.run_pure,Result.andThen_ok];rw [run_loadVar_row w g t ty cs (0,0) d hg hu hd hi];rfl
theorem uw (hp:p.IX=true) (h:∀ w,Mem w0 H0 L w→R .ret S w):G P n R w0 H0 p S L:=⟨fun w N H hM hok=>by
 cases p with
 | code c k =>
  cases c with
  | ret =>
   intro a ha
   have key:∀ k,Cont P n R k .ret S w:=fun k=>by
    induction k with
    | nil=>exact h w hM
    | cons x k ih=>cases x<;>exact ih
   exact wp_ret (vO ha (key k))
  | _=>cases hp
 | _=>cases hp⟩
theorem wF (hs:List Nat) (U:List (Nat × Array Value)) {fn:Func} {E:Ending→World→Prop} {t:Tmp} {v:Value} (hE:∀ w,Mem w0 H0 (upd L U) w→E (.returned v) w) (hr:fn.results=#[.tmp t]:=by rfl)
  (h:OL P n w0 (tr 4000 hs p).1 S L (upd L U):=by intro _;kernel_rfl) (hv:((tr 4000 hs p).2.IX,look (zJ P n w0 (tr 4000 hs p).1 S L) t)=(true,some v):=by kernel_rfl):G P n (Ends P n fn E) w0 H0 p S L:=by
 simp only [Prod.mk.injEq] at hv;exact goR hs _ h (uw hv.1 fun w hM a ha=>⟨v,by rw [results_tmp hr,ha.get t v hv.2],hE w hM⟩)
theorem YG (hs:List Nat) (U:List (Nat × Array Value)) {fn:Func} {E:Ending→World→Prop} {t u:Tmp} {x y:Value} (hE:∀ w,Mem w0 H0 (upd L U) w→E (.returned (.tuple #[x,y])) w) (hr:fn.results=#[.tmp t,.tmp u]:=by rfl)
  (h:OL P n w0 (tr 4000 hs p).1 S L (upd L U):=by intro _;kernel_rfl) (hv:((tr 4000 hs p).2.IX,look (zJ P n w0 (tr 4000 hs p).1 S L) t,look (zJ P n w0 (tr 4000 hs p).1 S L) u)=(true,some x,some y):=by kernel_rfl):G P n (Ends P n fn E) w0 H0 p S L:=by
 simp only [Prod.mk.injEq] at hv;exact goR hs _ h (uw hv.1 fun w hM a ha=>⟨.tuple #[x,y],by rw [results_tmp2 hr,ha.get t x hv.2.1,ha.get u y hv.2.2],hE w hM⟩)
def YF (P:Program) (S:Sl) (L:Mm) (t j:Nat) (ty:TypeId):Option (Option Value × Array Value × Bool × Option Nat):=(L[j]?).map fun x=>(look S t,x.cs,(match P.underlying ty with|some (.struct _)=>true|some (.array _ _)=>true| _=>false),(P.info? ty).map (·.size))
theorem Bv {w:World} {tmps:Array Value} {fn:Func} {p q u:Tmp} {ty Bu t t2:TypeId} {g g2:Nat} {cs cs2:Array Value} {d d2:TypeDesc} (h:fn.results=#[.cell p ty,.cell q Bu,.tmp u])
  (hp:tmps.getD p undef= .pointer (some ⟨g,0,none⟩)) (hg:ah w g cs t) (hu:P.underlying ty=some d) (hd:Rq d=true) (hi:(P.info? ty).map (·.size)=some cs.size)
  (hp2:tmps.getD q undef= .pointer (some ⟨g2,0,none⟩)) (hg2:ah w g2 cs2 t2) (hu2:P.underlying Bu=some d2) (hd2:Rq d2=true) (hi2:(P.info? Bu).map (·.size)=some cs2.size) :
  (results fn tmps).run P w= .ok (.tuple #[.agg cs,.agg cs2,tmps.getD u undef]) w:=by
 have e:(results fn tmps).run P w=((asAddr (tmps.getD p undef)).run P w).andThen fun a w₁=>((loadVar ty a).run P w₁).andThen fun v w₂=>((asAddr (tmps.getD q undef)).run P w₂).andThen fun a' w₃=>((loadVar Bu a').run P w₃).andThen fun v' w₄=>.ok (.tuple #[v,v',tmps.getD u undef]) w₄:=by
  simp only [results,h];simp [Sem.run_bind,Result.andThen]
 rw [e,hp];simp only [asAddr,Sem.run_pure,Result.andThen_ok];rw [run_loadVar_row w g t ty cs (0,0) d hg hu (by cases d<;>exact hd) hi];simp only [Result.andThen_ok];rw [hp2];simp only [Sem.run_pure,Result.andThen_ok];rw [run_loadVar_row w g2 t2 Bu cs2 (0,0) d2 hg2 hu2 (by cases d2<;>exact hd2) hi2];rfl
theorem sI {w:World} (hM:Mem w0 H0 L w) {a:Act} (ha:xS n S a) {t j b:Nat} {ty:TypeId} {cs:Array Value} (hb:blk L j=some b) (hv:YF P S L t j ty=some (some (.pointer (some ⟨b,0,none⟩)),cs,true,some cs.size)) :
  ∃ d T,a.tmps.getD t undef= .pointer (some ⟨b,0,none⟩)∧ah w b cs T∧P.underlying ty=some d∧Rq d=true∧(P.info? ty).map (·.size)=some cs.size:=by
 obtain ⟨x,hx,he⟩:=Option.map_eq_some_iff.1 hv;simp only [Prod.mk.injEq] at he;obtain ⟨e1,rfl,e3,e4⟩:=he;have hb:x.b=b:=by unfold blk at hb;rw [hx] at hb;simpa using hb
 have hX:=hM.all j x hx;rw [hb] at hX;cases hu:P.underlying ty with
 | none=>simp [hu] at e3
 | some d=>exact ⟨d,x.T,ha.get t _ e1,hX,rfl,by rw [hu] at e3;cases d<;>first|rfl|(simp at e3),e4⟩
theorem fV (j b:Nat) (hs:List Nat) (U:List (Nat × Array Value)) {fn:Func} {E:Ending→World→Prop} {t:Tmp} {ty:TypeId} {cs:Array Value} (hE:∀ w,Mem w0 H0 (upd L U) w→E (.returned (.agg cs)) w) (hr:fn.results=#[.cell t ty]:=by rfl)
  (h:OL P n w0 (tr 4000 hs p).1 S L (upd L U):=by intro _;kernel_rfl) (hp:((tr 4000 hs p).2.IX,blk (upd L U) j)=(true,some b):=by kernel_rfl) (hv:YF P (zJ P n w0 (tr 4000 hs p).1 S L) (upd L U) t j ty=some (some (.pointer (some ⟨b,0,none⟩)),cs,true,some cs.size):=by kernel_rfl):G P n (Ends P n fn E) w0 H0 p S L:=by
 simp only [Prod.mk.injEq] at hp;refine goR hs _ h (uw hp.1 fun w hM a ha=>⟨.agg cs,?_,hE w hM⟩);obtain ⟨d,T,a1,a2,a3,a4,a5⟩:=sI hM ha hp.2 hv;exact results_cell_row hr a.tmps w b T cs (0,0) d a1 a2 a3 (by cases d<;>exact a4) a5
theorem dw (j b:Nat) (hs:List Nat) (U:List (Nat × Array Value)) {fn:Func} {E:Ending→World→Prop} {t u:Tmp} {ty:TypeId} {cs:Array Value} {y:Value} (hE:∀ w,Mem w0 H0 (upd L U) w→E (.returned (.tuple #[.agg cs,y])) w) (hr:fn.results=#[.cell t ty,.tmp u]:=by rfl)
  (h:OL P n w0 (tr 4000 hs p).1 S L (upd L U):=by intro _;kernel_rfl) (hp:((tr 4000 hs p).2.IX,blk (upd L U) j,look (zJ P n w0 (tr 4000 hs p).1 S L) u)=(true,some b,some y):=by kernel_rfl) (hv:YF P (zJ P n w0 (tr 4000 hs p).1 S L) (upd L U) t j ty=some (some (.pointer (some ⟨b,0,none⟩)),cs,true,some cs.size):=by kernel_rfl):G P n (Ends P n fn E) w0 H0 p S L:=by
 simp only [Prod.mk.injEq] at hp;refine goR hs _ h (uw hp.1 fun w hM a ha=>⟨.tuple #[.agg cs,y],?_,hE w hM⟩);obtain ⟨d,T,a1,a2,a3,a4,a5⟩:=sI hM ha hp.2.1 hv;rw [Da hr a1 a2 a3 (by cases d<;>exact a4) a5,ha.get u y hp.2.2]
theorem PI (j b j2 b2:Nat) (hs:List Nat) (U:List (Nat × Array Value)) {fn:Func} {E:Ending→World→Prop} {t t2 u:Tmp} {ty Bu:TypeId} {cs cs2:Array Value} {y:Value} (hE:∀ w,Mem w0 H0 (upd L U) w→E (.returned (.tuple #[.agg cs,.agg cs2,y])) w) (hr:fn.results=#[.cell t ty,.cell t2 Bu,.tmp u]:=by rfl)
  (h:OL P n w0 (tr 4000 hs p).1 S L (upd L U):=by intro _;kernel_rfl) (hp:((tr 4000 hs p).2.IX,blk (upd L U) j,blk (upd L U) j2,look (zJ P n w0 (tr 4000 hs p).1 S L) u)=(true,some b,some b2,some y):=by kernel_rfl) (hv:YF P (zJ P n w0 (tr 4000 hs p).1 S L) (upd L U) t j ty=some (some (.pointer (some ⟨b,0,none⟩)),cs,true,some cs.size):=by kernel_rfl) (hv2:YF P (zJ P n w0 (tr 4000 hs p).1 S L) (upd L U) t2 j2 Bu=some (some (.pointer (some ⟨b2,0,none⟩)),cs2,true,some cs2.size):=by kernel_rfl):G P n (Ends P n fn E) w0 H0 p S L:=by
 simp only [Prod.mk.injEq] at hp;refine goR hs _ h (uw hp.1 fun w hM a ha=>⟨.tuple #[.agg cs,.agg cs2,y],?_,hE w hM⟩);obtain ⟨d,T,a1,a2,a3,a4,a5⟩:=sI hM ha hp.2.1 hv;obtain ⟨d2,T2,c1,c2,c3,c4,c5⟩:=sI hM ha hp.2.2.1 hv2;rw [Bv hr a1 a2 a3 a4 a5 c1 c2 c3 c4 c5,ha.get u y hp.2.2.2]
theorem door {f:FuncId} {fn:Func} {c:Code} {l:List Value} {w:World} {E:Ending→World→Prop} (hf:P.funcs[f]? =some fn) (hb:fn.body=some c) (hM:Mem w H0 L w) (h:G P fn.ntmps (Ends P fn.ntmps fn E) w H0 (.code c []) (start l 0) L)
  (hl:Nat.ble l.length fn.ntmps=true:=by kernel_rfl):Calls P f l.toArray w E:=enter hf hb rfl hl ⟨h.out w 0 [] hM trivial⟩
theorem Mem.ro {w:World} {b:Nat} {cs:Array Value} {T:TypeId} (hX:ah w b cs T) (h:Mem w0 H0 L w) (hn:∀ x∈L,x.o=true→x.b≠b:=by simp):Mem w0 H0 (⟨b,cs,T,false⟩::L) w:=by
 have key:∀ (j:Nat) (x:Bx),((⟨b,cs,T,false⟩:Bx)::L)[j]? =some x→(j=0∧x=⟨b,cs,T,false⟩)∨∃ i,j=i+1∧L[i]? =some x:=fun j x h=>by
  cases j with
  | zero=>simp at h;exact .inl ⟨rfl,h.symm⟩
  | succ j=>simp at h;exact .inr ⟨j,rfl,h⟩
 refine ⟨fun j x hx=>?_,fun i j x y hx hy hne ho=>?_,fun j x hx ho=>?_,h.tK⟩
 ·rcases key j x hx with ⟨-, rfl⟩|⟨i, -, hi⟩
  ·exact hX
  ·exact h.all i x hi
 ·rcases key i x hx with ⟨-, rfl⟩|⟨i',rfl,hi⟩
  ·cases ho
  ·rcases key j y hy with ⟨-, rfl⟩|⟨j',rfl,hj⟩
   ·exact hn x (List.mem_of_getElem? hi) ho
   ·exact h.dis i' j' x y hi hj zo ho
 ·rcases key j x hx with ⟨-, rfl⟩|⟨i, -, hi⟩
  ·cases ho
  ·exact h.own i x hi ho
theorem Mem.one {w:World} {b:Nat} {cs:Array Value} {T:TypeId} (hX:ah w b cs T):Mem w [b] [⟨b,cs,T,true⟩] w:=by
 have key:∀ (j:Nat) (x:Bx),[(⟨b,cs,T,true⟩:Bx)][j]? =some x→j=0∧x=⟨b,cs,T,true⟩:=fun j x h=>by
  cases j with
  | zero=>simp at h;exact ⟨rfl,h.symm⟩
  | succ j=>simp at h
 refine ⟨fun j x h=>?_,fun i j x y hi hj hne _=>?_,fun j x h _=>?_,mh.refl w⟩
 ·obtain ⟨-, rfl⟩:=key j x h;exact hX
 ·exact absurd ((key i x hi).1.trans (key j y hj).1.symm) hne
 ·obtain ⟨-, rfl⟩:=key j x h;simp
theorem Mem.box {w:World} {b:Nat} {cs:Array Value} {T:TypeId} (h:Mem w0 H0 L w) (j:Nat) (hj:(L[j]?).map (fun x=>(x.b,x.cs,x.T))=some (b,cs,T):=by kernel_rfl):ah w b cs T:=by
 obtain ⟨x,hx,he⟩:=Option.map_eq_some_iff.1 hj;simp only [Prod.mk.injEq] at he;obtain ⟨rfl,rfl,rfl⟩:=he;exact h.all j x hx
end
end Go.Fx
namespace Go.Mem
open Go Go.RowKit Go.SW Go.Num
def Nm (w:World) (v:Value) (n:Nat):Prop:=Row w 3 v (ints (bW 10000 n))
theorem Nm.later {w w':World} {v:Value} {n:Nat} (h:Nm w v n) (hb:Below w.heap.size w w'):Nm w' v n:=Row.later h hb
theorem Nm.setOther {w:World} {v:Value} {n:Nat} (h:Nm w v n) {b:Nat} {cs:Array Value} {T':TypeId} (hx:ah w b cs T') (hT:3≠T') (o:Nat) (u:Value):Nm (w.setCell ⟨b,o,none⟩ u) v n:=Row.setOther h hx hT o u
def Gs (w:World) (v:Value) (l:List Nat):Prop:=Row w 3 v (ints l)
theorem Gs.later {w w':World} {v:Value} {l:List Nat} (h:Gs w v l) (hb:Below w.heap.size w w'):Gs w' v l:=Row.later h hb
theorem Gs.cases {w:World} {v:Value} {l:List Nat} (h:Gs w v l) :
  (v= .slice none 0 0∧l=[])∨∃ b off cap,v= .slice (some ⟨b,off,none⟩) l.length cap∧l.length≤cap∧cap≤9223372036854775807∧b<w.heap.size∧(∃ arr,ah w b arr 3)∧∀ i,i<l.length→w.cell? ⟨b,off+i,none⟩=some (.int .i64 (l.getD i 0:Nat)):=by
 rcases Row.cases h with ⟨h1,h2⟩|⟨b,off,cap,arr,h1,h2,h3,h4,h5⟩
 ·refine .inl ⟨h1,?_⟩;unfold ints at h2
  simpa using h2
 ·refine .inr ⟨b,off,cap,by rw [h1,aV],by rwa [aV] at h2,h3,h4.lt,⟨arr,h4⟩,fun i hi=>?_⟩;rw [h4.cell,h5 i (by rw [aV];exact hi)];simp [ints,hi]
theorem Gs.read {w:World} {v:Value} {l:List Nat} (h:Gs w v l) :
  ∃ a cap,v= .slice a l.length cap∧l.length≤cap∧cap≤9223372036854775807∧∀ k,k<l.length→∃ b off,a=some ⟨b,off,none⟩∧b<w.heap.size∧w.cell? ⟨b,off+k,none⟩=some (.int .i64 (l.getD k 0:Nat)):=by
 rcases Gs.cases h with ⟨rfl,rfl⟩|⟨b,off,cap,rfl,h1,h2,h3,_,h5⟩
 ·exact ⟨none,0,rfl,by simp,by simp,fun k hk=>by cases hk⟩
 ·exact ⟨some ⟨b,off,none⟩,cap,rfl,h1,h2,fun k hk=>⟨b,off,rfl,h3,h5 k hk⟩⟩
theorem Nm.YZ {w:World} {v:Value} {l:List Nat} (h:Gs w v l) (hd:dS 10000 l) (ht:Top l):Nm w v (val 10000 l):=by
 unfold Nm;rw [Fv zo hd ht];exact h
theorem Nm.gs {w:World} {v:Value} {n:Nat} (h:Nm w v n):Gs w v (bW 10000 n):=h
theorem Gs.fI {w:World} {base k:Nat} {v:Value} {s:List Nat} (h:w.ownsRow base 3 1 v k (ints s)):Gs w v s:=Row.fI h
theorem Ad (n:Nat):(madeCells #[Value.int .i64 0] n).toList=ints (List.replicate n 0):=by
 rw [toList_madeCells_one];simp [ints]
theorem ints_set (l:List Nat) (k d:Nat):(ints l).set k (.int .i64 (d:Int))=ints (l.set k d):=by simp [ints,List.map_set]
theorem qY {l:List Nat} {k:Nat} (h:k<l.length):(ints l)[k]? =some (.int .i64 (l.getD k 0:Nat)):=by simp [ints,h]
theorem Gs.xC {w:World} {g n m:Nat} {l post:List Nat} (h:ah w g (ints (l++post)).toArray 3) (hl:l.length=n) (hm:n≤m) (hm2:m≤9223372036854775807):Gs w (.slice (some ⟨g,0,none⟩) n m) l:=by
 refine Row.mk (by rw [aV];omega) (by rw [aV];omega) hm2 h fun i hi=>?_;rw [aV] at hi;rw [Nat.zero_add,List.getElem?_toArray];simp [ints,hi,List.getElem?_append_left]
theorem Nm.lit {w:World} {d:Nat} (h0:0<d) (h1:d<10000):Nm (w.alloc (.cells #[.int .i64 d] 3 (0,0))) (.slice (some ⟨w.heap.size,0,none⟩) 1 1) d:=by
 have e:bW 10000 d=[d]:=by rw [jF zo h0,Nat.mod_eq_of_lt h1,Nat.div_eq_of_lt h1,fM]
 unfold Nm;rw [e];refine Row.mk rfl (by simp [ints]) zo (ah.new _ _ _) fun i hi=>?_
 match i,hi with
 | 0,_=>rfl
theorem Nm.zero (w:World):Nm w (.slice none 0 0) 0:=by unfold Nm;rw [fM];exact Row.nil _ _
theorem ints_oneCell (l:List Nat):∀ v∈ints l,v.oneCell'=true:=fun v hv=>by
 obtain ⟨d,_,rfl⟩:=List.mem_map.1 hv;rfl
theorem Gs.src {w:World} {a:Option Addr} {l:List Nat} (h:∀ k,k<l.length→∃ b off,a=some ⟨b,off,none⟩∧b<w.heap.size∧w.cell? ⟨b,off+k,none⟩=some (.int .i64 (l.getD k 0:Nat))) (hl:0<(ints l).length) :
  ∃ ad,a=some ad∧∀ j v,(ints l)[j]? =some v→w.cell? (ad.add j)=some v:=by
 rw [aV] at hl;obtain ⟨b,off,rfl,_,_⟩:=h 0 hl;refine ⟨_,rfl,fun j v hv=>?_⟩
 have hj:j<l.length:=by
  have:=(List.getElem?_eq_some_iff.1 hv).1;rwa [aV] at this
 obtain ⟨b',off',h1,_,h3⟩:=h j hj;simp only [Option.some.injEq,Addr.mk.injEq,and_true] at h1;obtain ⟨rfl,rfl⟩:=h1;rw [qY hj] at hv;rw [Addr.add_lit,h3,← hv]
theorem Nm.slice {w:World} {v:Value} {n:Nat} (h:Nm w v n):∃ pa l ca,v= .slice pa l ca:=by
 obtain ⟨a,cap,h1, -⟩:=h;exact ⟨_,_,_,h1⟩
def Pl (w:World) (v:Value) (z:Int):Prop:=∃ pa l ca,v= .agg #[.bool (decide (z<0)),.slice pa l ca]∧Nm w (.slice pa l ca) z.natAbs
theorem Pl.later {w w':World} {v:Value} {z:Int} (h:Pl w v z) (hb:Below w.heap.size w w'):Pl w' v z:=by
 obtain ⟨pa,l,ca,h1,h2⟩:=h;exact ⟨pa,l,ca,h1,h2.later hb⟩
theorem Pl.mk {w:World} {m:Value} {z:Int} {b:Bool} {n:Nat} (h:Nm w m n) (hn:n=z.natAbs) (hb:b=decide (z<0)):Pl w (.agg #[.bool b,m]) z:=by
 obtain ⟨pa,l,ca,rfl⟩:=h.slice;exact ⟨pa,l,ca,by rw [hb],hn ▸ h⟩
theorem Pl.cast {w:World} {v:Value} {y z:Int} (h:Pl w v y) (e:y=z):Pl w v z:=e ▸ h
theorem Nm.alloc {w:World} {v:Value} {n:Nat} (h:Nm w v n) (o:Obj):Nm (w.alloc o) v n:=h.later ((Below.refl _ _).alloc (Nat.le_refl _) _)
theorem Gs.alloc {w:World} {v:Value} {n:List Nat} (h:Gs w v n) (o:Obj):Gs (w.alloc o) v n:=h.later ((Below.refl _ _).alloc (Nat.le_refl _) _)
theorem Pl.agg {w:World} {v:Value} {z:Int} (h:Pl w v z):∃ b pa l ca,v= .agg #[.bool b,.slice pa l ca]:=by
 obtain ⟨pa,l,ca,h1, -⟩:=h;exact ⟨_,_,_,_,h1⟩
theorem Pl.setOther {w:World} {v:Value} {z:Int} (h:Pl w v z) {b:Nat} {cs:Array Value} {T':TypeId} (hx:ah w b cs T') (hT:3≠T') (o:Nat) (u:Value):Pl (w.setCell ⟨b,o,none⟩ u) v z:=by
 obtain ⟨pa,l,ca,h1,h2⟩:=h;exact ⟨pa,l,ca,h1,h2.setOther hx hT o u⟩
theorem Pl.set2 {w:World} {v:Value} {z:Int} (h:Pl w v z) {b:Nat} {cs:Array Value} {T':TypeId} (hx:ah w b cs T') (hT:3≠T') (o1 o2:Nat) (u1 u2:Value):Pl ((w.setCell ⟨b,o1,none⟩ u1).setCell ⟨b,o2,none⟩ u2) v z :=
 (h.setOther hx hT o1 u1).setOther (hx.set o1 u1) hT o2 u2
theorem Pl.nm {w:World} {b:Bool} {pa:Option Addr} {l ca:Nat} {z:Int} (h:Pl w (.agg #[.bool b,.slice pa l ca]) z):Nm w (.slice pa l ca) z.natAbs∧b=decide (z<0):=by
 obtain ⟨pa',l',Ph,e,h2⟩:=h;simp only [Value.agg.injEq,Array.mk.injEq,List.cons.injEq,Value.bool.injEq,and_true] at e;obtain ⟨e1,e2⟩:=e;rw [e2];exact ⟨h2,e1⟩
theorem Yy (z:Int):gT z.natAbs (!decide (z<0))= -z:=Tp z
theorem YA (z:Int):gT z.natAbs (decide (z<0))=z:=by
 unfold gT
 by_cases h:z<0<;>simp [h]<;>omega
theorem YB (n:Nat) (b:Bool):(b&&decide (0<n))=decide (gT n b<0):=by
 rw [← Tq,Bool.eq_iff_iff];simp
 omega
theorem Nm.read {w:World} {v:Value} {n:Nat} (h:Nm w v n):∃ a cap,v= .slice a (sz 10000 n) cap∧sz 10000 n≤cap∧cap≤9223372036854775807∧∀ k,k<sz 10000 n→∃ b off,a=some ⟨b,off,none⟩∧b<w.heap.size∧w.cell? ⟨b,off+k,none⟩=some (.int .i64 ((bW 10000 n).getD k 0:Nat)):=Gs.read h.gs
theorem Nm.ax0 {w:World} {pa:Option Addr} {l c n:Nat} (h:Nm w (.slice pa l c) n) (hn:0<n):0<l:=by
 obtain ⟨a,cap,e, -⟩:=h.read;simp only [Value.slice.injEq] at e;rw [e.2.1];unfold sz;rw [List.length_pos_iff,Ne,nD zo];omega
theorem Nm.ax1 {w:World} {pa:Option Addr} {l c n:Nat} (h:Nm w (.slice pa l c) n) (hn:n=0):l=0:=by
 obtain ⟨a,cap,e, -⟩:=h.read;simp only [Value.slice.injEq] at e;rw [e.2.1,hn,BU]
end Go.Mem
