/- Lemmas for the proof. No condition. -/
import Derived.Test.YtbngfhgoeoncmaaGreatDoorTB06
set_option linter.unusedVariables false
set_option linter.unusedSimpArgs false
set_option maxRecDepth 100000
set_option maxHeartbeats 16000000
open Bool renaming and_eq_true → aD
open Go.Value renaming bool → aC, pointer → au
open List renaming all_cons → gK, getElem?_append_left → fq, getElem?_append_right → fO, length_cons → aV, range → bI
open List.cons renaming injEq → iM
open Nat renaming add_zero → gL, le_refl → aG, le_trans → ay, lt_of_lt_of_le → aP
namespace Go.Fx
open Go Go.RowKit Go.SW Go.Mem
def QG:TypeDesc→Bool
 | .struct _| .array _ _=>true
 | _=>false
def rdv (P:Program) (T:TypeId) (cs:Array Value) (off:Nat):Option Value:=match P.underlying T with
 | some d=>(match QG d with
  | true=>(match P.info? T with
   | some i=>(match Nat.ble (off+i.size) cs.size with
    | true=>some (.agg (cs.extract off (off+i.size)))
    | false=>none)
   | none=>none)
  | false=>cs[off]?)
 | none=>none
theorem Pf {P:Program} {w:World} {b:Nat} {cs:Array Value} {T0 T:TypeId} {off:Nat} {v:Value} (hX:aA w b cs T0) (h:rdv P T cs off=some v):(loadVar T ⟨b,off,none⟩).run P w= .ok v w:=by
 have hl:∀ (m i:Nat) (acc:Array Value),off+i+m≤cs.size→(loadCellsFrom ⟨b,off,none⟩ i m acc).run P w= .ok (acc++cs.extract (off+i) (off+i+m)) w:=by
  intro m
  induction m with
  | zero=>intro i acc _;simp [loadCellsFrom];omega
  | succ m ih =>
   intro i acc hm;have hadd:(⟨b,off,none⟩:Addr).add i=⟨b,off+i,none⟩:=by unfold Addr.add;simp
   have hc:w.cell? ⟨b,off+i,none⟩=some cs[off+i]:=by rw [hX.cell];simp
   unfold loadCellsFrom;simp only [Sem.run_bind,hadd,run_load,hc];rw [show Result.andThen _ _=(loadCellsFrom ⟨b,off,none⟩ (i+1) m (acc.push cs[off+i])).run P w from rfl,ih (i+1) _ zo]
   congr 1
   apply Array.ext_getElem?
   intro j;simp only [Array.getElem?_append,Array.getElem?_push,Array.size_push,Array.getElem?_extract]
   rcases Nat.lt_trichotomy j acc.size with h1|h1|h1
   ·simp [h1,Nat.lt_succ_of_lt h1,Nat.ne_of_lt h1]
   ·subst h1;simp
    omega
   ·have h2:¬ j<acc.size:=by omega
    have h3:¬ j<acc.size+1:=by omega
    have h4:j≠acc.size:=by omega
    simp only [h2,h3,if_false];have e1:off+(i+1)+(j - (acc.size+1))=off+i+(j - acc.size):=by omega
    rw [e1];have e2:(j - (acc.size+1)<min (off+(i+1)+m) cs.size - (off+(i+1)))↔(j - acc.size<min (off+i+(m+1)) cs.size - (off+i)):=by omega
    simp only [e2]
 unfold rdv at h;cases hu:P.underlying T with
 | none=>rw [hu] at h;cases h
 | some d =>
  rw [hu] at h;cases hd:QG d with
  | true =>
   simp only [hd] at h;cases hi:P.info? T with
   | none=>rw [hi] at h;cases h
   | some i =>
    rw [hi] at h;cases hb:Nat.ble (off+i.size) cs.size with
    | false=>simp only [hb] at h;cases h
    | true =>
     simp only [hb] at h;cases h
     have h1:=hl i.size 0 #[] (by have:=Nat.le_of_ble_eq_true hb;omega);simp only [gL,Array.empty_append] at h1;cases d<;>simp [QG] at hd<;>simp [loadVar,isAgg,underlying,hu,loadCells,sizeOf,typeInfo,hi,h1]
  | false =>
   simp only [hd] at h;have hc:w.cell? ⟨b,off,none⟩=some v:=by rw [hX.cell,h]
   cases d<;>simp [QG] at hd<;>simp [loadVar,isAgg,underlying,hu,run_load,hc]
structure Stored (w w':World) (b:Nat):Prop where
 os:w'.os=w.os
 tape:w'.tape=w.tape
 output:w'.output=w.output
 size:w'.heap.size=w.heap.size
 block:∀ j,j≠b→w'.heap[j]? =w.heap[j]?
theorem Stored.refl (w:World) (b:Nat):Stored w w b:=⟨rfl,rfl,rfl,rfl,fun _ _=>rfl⟩
theorem Stored.set {w w':World} {b:Nat} (h:Stored w w' b) (o:Nat) (u:Value):Stored w (w'.setCell ⟨b,o,none⟩ u) b :=
 ⟨h.os,h.tape,h.output,by simp [World.setCell,h.size],fun j hj=>(Below.heap_setCell w' ⟨b,o,none⟩ u j hj).trans (h.block j hj)⟩
theorem Stored.below {a w w':World} {b:Nat} (h:Stored w w' b) (ha:Below a.heap.size a w) (hb:a.heap.size≤b):Below a.heap.size a w' :=
 ⟨h.os.trans ha.os,h.tape.trans ha.tape,h.output.trans ha.output,by rw [h.size];exact ha.size,fun j hj=>(h.block j zo).trans (ha.block j hj)⟩
theorem Stored.box {w w':World} {b b':Nat} {cs:Array Value} {T:TypeId} (h:Stored w w' b) (hX:aA w b' cs T) (hne:b'≠b):aA w' b' cs T:=(h.block b' hne).trans hX
def putCells (cs:Array Value) (off:Nat):List Value→Array Value
 | []=>cs
 | v::l=>putCells (cs.setIfInBounds off v) (off+1) l
theorem LA {P:Program} {b:Nat} {T0:TypeId}:∀ (vs:List Value) (off i:Nat) (cs:Array Value) (w:World),aA w b cs T0→off+i+vs.length≤cs.size→(vs.all (·.oneCell'))=true →
  ∃ w',(storeCells ⟨b,off,none⟩ vs i).run P w= .ok () w'∧Stored w w' b∧aA w' b (putCells cs (off+i) vs) T0:=by
 intro vs
 induction vs with
 | nil=>intro off i cs w hX _ _;exact ⟨w,by simp [storeCells],Stored.refl w b,hX⟩
 | cons v vs ih =>
  intro off i cs w hX hl h1;simp only [gK,aD] at h1;simp only [aV] at hl;have hadd:(⟨b,off,none⟩:Addr).add i=⟨b,off+i,none⟩:=by unfold Addr.add;simp
  obtain ⟨w',e1,e2,e3⟩:=ih off (i+1) (cs.setIfInBounds (off+i) v) (w.setCell ⟨b,off+i,none⟩ v) (hX.set _ _) (by simp;omega) h1.2;refine ⟨w',?_,⟨e2.os,e2.tape,e2.output,e2.size.trans (by simp [World.setCell]),fun j hj=>(e2.block j hj).trans (Below.heap_setCell w ⟨b,off+i,none⟩ v j hj)⟩,?_⟩
  ·have hcell:w.cell? ⟨b,off+i,none⟩=some cs[off+i]:=by rw [hX.cell];simp
   have hfro:w.frozen? ⟨b,off+i,none⟩=false:=hX.free _
   have hst:(store (⟨b,off+i,none⟩:Addr) v).run P w= .ok () (w.setCell ⟨b,off+i,none⟩ v):=by
    rw [run_store P w _ v _ h1.1,hcell];simp [hfro]
   unfold storeCells;simp only [Sem.run_bind,hadd,hst,Result.andThen_ok,e1]
  ·exact e3
structure qI (H:List Nat) (w w':World):Prop where
 os:w'.os=w.os
 tape:w'.tape=w.tape
 output:w'.output=w.output
 size:w.heap.size≤w'.heap.size
 block:∀ k,k<w.heap.size→k∉H→w'.heap[k]? =w.heap[k]?
theorem qI.refl {H:List Nat} (w:World):qI H w w:=⟨rfl,rfl,rfl,aG _,fun _ _ _=>rfl⟩
theorem qI.trans {H:List Nat} {a b c:World} (h:qI H a b) (k:qI H b c):qI H a c :=
 ⟨k.os.trans h.os,k.tape.trans h.tape,k.output.trans h.output,ay h.size k.size,fun i hi hn=>(k.block i (aP hi h.size) hn).trans (h.block i hi hn)⟩
theorem qI.of {H:List Nat} {a b:World} (h:Below a.heap.size a b):qI H a b:=⟨h.os,h.tape,h.output,h.size,fun i hi _=>h.block i hi⟩
theorem qI.stored {a b:World} {x:Nat} (h:Stored a b x):qI [x] a b:=⟨h.os,h.tape,h.output,Nat.le_of_eq h.size.symm,fun i _ hn=>h.block i (fun e=>hn (by simp [e]))⟩
theorem qI.box {H:List Nat} {w w':World} {b:Nat} {cs:Array Value} {T:TypeId} (h:qI H w w') (hX:aA w b cs T) (hn:b∉H):aA w' b cs T:=(h.block b hX.lt hn).trans hX
theorem qI.ao1 {x:Nat} {w w':World} {b:Nat} {cs:Array Value} {T:TypeId} (h:qI [x] w w') (hX:aA w b cs T) (hn:b≠x):aA w' b cs T:=h.box hX (by simpa using hn)
theorem qI.below {H:List Nat} {a w w':World} (h:qI H w w') (ha:Below a.heap.size a w) (hn:∀ b∈H,a.heap.size≤b):Below a.heap.size a w' :=
 ⟨h.os.trans ha.os,h.tape.trans ha.tape,h.output.trans ha.output,ay ha.size h.size,fun i hi=>(h.block i (aP hi ha.size) (fun hm=>by have:=hn i hm;omega)).trans (ha.block i hi)⟩
theorem lax {H:List Nat} {N:Nat} (hH:∀ h∈H,h<N):Bv.Ug N (qI H):=⟨.refl,.trans,.of,fun h=>h.size,fun h b h1 h2=>h.block b h2 fun hm=>by have:=hH b hm;omega⟩
theorem qI.own {H:List Nat} {a w w':World} {b:Nat} (h:qI H a w) (k:Stored w w' b) (hb:a.heap.size≤b):qI H a w' :=
 ⟨k.os.trans h.os,k.tape.trans h.tape,k.output.trans h.output,by rw [k.size];exact h.size,fun i hi hn=>(k.block i zo).trans (h.block i hi hn)⟩
theorem qI.aj0 {H:List Nat} {a w w':World} {b:Nat} (h:qI H a w) (k:qI [b] w w') (hb:a.heap.size≤b):qI H a w' :=
 ⟨k.os.trans h.os,k.tape.trans h.tape,k.output.trans h.output,ay h.size k.size,fun i hi hn=>(k.block i (aP hi h.size) (by simp;omega)).trans (h.block i hi hn)⟩
/-! ### ao2 -/
structure Bx where
 b:Nat
 cs:Array Value
 T:TypeId
 o:Bool
abbrev Mm:=List Bx
structure Mem (w0:World) (H:List Nat) (L:Mm) (w:World):Prop where
 all:∀ (j:Nat) (x:Bx),L[j]? =some x→aA w x.b x.cs x.T
 Ri:∀ (i j:Nat) (x y:Bx),L[i]? =some x→L[j]? =some y→i≠j→x.o=true→x.b≠y.b
 own:∀ (j:Nat) (x:Bx),L[j]? =some x→x.o=true→x.b∈H∨w0.heap.size≤x.b
 AY:qI H w0 w
def uj:Mm→Nat→Array Value→Mm
 | [],_,_=>[]
 | x::L,0,cs=>⟨x.b,cs,x.T,x.o⟩::L
 | x::L,j+1,cs=>x::uj L j cs
theorem nN (cs:Array Value):∀ (L:Mm) (j i:Nat),(uj L j cs)[i]? =(L[i]?).map fun x=>if i=j then ⟨x.b,cs,x.T,x.o⟩ else x
 | [],_,_=>by simp [uj]
 | x::L,0,0=>by simp [uj]
 | x::L,0,i+1=>by simp [uj]
 | x::L,j+1,0=>by simp [uj]
 | x::L,j+1,i+1=>by simp [uj,nN cs L j i]
def upd:Mm→List (Nat × Array Value)→Mm
 | L,[]=>L
 | L,u::U=>upd (uj L u.1 u.2) U
section
variable {w0:World} {H:List Nat} {L:Mm} {w w':World}
theorem Mem.later (h:Mem w0 H L w) (hb:Below w.heap.size w w'):Mem w0 H L w':=⟨fun j x hx=>(h.all j x hx).later hb,h.Ri,h.own,h.AY.trans (.of hb)⟩
theorem Mem.set (h:Mem w0 H L w) {j:Nat} {x:Bx} (hj:L[j]? =some x) (ho:x.o=true) (hw:qI [x.b] w w') {cs:Array Value} (hX:aA w' x.b cs x.T):Mem w0 H (uj L j cs) w':=by
 refine ⟨fun i y hy=>?_,fun i k y z hy hz hne Mw=>?_,fun i y hy Mw=>?_,?_⟩
 ·rw [nN] at hy;cases hi:L[i]? with
  | none=>rw [hi] at hy;cases hy
  | some u =>
   rw [hi] at hy;simp only [Option.map_some,Option.some.injEq] at hy
   by_cases hij:i=j
   ·rw [if_pos hij] at hy;rw [hij,hj] at hi;cases hi
    subst hy;exact hX
   ·rw [if_neg hij] at hy;subst hy;exact hw.ao1 (h.all i u hi) fun e=>h.Ri j i x u hj hi (fun e=>hij e.symm) ho e.symm
 ·rw [nN] at hy hz;cases hi:L[i]? with
  | none=>rw [hi] at hy;cases hy
  | some u =>
   cases hk:L[k]? with
   | none=>rw [hk] at hz;cases hz
   | some v =>
    rw [hi] at hy;rw [hk] at hz;simp only [Option.map_some,Option.some.injEq] at hy hz;have e1:y.b=u.b:=by subst hy;split<;>rfl
    have e2:z.b=v.b:=by subst hz;split<;>rfl
    have e3:y.o=u.o:=by subst hy;split<;>rfl
    rw [e1,e2];exact h.Ri i k u v hi hk hne (by rw [← e3];exact Mw)
 ·rw [nN] at hy;cases hi:L[i]? with
  | none=>rw [hi] at hy;cases hy
  | some u =>
   rw [hi] at hy;simp only [Option.map_some,Option.some.injEq] at hy;have e1:y.b=u.b:=by subst hy;split<;>rfl
   have e2:y.o=u.o:=by subst hy;split<;>rfl
   rw [e1];exact h.own i u hi (by rw [← e2];exact Mw)
 ·rcases h.own j x hj ho with hm|hm
  ·exact h.AY.trans ⟨hw.os,hw.tape,hw.output,hw.size,fun i hi hn=>hw.block i hi (by simp;intro e;exact hn (e ▸ hm))⟩
  ·exact h.AY.aj0 hw hm
theorem Mem.push (h:Mem w0 H L w) {b:Nat} {cs:Array Value} {T:TypeId} (hb:Below w.heap.size w w') (h1:∀ (j:Nat) (x:Bx),L[j]? =some x→x.b≠b) (h2:w0.heap.size≤b) (hX:aA w' b cs T):Mem w0 H (L++[⟨b,cs,T,true⟩]) w':=by
 have key:∀ i (y:Bx),(L++[(⟨b,cs,T,true⟩:Bx)])[i]? =some y→L[i]? =some y∨(i=L.length∧y=⟨b,cs,T,true⟩):=fun i y hy=>by
  rcases Nat.lt_trichotomy i L.length with hi|hi|hi
  ·rw [fq hi] at hy;exact .inl hy
  ·subst hi;simp at hy;exact .inr ⟨rfl,hy.symm⟩
  ·rw [fO zo,List.getElem?_eq_none (by simp;omega)] at hy;cases hy
 have hm:=h.later hb;refine ⟨fun i y hy=>?_,fun i k y z hy hz hne Mw=>?_,fun i y hy Mw=>?_,hm.AY⟩
 ·rcases key i y hy with hy|⟨-, rfl⟩
  ·exact hm.all i y hy
  ·exact hX
 ·rcases key i y hy with hy|⟨hi,rfl⟩<;>rcases key k z hz with hz|⟨hk,rfl⟩
  ·exact h.Ri i k y z hy hz hne Mw
  ·exact h1 i y hy
  ·exact fun e=>h1 k z hz e.symm
  ·omega
 ·rcases key i y hy with hy|⟨-, rfl⟩
  ·exact h.own i y hy Mw
  ·exact .inr h2
theorem Mem.below (h:Mem w0 [] L w):Below w0.heap.size w0 w:=⟨h.AY.os,h.AY.tape,h.AY.output,h.AY.size,fun i hi=>h.AY.block i hi zi⟩
theorem Mem.nil (w:World) (H:List Nat):Mem w H [] w:=⟨fun j x h=>by simp at h,fun i j x y h=>by simp at h,fun j x h=>by simp at h,qI.refl w⟩
end
/-! ### What is done -/
inductive Do
 | op (ops:Array Oper) (o:Oper)
 | no (ops:Array Oper) (o:Oper)
 | ld (ops:Array Oper) (o:Oper) (j:Nat)
 | st (ops:Array Oper) (o:Oper) (j:Nat)
 | br (x:Operand) (b:Bool)
structure Ex where
 S:Sl
 L:Mm
 rs:List (Sem Next × Value)
 us:List Nat
 vs:List Nat
def aj2:Op→Bool
 | .select _ _=>false
 | _=>true
def fit (ops:Array Oper) (S:Sl) (o:Oper):Bool:=gk ops S o&&(aj2 o.op&&o.op.operands.toList.all (known S))
theorem sK.exec {n:Nat} {S:Sl} {a:Act} (h:sK n S a) {ops:Array Oper} {o:Oper} (hf:fit ops S o=true):execOp a.eval o=execOp (ev S) o:=by
 unfold fit at hf;simp only [aD] at hf;refine execOp_congr o (fun cs b e=>?_) fun x hx=>h.eval ?_
 ·rw [e] at hf;cases hf.2.1
 ·exact List.all_eq_true.1 hf.2.2 x (by simpa using hx)
def rF (P:Program) (n:Nat) (w:World) (S:Sl) (L:Mm):Do→Option Ex
 | .op ops o=>(match fit ops S o with
  | true=>(match Region.wanted o (yl ops S) with
   | true=>(match (execOp (ev S) o).run P w with
    | .ok (.value v) _=>(nA n S o.dst v).map fun S'=>⟨S',L,[(execOp (ev S) o,v)],[],[]⟩
    | _=>none)
   | false=>(nA n S o.dst undef).map fun S'=>⟨S',L,[],[],[]⟩)
  | false=>none)
 | .no ops o=>(match gk ops S o,Region.wanted o (yl ops S) with
  | true,false=>(nA n S o.dst undef).map fun S'=>⟨S',L,[],[],[]⟩
  | _,_=>none)
 | .ld ops o j=>(match fit ops S o,Region.wanted o (yl ops S),o.op with
  | true,true,.load T x=>(match ev S x,L[j]? with
   | au (some ⟨b,off,none⟩),some y=>(match rdv P T y.cs off with
    | some v=>(nA n S o.dst v).map fun S'=>⟨S',L,[],[b],[y.b]⟩
    | none=>none)
   | _,_=>none)
  | _,_,_=>none)
 | .st ops o j=>(match fit ops S o,Region.wanted o (yl ops S),o.dst,o.op with
  | true,true,none,.store T x y=>(match ev S x,L[j]?, P.info? T with
   | au (some ⟨b,off,none⟩),some z,some f=>(match z.o,Nat.beq (ev S y).cells.size f.size,Nat.ble (off+f.size) z.cs.size,(ev S y).cells.toList.all (·.oneCell') with
    | true,true,true,true=>some ⟨S,uj L j (putCells z.cs off (ev S y).cells.toList),[],[b],[z.b]⟩
    | _,_,_,_=>none)
   | _,_,_=>none)
  | _,_,_,_=>none)
 | .br x b=>(match known S x,ev S x with
  | true,aC c=>(match c == b with
   | true=>some ⟨S,L,[],[],[]⟩
   | false=>none)
  | _,_=>none)
def exec (P:Program) (n:Nat) (w:World):List Do→Sl→Mm→Option Ex
 | [],S,L=>some ⟨S,L,[],[],[]⟩
 | d::ds,S,L=>match rF P n w S L d with
  | some e=>(match exec P n w ds e.S e.L with
   | some r=>some ⟨r.S,r.L,e.rs++r.rs,e.us++r.us,e.vs++r.vs⟩
   | none=>none)
  | none=>none
def Bears (P:Program) (rs:List (Sem Next × Value)):Prop:=∀ w,rs.map (fun p=>p.1.run P w)=rs.map fun p=>.ok (.value p.2) w
theorem Bears.left {P:Program} {a b:List (Sem Next × Value)} (h:Bears P (a++b)):Bears P a:=fun w=>(List.append_inj (by simpa using h w) zi).1
theorem Bears.right {P:Program} {a b:List (Sem Next × Value)} (h:Bears P (a++b)):Bears P b:=fun w=>(List.append_inj (by simpa using h w) zi).2
theorem Bears.one {P:Program} {x:Sem Next} {v:Value} (h:Bears P [(x,v)]) (w:World):x.run P w= .ok (.value v) w:=by simpa using h w
/-! ### Where the walk stands -/
inductive Pos
 | code (c:Code) (k:List Kt)
 | nx (e:Exit) (k:List Kt)
 | reg (ops:Array Oper) (is:List Nat) (k:List Kt)
 | rZ (ops:Array Oper) (Hj:List Nat) (is:List (K × Nat)) (A:List Nat) (k:List Kt)
def cls:Op→Nat
 | .load _ _=>1
 | .store _ _ _=>2
 | .alloc _| .box _ _| .buildSlice _ _ _| .makeSlice _ _ _=>3
 | .call c=>(match c.callee with
  | .builtin _=>0
  | _=>3)
 | _=>0
def zL:List Nat→Pos→Option (Option Do × List Nat × Pos)
 | hs,.code c k=>(match c with
  | .seq a b=>some (none,hs,.code a (.seq b::k))
  | .block id c=>some (none,hs,.code c (.block id::k))
  | .loop c=>some (none,hs,.code c (.again c 255::k))
  | .skip=>some (none,hs,.nx .normal k)
  | .exit id=>some (none,hs,.nx (.exit id) k)
  | .region _ ops false=>some (none,hs,.reg ops (bI ops.size) k)
  | .cond x c1 c2=>(match hs with
   | 1::hs=>some (some (.br x true),hs,.code c1 k)
   | 2::hs=>some (some (.br x false),hs,.code c2 k)
   | _=>none)
  | _=>none)
 | hs,.nx e k=>(match e,k with
  | .normal,.seq c::k=>some (none,hs,.code c k)
  | .normal,.block _::k=>some (none,hs,.nx .normal k)
  | .normal,.again c (m+1)::k=>some (none,hs,.code c (.again c m::k))
  | .exit id,.seq _::k=>some (none,hs,.nx (.exit id) k)
  | .exit id,.again _ _::k=>some (none,hs,.nx (.exit id) k)
  | .exit id,.block id'::k=>(match Nat.beq id id' with
   | true=>some (none,hs,.nx .normal k)
   | false=>some (none,hs,.nx (.exit id) k))
  | _,_=>none)
 | hs,.reg ops is k=>(match is with
  | []=>some (none,hs,.nx .normal k)
  | i::is=>(match ops[i]? with
   | none=>none
   | some o=>(match cls o.op,hs with
    | 0,hs=>some (some (.op ops o),hs,.reg ops is k)
    | _,0::hs=>some (some (.no ops o),hs,.reg ops is k)
    | 1,(j+3)::hs=>some (some (.ld ops o j),hs,.reg ops is k)
    | 2,(j+3)::hs=>some (some (.st ops o j),hs,.reg ops is k)
    | _,_=>none)))
 | hs,.rZ ops Hj is A k=>(match is with
  | []=>some (none,hs,.nx .normal k)
  | (kd,i)::is=>(match ops[i]? with
   | none=>none
   | some o=>(match kd,hs with
    | .pure,hs=>some (some (.op ops o),hs,.rZ ops Hj is A k)
    | .read,0::hs=>some (some (.no ops o),hs,.rZ ops Hj is A k)
    | .read,(j+3)::hs=>(match Hj.contains j with
     | false=>some (some (.ld ops o j),hs,.rZ ops Hj is A k)
     | true=>none)
    | .ext,0::hs=>some (some (.no ops o),hs,.rZ ops Hj is A k)
    | .ext,1::hs=>some (some (.op ops o),hs,.rZ ops Hj is A k)
    | .ext,(j+3)::hs=>(match Hj.contains j with
     | true=>some (some (.st ops o j),hs,.rZ ops Hj is A k)
     | false=>none)
    | .fin,hs=>some (none,hs,.reg ops (i::is.map (·.2)) k)
    | _,_=>none)))
def tr:Nat→List Nat→Pos→List Do × Pos
 | 0,_,p=>([],p)
 | m+1,hs,p=>match zL hs p with
  | none=>([],p)
  | some (none,hs',p')=>tr m hs' p'
  | some (some d,hs',p')=>(d::(tr m hs' p').1,(tr m hs' p').2)
end Go.Fx
namespace Go.Fx
open Go Go.RowKit Go.SW Go.Mem
section
variable (P:Program) (n:Nat) (R:Post)
def W (N:Nat) (H:List Nat):Pos→Sl→World→Prop
 | .code c k,S,w=>∀ a,sK n S a→c.wp P (lift n (Cont P n R k)) a w
 | .nx e k,S,w=>Cont P n R k e S w
 | .reg ops is k,S,w=>∀ a,sK n S a→wpOps P ops (lift n (Cont P n R k)) is a w
 | .rZ ops _ is A k,S,w=>∀ a,sK n S a→Bv.walk (qI H) P ops (lift n (Cont P n R k)) N is A a w
end
def blk (L:Mm) (j:Nat):Option Nat:=(L[j]?).map (·.b)
theorem Gx {L:Mm} {j:Nat} {cs:Array Value}:blk (uj L j cs)=blk L:=by
 funext i
 unfold blk;rw [nN];cases L[i]? with
 | none=>rfl
 | some x=>simp;split<;>rfl
def IY:K→Bool
 | .alloc _ _=>true
 | _=>false
def wrt (L:Mm) (j:Nat):Bool:=match L[j]? with
 | some x=>x.o
 | none=>false
theorem Ep {L:Mm} {j:Nat} {cs:Array Value}:wrt (uj L j cs)=wrt L:=by
 funext i
 unfold wrt;rw [nN];cases L[i]? with
 | none=>rfl
 | some x=>simp;split<;>rfl
def ok (w0:World) (N:Nat) (H:List Nat):Pos→Mm→Prop
 | .rZ _ Hj is A _,L=>(is.any (fun x=>IY x.1)=true→w0.heap.size≤N)∧(is.any (fun x=>IY x.1)=true→∀ (j:Nat) (x:Bx),L[j]? =some x→x.b<N∨x.b∈A)∧(∀ h∈H,h<N)∧H=Hj.filterMap (blk L)∧∀ j∈Hj,wrt L j=true
 | _,_=>True
structure G (P:Program) (n:Nat) (R:Post) (w0:World) (H0:List Nat) (p:Pos) (S:Sl) (L:Mm):Prop where
 out:∀ w N H,Mem w0 H0 L w→ok w0 N H p L→W P n R N H p S w
section
variable {P:Program} {n:Nat} {R:Post} {w0:World} {H0:List Nat} {S S':Sl} {L L':Mm}
theorem CU {ops:Array Oper} {o:Oper} {a:Act} {w:World} {v:Value} (ha:sK n S a) (hf:fit ops S o=true) (hr:(execOp (ev S) o).run P w= .ok (.value v) w) {K:Act→World→Prop} {Q:Exit→Act→World→Prop} (hK:K (a.put o.dst v) w):o.wp P a w K Q:=by
 unfold Oper.wp;rw [ha.exec hf,hr];exact hK
theorem nQ {ops:Array Oper} {o:Oper} (hf:fit ops S o=true):gk ops S o=true:=by
 unfold fit at hf;simp only [aD] at hf;exact hf.1
theorem Qm {ops:Array Oper} {o:Oper} {w:World} {e:Ex} (h:rF P n w S L (.op ops o)=some e) (hb:Bears P e.rs) :
  fit ops S o=true∧e.L=L∧((∃ v,Region.wanted o (yl ops S)=true∧(∀ w,(execOp (ev S) o).run P w= .ok (.value v) w)∧nA n S o.dst v=some e.S)∨(Region.wanted o (yl ops S)=false∧nA n S o.dst undef=some e.S)):=by
 rw [rF] at h;split at h
 ·rename_i hf;split at h
  ·rename_i hw;split at h
   ·rename_i v w1 hr;obtain ⟨S1,h1,h2⟩:=Option.map_eq_some_iff.1 h;subst h2;exact ⟨hf,rfl,.inl ⟨v,hw,hb.one,h1⟩⟩
   ·cases h
  ·rename_i hw;obtain ⟨S1,h1,h2⟩:=Option.map_eq_some_iff.1 h;subst h2;exact ⟨hf,rfl,.inr ⟨hw,h1⟩⟩
 ·cases h
theorem Qn {ops:Array Oper} {o:Oper} {w:World} {e:Ex} (h:rF P n w S L (.no ops o)=some e) :
  gk ops S o=true∧e.L=L∧Region.wanted o (yl ops S)=false∧nA n S o.dst undef=some e.S:=by
 rw [rF] at h;split at h
 ·rename_i hf hw;obtain ⟨S1,h1,h2⟩:=Option.map_eq_some_iff.1 h;subst h2;exact ⟨hf,rfl,hw,h1⟩
 ·cases h
theorem U4 {ops:Array Oper} {o:Oper} {j:Nat} {w:World} {e:Ex} (h:rF P n w S L (.ld ops o j)=some e) (hb:e.us=e.vs) :
  fit ops S o=true∧e.L=L∧Region.wanted o (yl ops S)=true∧∃ y v,L[j]? =some y∧nA n S o.dst v=some e.S∧∀ w,aA w y.b y.cs y.T→(execOp (ev S) o).run P w= .ok (.value v) w:=by
 rw [rF] at h;split at h
 ·rename_i T x hf hw hop;split at h
  ·rename_i b off y hx hy;split at h
   ·rename_i v hv;obtain ⟨S1,h1,h2⟩:=Option.map_eq_some_iff.1 h;subst h2;simp only [iM,and_true] at hb;refine ⟨hf,rfl,hw,y,v,hy,h1,fun w hX=>?_⟩;rw [← hb] at hX;simp only [execOp,hop,hx,Instr.loadAt,Instr.sureAddr,Sem.run_bind,Sem.run_pure,Result.andThen_ok,Pf hX hv]
   ·cases h
  ·cases h
 ·cases h
theorem U3 {ops:Array Oper} {o:Oper} {j:Nat} {w:World} {e:Ex} (h:rF P n w S L (.st ops o j)=some e) (hb:e.us=e.vs) :
  fit ops S o=true∧e.S=S∧Region.wanted o (yl ops S)=true∧o.dst=none∧∃ y cs,L[j]? =some y∧y.o=true∧e.L=uj L j cs∧∀ w,aA w y.b y.cs y.T→∃ w',(execOp (ev S) o).run P w= .ok .skip w'∧Stored w w' y.b∧aA w' y.b cs y.T:=by
 rw [rF] at h;split at h
 ·rename_i T x y hf hw hd hop;split at h
  ·rename_i b off z f hx hz hi;split at h
   ·rename_i ho h1 h2 h3;cases h
    simp only [iM,and_true] at hb;refine ⟨hf,rfl,hw,hd,z,_,hz,ho,rfl,fun w hX=>?_⟩;have hs:(ev S y).cells.size=f.size:=Nat.eq_of_beq_eq_true h1;have hle:=Nat.le_of_ble_eq_true h2;obtain ⟨w',e1,e2,e3⟩:=LA (P:=P) (ev S y).cells.toList off 0 z.cs w hX (by simp;omega) h3;refine ⟨w',?_,e2,e3⟩;simp [execOp,hop,hx,hb,Instr.storeAt,Instr.sureAddr,storeVar,sizeOf,typeInfo,hi,hs,e1]
   ·cases h
  ·cases h
 ·cases h
theorem ad4 {x:Operand} {b:Bool} {w:World} {e:Ex} (h:rF P n w S L (.br x b)=some e):e.S=S∧e.L=L∧known S x=true∧ev S x= aC b:=by
 rw [rF] at h;split at h
 ·rename_i c hk hx;split at h
  ·rename_i hc;cases h
   have:c=b:=by simpa using hc
   exact ⟨rfl,rfl,hk,this ▸ hx⟩
  ·cases h
 ·cases h
theorem XQ {w:World} (hM:Mem w0 H0 L w) {Hj:List Nat} (hw:∀ j∈Hj,wrt L j=true) {j:Nat} {y:Bx} (hj:L[j]? =some y) (hn:Hj.contains j=false):y.b∉Hj.filterMap (blk L):=by
 intro hm;obtain ⟨i,hi,he⟩:=List.mem_filterMap.1 hm;unfold blk at he;obtain ⟨x,hx,hxb⟩:=Option.map_eq_some_iff.1 he;refine hM.Ri i j x y hx hj (fun e=>?_) (by have:=hw i hi;unfold wrt at this;rw [hx] at this;exact this) hxb;subst e;simp at hn
 exact hn hi
theorem K6 {Hj:List Nat} {j:Nat} {y:Bx} (hj:L[j]? =some y) (hn:Hj.contains j=true):y.b∈Hj.filterMap (blk L) :=
 List.mem_filterMap.2 ⟨j,by simpa using hn,by simp [blk,hj]⟩
theorem wK {hs hs':List Nat} {p p':Pos} {d:Option Do} (hm:zL hs p=some (d,hs',p'))
  (hd:match d with|none=>S'=S∧L'=L|some d=>∃ e,rF P n w0 S L d=some e∧e.S=S'∧e.L=L'∧Bears P e.rs∧e.us=e.vs)
  (hc:G P n R w0 H0 p' S' L'):G P n R w0 H0 p S L:=by
 refine ⟨fun w N H hM hok=>?_⟩;cases p with
 | code c k =>
  cases c with
  | seq a b=>cases hm;obtain ⟨rfl,rfl⟩:=hd;exact (seq ⟨hc.out w N H hM trivial⟩).out
  | block id c=>cases hm;obtain ⟨rfl,rfl⟩:=hd;exact (block ⟨hc.out w N H hM trivial⟩).out
  | loop c=>cases hm;obtain ⟨rfl,rfl⟩:=hd;exact (loop 255 ⟨hc.out w N H hM trivial⟩).out
  | skip=>cases hm;obtain ⟨rfl,rfl⟩:=hd;exact (skip ⟨hc.out w N H hM trivial⟩).out
  | exit id=>cases hm;obtain ⟨rfl,rfl⟩:=hd;exact (exit ⟨hc.out w N H hM trivial⟩).out
  | region id ops draw =>
   cases draw with
   | true=>cases hm
   | false=>cases hm;obtain ⟨rfl,rfl⟩:=hd;exact fun a ha=>wp_region (hc.out w N H hM trivial a ha)
  | cond x c1 c2 =>
   have key:∀ (b:Bool) (hs0:List Nat),hs=(if b then 1 else 2)::hs0→d=some (.br x b)∧hs'=hs0∧p'= .code (if b then c1 else c2) k:=fun b hs0 he=>by
    subst he;cases b<;>cases hm<;>exact ⟨rfl,rfl,rfl⟩
   have:∃ (b:Bool) (hs0:List Nat),hs=(if b then 1 else 2)::hs0:=by
    simp only [zL] at hm;split at hm
    ·exact ⟨true,_,rfl⟩
    ·exact ⟨false,_,rfl⟩
    ·cases hm
   obtain ⟨b,hs0,he⟩:=this;obtain ⟨rfl,rfl,rfl⟩:=key b hs0 he;obtain ⟨e,h1,rfl,rfl, -, -⟩:=hd;obtain ⟨e1,e2,hk,hx⟩:=ad4 h1;rw [e1,e2] at hc;exact (cond hk hx ⟨hc.out w N H hM trivial⟩).out
  | _=>cases hm
 | nx e k =>
  cases k with
  | nil=>cases e<;>cases hm
  | cons x k =>
   cases e with
   | normal =>
    cases x with
    | seq c=>cases hm;obtain ⟨rfl,rfl⟩:=hd;exact (Ws ⟨hc.out w N H hM trivial⟩).out
    | block id=>cases hm;obtain ⟨rfl,rfl⟩:=hd;exact (OT (id:=id) ⟨hc.out w N H hM trivial⟩).out
    | again c m =>
     cases m with
     | zero=>cases hm
     | succ m=>cases hm;obtain ⟨rfl,rfl⟩:=hd;exact (again ⟨hc.out w N H hM trivial⟩).out
   | exit id =>
    cases x with
    | seq c=>cases hm;obtain ⟨rfl,rfl⟩:=hd;exact (Sr (c:=c) ⟨hc.out w N H hM trivial⟩).out
    | block id' =>
     simp only [zL] at hm;split at hm
     ·rename_i hb;cases hm
      obtain ⟨rfl,rfl⟩:=hd;obtain rfl:=Nat.eq_of_beq_eq_true hb;exact (Sw ⟨hc.out w N H hM trivial⟩).out
     ·rename_i hb;cases hm
      obtain ⟨rfl,rfl⟩:=hd;exact (Sv (Nat.ne_of_beq_eq_false hb) ⟨hc.out w N H hM trivial⟩).out
    | again c m=>cases hm;obtain ⟨rfl,rfl⟩:=hd;exact (L9 (c:=c) (m:=m) ⟨hc.out w N H hM trivial⟩).out
   | _=>cases x<;>cases hm
 | reg ops is k =>
  cases is with
  | nil=>cases hm;obtain ⟨rfl,rfl⟩:=hd;exact fun a ha=>su ha (hc.out w N H hM trivial)
  | cons i is =>
   simp only [zL] at hm;split at hm
   ·cases hm
   ·rename_i o ho
    have hop:d=some (.op ops o)→p'= .reg ops is k→W P n R N H (.reg ops (i::is) k) S w:=by
     rintro rfl rfl;obtain ⟨e,h1,rfl,rfl,h4, -⟩:=hd;obtain ⟨hf,hL,hx⟩:=Qm h1 h4;rw [hL] at hc;intro a ha;unfold wpOps;simp only [ho,ha.wanted (nQ hf)]
     rcases hx with ⟨v,hw,hr,hp⟩|⟨hw,hp⟩
     ·rw [if_pos hw];exact .inl (CU ha hf (hr w) (hc.out w N H hM trivial _ (ha.nA hp)))
     ·rw [if_neg (by rw [hw];decide)];exact hc.out w N H hM trivial _ (ha.nA hp)
    have hno:d=some (.no ops o)→p'= .reg ops is k→W P n R N H (.reg ops (i::is) k) S w:=by
     rintro rfl rfl;obtain ⟨e,h1,rfl,rfl, -, -⟩:=hd;obtain ⟨hf,hL,hw,hp⟩:=Qn h1;rw [hL] at hc;intro a ha;unfold wpOps;simp only [ho,ha.wanted hf];rw [if_neg (by rw [hw];decide)];exact hc.out w N H hM trivial _ (ha.nA hp)
    split at hm
    ·cases hm;exact hop rfl rfl
    ·cases hm;exact hno rfl rfl
    ·rename_i j hs1 hcl;cases hm
     obtain ⟨e,h1,rfl,rfl, -, h5⟩:=hd;obtain ⟨hf,hL,hw,y,v,hj,hp,hr⟩:=U4 h1 h5;rw [hL] at hc;intro a ha;unfold wpOps;simp only [ho,ha.wanted (nQ hf)];rw [if_pos hw];exact .inl (CU ha hf (hr w (hM.all _ y hj)) (hc.out w N H hM trivial _ (ha.nA hp)))
    ·rename_i j hs1 hcl;cases hm
     obtain ⟨e,h1,rfl,rfl, -, h5⟩:=hd;obtain ⟨hf,hS,hw,hdn,y,cs,hj,Mw,hL,hr⟩:=U3 h1 h5;rw [hL,hS] at hc;intro a ha;unfold wpOps;simp only [ho,ha.wanted (nQ hf)];rw [if_pos hw];obtain ⟨w',e1,e2,e3⟩:=hr w (hM.all _ y hj);refine .inl ?_;unfold Oper.wp;rw [ha.exec hf,e1];simp only [Oper.upon,hdn];exact hc.out w' N H (hM.set hj Mw (.stored e2) e3) trivial _ ha
    ·cases hm
 | rZ ops Hj is A k =>
  obtain ⟨k1,k2,k3,k4⟩:=hok;cases is with
  | nil =>
   cases hm
   obtain ⟨rfl,rfl⟩:=hd;exact fun a ha=>fun w' hb=>su ha (hc.out w' N H (hM.later hb) trivial)
  | cons x is =>
   obtain ⟨kd,i⟩:=x;simp only [zL] at hm;split at hm
   ·cases hm
   ·rename_i o ho;have k1:is.any (fun x=>IY x.1)=true→w0.heap.size≤N:=fun h=>k1 (by rw [List.any_cons,h,Bool.or_true]);have k2:is.any (fun x=>IY x.1)=true→∀ (j:Nat) (x:Bx),L[j]? =some x→x.b<N∨x.b∈A:=fun h=>k2 (by rw [List.any_cons,h,Bool.or_true]);have Wo:ok w0 N H (.rZ ops Hj is A k) L:=⟨k1,k2,k3,k4⟩;split at hm
    ·cases hm
     obtain ⟨e,h1,rfl,rfl,h4, -⟩:=hd;obtain ⟨hf,hL,hx⟩:=Qm h1 h4;rw [hL] at hc;intro a ha;unfold Bv.walk;simp only [ho,ha.wanted (nQ hf)]
     rcases hx with ⟨v,hw,hr,hp⟩|⟨hw,hp⟩
     ·rw [if_pos hw];exact ⟨v,fun w'=>by rw [ha.exec hf];exact hr w',hc.out w N H hM Wo _ (ha.nA hp)⟩
     ·rw [if_neg (by rw [hw];decide)];exact hc.out w N H hM Wo _ (ha.nA hp)
    ·cases hm
     obtain ⟨e,h1,rfl,rfl, -, -⟩:=hd;obtain ⟨hf,hL,hw,hp⟩:=Qn h1;rw [hL] at hc;intro a ha;unfold Bv.walk;simp only [ho,ha.wanted hf];rw [if_neg (by rw [hw];decide)];exact hc.out w N H hM Wo _ (ha.nA hp)
    ·split at hm
     ·rename_i j hs1 hcj;cases hm
      obtain ⟨e,h1,rfl,rfl, -, h5⟩:=hd;obtain ⟨hf,hL,hw,y,v,hj,hp,hr⟩:=U4 h1 h5;rw [hL] at hc;intro a ha;unfold Bv.walk;simp only [ho,ha.wanted (nQ hf)];rw [if_pos hw];refine ⟨v,fun w' hb=>?_,hc.out w N H hM Wo _ (ha.nA hp)⟩;rw [ha.exec hf];exact hr w' (hb.box (hM.all _ y hj) (k4.1 ▸ XQ hM k4.2 hj hcj))
     ·cases hm
    ·cases hm
     obtain ⟨e,h1,rfl,rfl, -, -⟩:=hd;obtain ⟨hf,hL,hw,hp⟩:=Qn h1;rw [hL] at hc;intro a ha;unfold Bv.walk;simp only [ho,ha.wanted hf];rw [if_neg (by rw [hw];decide)];exact hc.out w N H hM Wo _ (ha.nA hp)
    ·cases hm
     obtain ⟨e,h1,rfl,rfl,h4, -⟩:=hd;obtain ⟨hf,hL,hx⟩:=Qm h1 h4;rw [hL] at hc;intro a ha;unfold Bv.walk;simp only [ho,ha.wanted (nQ hf)]
     rcases hx with ⟨v,hw,hr,hp⟩|⟨hw,hp⟩
     ·rw [if_pos hw];exact fun w' hb=>CU ha hf (hr w') ⟨.refl w',hc.out w' N H (hM.later hb) Wo _ (ha.nA hp)⟩
     ·rw [if_neg (by rw [hw];decide)];exact hc.out w N H hM Wo _ (ha.nA hp)
    ·split at hm
     ·rename_i j hs1 hcj;cases hm
      obtain ⟨e,h1,rfl,rfl, -, h5⟩:=hd;obtain ⟨hf,hS,hw,hdn,y,cs,hj,Mw,hL,hr⟩:=U3 h1 h5;rw [hL,hS] at hc;intro a ha;unfold Bv.walk;simp only [ho,ha.wanted (nQ hf)];rw [if_pos hw];intro w' hb;have hM':=hM.later hb;obtain ⟨w2,e1,e2,e3⟩:=hr w' (hM'.all _ y hj);unfold Oper.wp;rw [ha.exec hf,e1];simp only [Oper.upon,hdn];have hin:y.b∈H:=k4.1 ▸ K6 hj hcj;refine ⟨⟨e2.os,e2.tape,e2.output,Nat.le_of_eq e2.size.symm,fun i _ hn=>e2.block i fun e=>hn (e ▸ hin)⟩,hc.out w2 N H (hM'.set hj Mw (.stored e2) e3) ⟨k1,fun hal i x hx=>?_,k3,by rw [Gx,Ep];exact k4⟩ _ ha⟩;rw [nN] at hx;cases hi:L[i]? with
      | none=>rw [hi] at hx;cases hx
      | some u =>
       rw [hi] at hx;simp only [Option.map_some,Option.some.injEq] at hx;have e1:x.b=u.b:=by subst hx;split<;>rfl
       rw [e1];exact k2 hal i u hi
     ·cases hm
    ·cases hm
     obtain ⟨rfl,rfl⟩:=hd;intro a ha;unfold Bv.walk;simp only [ho];exact fun w' hb=>hc.out w' N H (hM.later hb) trivial a ha
    ·cases hm
theorem yI:∀ (m:Nat) (hs:List Nat) (p:Pos) (S:Sl) (L:Mm) (r:Ex),exec P n w0 (tr m hs p).1 S L=some r→Bears P r.rs→r.us=r.vs→G P n R w0 H0 (tr m hs p).2 r.S r.L→G P n R w0 H0 p S L
 | 0,hs,p,S,L,r,h,h1,h2,hc=>by cases h;exact hc
 | m+1,hs,p,S,L,r,h,h1,h2,hc=>by
  unfold tr at h hc;cases hm:zL hs p with
  | none=>simp only [hm] at h hc;cases h;exact hc
  | some x =>
   obtain ⟨d,hs',p'⟩:=x;cases d with
   | none =>
    simp only [hm] at h hc;exact wK hm ⟨rfl,rfl⟩ (yI m hs' p' S L r h h1 h2 hc)
   | some d =>
    simp only [hm] at h hc;unfold exec at h;cases he:rF P n w0 S L d with
    | none=>simp only [he] at h;cases h
    | some e =>
     simp only [he] at h;cases hr:exec P n w0 (tr m hs' p').1 e.S e.L with
     | none=>simp only [hr] at h;cases h
     | some r' =>
      simp only [hr,Option.some.injEq] at h;subst h
      have hl:e.us.length=e.vs.length:=by
       cases d<;>unfold rF at he<;>(repeat' split at he)<;>first|cases he<;>rfl|(obtain ⟨S1, -, rfl⟩:=Option.map_eq_some_iff.1 he;rfl)
      have h3:=List.append_inj h2 hl;exact wK hm ⟨e,he,rfl,rfl,h1.left,h3.1⟩ (yI m hs' p' e.S e.L r' hr h1.right h3.2 hc)
end
end Go.Fx
