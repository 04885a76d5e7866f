/- Lemmas for the proof. No condition. -/
import Derived.Test.YtbngfhgoeoncmaaGreatDoorTB13
import Derived.Laws.CopyOwn
import Derived.MapKept
import Derived.Recover
import Derived.ChangeKeysEq
set_option linter.unusedVariables false
set_option linter.unusedSimpArgs false
set_option maxRecDepth 100000
set_option maxHeartbeats 16000000
open Array renaming getElem?_eq_none → bq
open Bool renaming and_eq_true → aD, false_eq_true → bK
open Go.Ending renaming returned → ah
open Go.IntKind renaming i64 → I
open Go.Value renaming agg → aB, int → Z, slice → aj, string → O, tuple → aF
open List renaming length_cons → aV, range → bI
open Nat renaming div_eq_of_lt → iB, le_refl → aG, le_trans → ay, lt_of_lt_of_le → aP, lt_or_ge → aH, mod_eq_of_lt → gH, mod_lt → iD, strongRecOn → fD, zero_add → dS
open Prod.mk renaming injEq → dW
namespace Go.d9
open Go Go.RowKit Go.Num Go.Mem
def Off (P:Nat) (v:Value):Prop:=∀ a m c,v= aj (some a) m c→a.block≠P
def kI (w:World) (P B off n:Nat) (f:Nat→List Int):Prop:=∃ arr,aA w B arr 200∧∀ i,i<n→∃ v,arr[off+i]? =some v∧iq w v (f i)∧Off P v
theorem kI.AV {w:World} {P B off n:Nat} {f:Nat→List Int} (h:kI w P B off n f):wB w B 200:=by
 obtain ⟨arr,h1, -⟩:=h;exact h1.AV
theorem kI.lt {w:World} {P B off n:Nat} {f:Nat→List Int} (h:kI w P B off n f):B<w.heap.size:=by
 obtain ⟨arr,h1, -⟩:=h;exact h1.lt
theorem kI.free {w:World} {P B off n:Nat} {f:Nat→List Int} (h:kI w P B off n f) (o:Nat):w.frozen? ⟨B,o,none⟩=false:=by
 obtain ⟨arr,h1, -⟩:=h;exact h1.free o
theorem kI.later {w w':World} {P B off n:Nat} {f:Nat→List Int} (h:kI w P B off n f) (hb:Below w.heap.size w w'):kI w' P B off n f:=by
 obtain ⟨arr,h1,h2⟩:=h;refine ⟨arr,h1.later hb,fun i hi=>?_⟩;obtain ⟨v,k1,k2,k3⟩:=h2 i hi;exact ⟨v,k1,k2.later hb,k3⟩
theorem kI.get {w:World} {P B off n:Nat} {f:Nat→List Int} (h:kI w P B off n f) {i:Nat} (hi:i<n) :
  ∃ a c,w.cell? ⟨B,off+i,none⟩=some (.slice a (f i).length c)∧(f i).length≤c∧c≤9223372036854775807∧iq w (aj a (f i).length c) (f i)∧Off P (aj a (f i).length c):=by
 obtain ⟨arr,h1,h2⟩:=h;obtain ⟨v,k1,k2,k3⟩:=h2 i hi;obtain ⟨a,c,rfl,k4,k5, -⟩:=k2.read;exact ⟨a,c,(h1.cell _).trans k1,k4,k5,k2,k3⟩
theorem iq.elem {w:World} {P:Nat} {a:Option Addr} {m c:Nat} {l:List Int} (h:iq w (aj a m c) l) (ho:Off P (aj a m c)) {j:Nat} (hj:j<l.length) :
  ∃ b o pa n ca,a=some ⟨b,o,none⟩∧b≠P∧b<w.heap.size∧w.cell? ⟨b,o+j*2,none⟩=some (.slice pa n ca)∧w.cell? ⟨b,o+j*2+1,none⟩=some (.bool (decide (l.getD j 0<0)))∧aT w (aj pa n ca) (l.getD j 0).natAbs:=by
 obtain ⟨a',c',e, -, -, h2⟩:=h.read;simp only [Value.slice.injEq] at e;obtain ⟨rfl,rfl,rfl⟩:=e;obtain ⟨b,o,pa,n,ca,rfl,k1,k2,k3,k4⟩:=h2 j hj;exact ⟨b,o,pa,n,ca,rfl,ho _ _ _ rfl,k1,k2,k3,k4⟩
theorem kI.set {w:World} {P B off n i:Nat} {f:Nat→List Int} {v:Value} {xs:List Int} (h:kI w P B off n f) (hi:i<n) (hv:iq w v xs) (ho:Off P v):kI (w.setCell ⟨B,off+i,none⟩ v) P B off n (fun j=>if j=i then xs else f j):=by
 have hB:=h.AV;obtain ⟨arr,h1,h2⟩:=h
 have hs:off+i<arr.size:=by
  obtain ⟨u,k1, -⟩:=h2 i hi;exact (Array.getElem?_eq_some_iff.1 k1).1
 refine ⟨arr.setIfInBounds (off+i) v,h1.set _ _,fun j hj=>?_⟩
 by_cases e:j=i
 ·subst e;refine ⟨v,?_,?_,ho⟩
  ·rw [Array.getElem?_setIfInBounds,if_pos rfl,if_pos hs]
  ·simp only [if_true];exact hv.kept (Keep.setCell hB) zd zd
 ·obtain ⟨u,k1,k2,k3⟩:=h2 j hj;refine ⟨u,?_,?_,k3⟩
  ·rw [Array.getElem?_setIfInBounds,if_neg zo,k1]
  ·simp only [if_neg e];exact k2.kept (Keep.setCell hB) zd zd
theorem iq.off {w:World} {v:Value} {l:List Int} (h:iq w v l) {P:Nat} (hP:w.heap.size≤P):Off P v:=by
 obtain ⟨a,cap,h1,h2,h3,h4,h5⟩:=h;intro ad m c e;rw [h1] at e;simp only [Value.slice.injEq] at e;obtain ⟨rfl, -, -⟩:=e;obtain ⟨-, arr,h7, -⟩:=h5 ad rfl;have:=h7.lt;omega
theorem kI.alloc {w:World} {P B off n:Nat} {f:Nat→List Int} (h:kI w P B off n f) (o:Obj):kI (w.alloc o) P B off n f:=h.later ((Below.refl _ _).alloc (aG _) _)
theorem kI.drew {w:World} {P B off n:Nat} {f:Nat→List Int} (h:kI w P B off n f):kI w.drew P B off n f:=h.later (Below.drew (Below.refl _ _))
def oJ (w w':World) (B:Nat):Prop:=w.grownBy w' (some B)
theorem oJ.refl (w:World) (B:Nat):oJ w w B:=BO w _
theorem oJ.below {a w w':World} {B:Nat} (h:oJ a w B) (hb:Below w.heap.size w w'):oJ a w' B :=
 ⟨hb.os.trans h.os,hb.tape.trans h.tape,hb.output.trans h.output,ay h.size hb.size,fun i hi hne=>(hb.block i (aP hi h.size)).trans (h.block i hi hne)⟩
theorem oJ.set {a w:World} {B:Nat} (h:oJ a w B) (o:Nat) (u:Value):oJ a (w.setCell ⟨B,o,none⟩ u) B:=rD h o u
theorem oJ.Oe {a w:World} {B P:Nat} (h:oJ a w B) (hP:a.heap.size≤P) (o:Nat) (u:Value):oJ a (w.setCell ⟨P,o,none⟩ u) B :=
 ⟨h.os,h.tape,h.output,by simpa [World.setCell] using h.size,fun i hi hne=>(Below.heap_setCell w _ u i (by rintro rfl;exact absurd hi (by simp;omega))).trans (h.block i hi hne)⟩
theorem oJ.size {a w:World} {B:Nat} (h:oJ a w B):a.heap.size≤w.heap.size:=World.grownBy.size h
theorem oJ.toBelow {b a w:World} {B:Nat} (h:oJ a w B) (hb:Below b.heap.size b a) (hB:b.heap.size≤B):Below b.heap.size b w :=
 tN hb h hb.size hB
def lI (w:World) (M n k:Nat) (f:Nat→List Fr):Prop :=
 ∃ arr,aA w M arr 130∧arr.size=n∧∀ i,i<k→∃ v,arr[i]? =some v∧qM w 38 v (f i)
theorem lI.lt {w:World} {M n k:Nat} {f:Nat→List Fr} (h:lI w M n k f):M<w.heap.size:=by
 obtain ⟨arr,h1, -⟩:=h;exact h1.lt
theorem lI.AV {w:World} {M n k:Nat} {f:Nat→List Fr} (h:lI w M n k f):wB w M 130:=by
 obtain ⟨arr,h1, -⟩:=h;exact h1.AV
theorem lI.later {w w':World} {M n k:Nat} {f:Nat→List Fr} (h:lI w M n k f) (hb:Below w.heap.size w w'):lI w' M n k f:=by
 obtain ⟨arr,h1,h2,h3⟩:=h;refine ⟨arr,h1.later hb,h2,fun i hi=>?_⟩;obtain ⟨v,k1,k2⟩:=h3 i hi;exact ⟨v,k1,k2.later hb⟩
theorem lI.cell {w:World} {M n k:Nat} {f:Nat→List Fr} (h:lI w M n k f) {j:Nat} (hj:j<n):(∃ x,w.cell? ⟨M,j,none⟩=some x)∧∀ o,w.frozen? ⟨M,o,none⟩=false:=by
 obtain ⟨arr,h1,h2, -⟩:=h;exact ⟨⟨arr[j]'zo,by rw [h1.cell];exact Array.getElem?_eq_getElem _⟩,h1.free⟩
theorem aA.uniq {w:World} {b:Nat} {cs cs':Array Value} {T T':TypeId} (h:aA w b cs T) (h':aA w b cs' T'):cs=cs':=by
 unfold aA at *;rw [h] at h'
 injection h' with e
 injection e
theorem oJ.box {w w':World} {M b:Nat} {cs:Array Value} {T:TypeId} (h:oJ w w' M) (hb:aA w b cs T) (hne:b≠M):aA w' b cs T:=by
 have hl:=hb.lt;unfold aA at *;rw [World.grownBy.block h b hl (by simpa using hne)];exact hb
theorem qM.near {w w':World} {M:Nat} {T T':TypeId} {v:Value} {l:List Fr} (h:qM w T v l) (k:oJ w w' M) (hM:wB w M T') (hT:T≠T'):qM w' T v l:=by
 obtain ⟨a,cap,h1,h2,h3,h4,h5⟩:=h;refine ⟨a,cap,h1,h2,h3,h4,fun ad had=>?_⟩;obtain ⟨h6,arr,h7,h8⟩:=h5 ad had;obtain ⟨cs,hM⟩:=hM;exact ⟨h6,arr,k.box h7 (h7.ne hM hT),h8⟩
theorem lI.step {w w':World} {M n k:Nat} {f:Nat→List Fr} {v:Value} (h:lI w M n k f) (hk:k<n) (hn:oJ w w' M)
  (hb:∀ arr,aA w M arr 130→aA w' M (arr.setIfInBounds k v) 130) (hv:qM w' 38 v (f k)):lI w' M n (k+1) f:=by
 have hM:=h.AV;obtain ⟨arr,h1,h2,h3⟩:=h;refine ⟨arr.setIfInBounds k v,hb _ h1,by simp [h2],fun i hi=>?_⟩
 rcases aH i k with h|h
 ·obtain ⟨u,k1,k2⟩:=h3 i h;refine ⟨u,?_,k2.near hn hM zd⟩;rw [Array.getElem?_setIfInBounds,if_neg zo,k1]
 ·obtain rfl:i=k:=by omega
  refine ⟨v,?_,hv⟩;rw [Array.getElem?_setIfInBounds,if_pos rfl,if_pos zo]
theorem lI.aj7 {w:World} {M:Nat} {m:List (List Fr)} (h:lI w M m.length m.length (fun i=>m.getD i [])) (hm:m.length≤1000000):kN w (aj (some ⟨M,0,none⟩) m.length m.length) m:=by
 obtain ⟨arr,h1,h2,h3⟩:=h;refine ⟨arr.toList,Row.mk ?_ ?_ zo h1 ?_,?_,?_⟩
 ·simp [h2]
 ·simp [h2]
 ·intro i hi;rw [dS];simp at hi
  simp [hi]
 ·simp [h2]
 ·intro i hi hi';obtain ⟨v,k1,k2⟩:=h3 i hi'
  have e:arr.toList[i]=v:=by
   rw [Array.getElem_toList];exact (Array.getElem?_eq_some_iff.1 k1).2
  rw [e];have e2:m.getD i []=m[i]:=by simp [hi']
  rw [← e2];exact k2
def jD (w:World) (er:Int) (m:List (List Fr)) (e:Ending) (w':World):Prop :=
 Below w.heap.size w w'∧∃ v,e= ah (aF #[v,Z I er])∧(er=0→kN w' v m)∧(er≠0→v= aj none 0 0)
theorem jD.no {w w':World} {er:Int} {m:List (List Fr)} (hb:Below w.heap.size w w') (he:er≠0):jD w er m (ah (aF #[aj none 0 0,Z I er])) w' :=
 ⟨hb,_,rfl,fun h=>absurd h he,fun _=>rfl⟩
theorem jD.yes {w w':World} {m:List (List Fr)} {v:Value} (hb:Below w.heap.size w w') (hv:kN w' v m):jD w 0 m (ah (aF #[v,Z I 0])) w' :=
 ⟨hb,_,rfl,fun _=>hv,fun h=>absurd rfl h⟩
def Fr.zero:Fr:=⟨⟨#[48]⟩,⟨#[49]⟩⟩
def Fr.one:Fr:=⟨⟨#[49]⟩,⟨#[49]⟩⟩
theorem Fill.put {w:World} {G n j:Nat} {T:TypeId} {f:Nat→Fr} {x:Fr} (h:Fill w G T n n (DL f)) (hj:j<n) :
  Fill ((w.setCell ⟨G,j*2,none⟩ (O x.n)).setCell ⟨G,j*2+1,none⟩ (O x.d)) G T n n (DL fun c=>if c=j then x else f c):=by
 obtain ⟨arr,h1,h2,h3⟩:=h;refine ⟨(arr.setIfInBounds (j*2) (O x.n)).setIfInBounds (j*2+1) (O x.d),(h1.set _ _).set _ _,by simp [h2],fun i hi=>?_⟩
 by_cases e:i=j
 ·subst e;refine ⟨O x.n,O x.d,?_,?_,?_⟩
  ·rw [Array.getElem?_setIfInBounds,if_neg zo,Array.getElem?_setIfInBounds,if_pos rfl,if_pos zo]
  ·rw [Array.getElem?_setIfInBounds,if_pos rfl,if_pos (by simp;omega)]
  ·unfold DL;simp only [if_true,and_self]
 ·obtain ⟨x',y',k1,k2,k3⟩:=h3 i hi;refine ⟨x',y',?_,?_,?_⟩
  ·rw [Array.getElem?_setIfInBounds,if_neg zo,Array.getElem?_setIfInBounds,if_neg zo,k1]
  ·rw [Array.getElem?_setIfInBounds,if_neg zo,Array.getElem?_setIfInBounds,if_neg zo,k2]
  ·unfold DL at *;simp only [if_neg e];exact k3
theorem Fill.WB {w w':World} {g:Nat} {T:TypeId} {n k:Nat} {f:Nat→Fr} (h:Fill w g T n k (DL f)) (hb:Below w.heap.size w w'):Fill w' g T n k (DL f):=h.later hb (fun _ _ _ h=>h)
theorem Fill.frs {w:World} {g:Nat} {T:TypeId} {n:Nat} {l:List Fr} (h:Fill w g T n n (DL fun i=>l.getD i Fr.no)) (hn:l.length=n) (hl:n≤1000000):qM w T (aj (some ⟨g,0,none⟩) n n) l:=by
 subst hn;exact qM.xW h hl
theorem Fill.Xv {w:World} {g:Nat} {T:TypeId} {n k:Nat} {f f':Nat→Fr} (h:Fill w g T n k (DL f)) (e:∀ i,i<k→f i=f' i):Fill w g T n k (DL f'):=by
 obtain ⟨arr,h1,h2,h3⟩:=h;refine ⟨arr,h1,h2,fun i hi=>?_⟩;obtain ⟨x,y,k1,k2,k3⟩:=h3 i hi;refine ⟨x,y,k1,k2,?_⟩;unfold DL at *;rw [← e i hi];exact k3
end Go.d9
namespace Go.Proofs.matrix
open Go Go.RowKit Go.SW Go.Num Go.Mem Go.Proofs Go.Dec Go.d9
theorem WJ:(Tryz.prog.info? 130).map (fun i=>(i.zero,i.size,i.bytes))=some (some (.slice none 0 0),1,24):=by kernel_rfl
theorem Px:(Tryz.prog.info? 38).map (fun i=>(i.zero,i.size,i.bytes))=some (some (.agg #[O ⟨#[]⟩,O ⟨#[]⟩]),2,32):=by kernel_rfl
theorem O6 (n:Nat) (hn:n≤1000):∃ cs:Array Value,cs.size=n*2∧∀ W:World,(Instr.makeSlice 130 (Z I (n:Int)) (Z I (n:Int))).run Tryz.prog W= .ok (aj (some ⟨W.heap.size,0,none⟩) n n) (W.alloc (.cells cs 38)):=by
 obtain ⟨i0,hi,hz0,hz1,hz2⟩:=info_parts Px;refine ⟨madeCells (Value.agg #[O ⟨#[]⟩,O ⟨#[]⟩]).cells (n*2),size_madeCells _ _,fun W=>?_⟩;have:=run_makeSlice (P:=Tryz.prog) W 130 38 i0 (aB #[O ⟨#[]⟩,O ⟨#[]⟩]) Tryz.underlying130 hi hz0 .i64 .i64 (n:Int) (n:Int) zo (Int.le_refl _) (by rw [hz1];simp;omega) (by rw [hz2];omega) zo;rw [hz1] at this
 simpa using this
theorem O4 (n:Nat) (hn:n≤1000):∃ cs:Array Value,cs.size=n∧∀ W:World,(Instr.makeSlice 126 (Z I (n:Int)) (Z I (n:Int))).run Tryz.prog W= .ok (aj (some ⟨W.heap.size,0,none⟩) n n) (W.alloc (.cells cs 130)):=by
 obtain ⟨i0,hi,hz0,hz1,hz2⟩:=info_parts WJ;refine ⟨madeCells (Value.slice none 0 0).cells n,size_madeCells _ _,fun W=>?_⟩;have:=run_makeSlice (P:=Tryz.prog) W 126 130 i0 (aj none 0 0) Tryz.underlying126 hi hz0 .i64 .i64 (n:Int) (n:Int) zo (Int.le_refl _) (by rw [hz1];simp;omega) (by rw [hz2];omega) zo;rw [hz1] at this
 simpa using this
theorem lI.V3 {w:World} {g n:Nat} {cs:Array Value} {f:Nat→List Fr} (h:aA w g cs 130) (hs:cs.size=n):lI w g n 0 f:=⟨cs,h,hs,fun i h=>by omega⟩
end Go.Proofs.matrix
namespace Go.Proofs.light
open Go Go.RowKit Go.SW Go.Num Go.Mem Go.Proofs Go.Dec Go.d9
structure gJ where
 x:Fr
 y:Fr
 z:Fr
deriving DecidableEq
def gJ.cells (t:gJ):Array Value:=#[O t.x.n,O t.x.d,O t.y.n,O t.y.d,O t.z.n,O t.z.d]
def gJ.v (t:gJ):Value:=aB t.cells
def gJ.get (t:gJ) (i:Nat):Fr:=if i=0 then t.x else if i=1 then t.y else t.z
def gJ.list (t:gJ):List Fr:=[t.x,t.y,t.z]
def enc (t:gJ) (k:Fin 3):Array Value:=#[Z I (k.1:Int),(t.get k.1).v]
def upto (k:Nat) (h:k≤3):List (Fin 3):=List.ofFn (n:=k) fun i=>⟨i.1,aP i.2 h⟩
theorem oQ {k:Nat} (h:k+1≤3):upto (k+1) h=upto k zo++[⟨k,h⟩]:=by
 unfold upto;rw [List.ofFn_succ_last];rfl
theorem jd {k:Nat} (h:k≤3):(upto k h).length=k:=by simp [upto]
end Go.Proofs.light
namespace Go.Proofs.matrix
open Go Go.RowKit
theorem q8 (P:Program) (w:World) (dT sT ty elem:TypeId) (g o dLen dCap size:Nat) (a:Addr) (sLen sCap:Nat) (cur:Array Value) (t:TypeId) (cs:List Value)
  (hu:P.underlying dT=some (.slice elem)) (hs:(P.info? elem).map (·.size)=some size)
  (hg:w.heap[g]? =some (.cells cur t (0,0))) (hn:cs.length=Nat.min sLen dLen*size)
  (hsrc:∀ j v,cs[j]? =some v→w.cell? (a.add j)=some v) (hfit:o+cs.length≤cur.size) (h1:∀ v∈cs,v.oneCell'=true) :
  (Builtin.copy_ #[dT,sT] ty #[aj (some ⟨g,o,none⟩) dLen dCap,aj (some a) sLen sCap]).run P w =
   .ok (goInt (Nat.min sLen dLen)) (w.setRow g (cur.toList.take o++cs++cur.toList.drop (o+cs.length)).toArray):=by
 have hl:=run_loadCells_list (P:=P) w a cs hsrc;have hst:=run_storeCells_at P g o t cs 0 cur w hg (by simpa using hfit) h1;cases hq:P.info? elem with
 | none=>simp [hq] at hs
 | some i =>
  have hi:i.size=size:=by simpa [hq] using hs
  simp [Builtin.copy_,run_underlying hu,Builtin.lenOf,Builtin.firstCells,sizeOf,typeInfo,hq,hi,← hn,hl,hst]
end Go.Proofs.matrix
namespace Go.Fx
open Go Go.RowKit Go.SW Go.Num Go.Mem Go.Proofs
section
variable {P:Program} {n:Nat} {R:Post} {w0:World} {H0:List Nat} {p:Pos} {S:Sl} {L:Mm}
end
section
variable {P:Program} {n:Nat} {fn:Func} {T:Int→Ending} {w0:World} {V:Value} {k:Int} {p:Pos} {S:Sl} {L:Mm}
end
section
variable {P:Program}
theorem map_set (w:World) (es es':Array MapEntry) (c c':Nat):{ w.alloc (.map es c) with heap:=(w.alloc (.map es c)).heap.setIfInBounds w.heap.size (.map es' c') }=w.alloc (.map es' c'):=by
 simp only [World.alloc]
 congr 1
 apply Array.ext'
 simp [Array.setIfInBounds,Array.toList_push]
end
end Go.Fx
namespace Go.Fx
open Go Go.RowKit Go.SW Go.Num Go.Mem Go.Proofs
section
variable {P:Program} {n:Nat} {fn:Func} {T:Int→Ending} {w0:World} {H0:List Nat} {V:Value} {k:Int} {p:Pos} {S:Sl} {L:Mm}
theorem bS {wb:World} (hT:∀ k,∃ c,T k= .panicked c) (hs:List Nat) (d:Nat) (St:Sl) (U:List (Nat × Array Value)) {f:FuncId} {args:Array Value} {v:Value} {k1:Int} {A:Prop} (hC:∀ w,Mem w0 H0 (upd L U) w→Calls P f args w (DF T w v k1)) (hB:∀ w,Mem w0 H0 (upd L U) w→Below wb.heap.size wb w) (hn:(k1=0∧A)∨(k1≠0∧k=k1))
  (hc:k1=0→A→G P n (Ends P n fn (DF T wb V k)) w0 H0 (tr 4000 hs p).2.past ((d,v)::(St++S)) (upd L U))
  (h:AZ P n w0 (tr 4000 hs p).1 S L St (upd L U):=by intro _;kernel_rfl) (hx:∀ w,qB P n w (AO P n w0 (tr 4000 hs p).1 S L) (tr 4000 hs p).2=some (d,f,args,w):=by intro _;kernel_rfl):G P n (Ends P n fn (DF T wb V k)) w0 H0 p S L:=by
 refine Rh hs St _ h ?_;have hsub:=h.sub;have hh:=sG (hx w0);generalize AO P n w0 (tr 4000 hs p).1 S L=F at hx hsub ⊢;generalize (tr 4000 hs p).2=q at hc hx hh;generalize upd L U=L at hC hc hB;generalize St++S=S at hc hsub;obtain ⟨ops,o,hn',hf,hw,hd,hlt, -⟩:=jR (h:=hx w0);refine place hn' hf hw (Y:=fun N H w a a' w1=>a'=a.put (some d) v∧Below w.heap.size w w1∧k1=0∧A) (fun w N H hM hok a ha K hK ks=>?_) fun w N H hM hok a a' w' ha hy=>?_
 ·obtain ⟨ops',o',hn2, -, -, -, -, hr⟩:=jR (h:=hx w);rw [hn'] at hn2;cases hn2
  unfold Oper.wp;rw [ha.exec hf,hr];simp only [Oper.upon];refine (hC w hM).mono fun e w' he=>?_;obtain ⟨hb,⟨h1,rfl⟩|⟨h1,rfl⟩⟩:=he
  ·rw [hd]
   rcases hn with ⟨-, hA⟩|⟨h2, -⟩
   ·exact hK _ _ ⟨rfl,hb,h1,hA⟩
   ·exact absurd h1 h2
  ·obtain ⟨c,hc'⟩:=hT k1
   rcases hn with ⟨h2, -⟩|⟨h2,h3⟩
   ·exact absurd h2 h1
   ·rw [hc'];refine ⟨ha.defers,F,uD ?_ ks⟩
    show DF T wb V k (.panicked c) w'
    exact ⟨Bt (hB w hM) hb,.inr ⟨by rw [h3];exact h1,by rw [h3,hc']⟩⟩
 ·obtain ⟨rfl,h1,h2,h3⟩:=hy;exact ⟨fun _ _ _ _ _ _=>.of h1,_,ha.put hlt v,((hc h2 h3).of (kT hsub d v) hh).out w' N H (hM.later h1) (uP hok (fun _=>rfl) rfl)⟩
end
def Jh (n:Nat) (S:Sl) (p:Pos):Option (Nat × Array TypeId × TypeId × Array Value):=match p.next with
 | some (ops,o)=>(match fit ops S o,Region.wanted o (yl ops S),o.dst,o.op with
  | true,true,some d,.call ⟨.builtin .copy,av,ts⟩=>(match Nat.blt d n with
   | true=>some (d,ts,o.type,av.map (ev S))
   | false=>none)
  | _,_,_,_=>none)
 | none=>none
section
variable {P:Program} {n:Nat} {R:Post} {w0:World} {H0:List Nat} {p:Pos} {S:Sl} {L:Mm}
theorem MS {d:Nat} {ts:Array TypeId} {ty:TypeId} {vs:Array Value} (h:Jh n S p=some (d,ts,ty,vs)) :
  ∃ ops o,p.next=some (ops,o)∧fit ops S o=true∧Region.wanted o (yl ops S)=true∧o.dst=some d∧d<n∧∀ (P:Program) (w w':World) (r:Value),(Builtin.copy_ ts ty vs).run P w= .ok r w'→(execOp (ev S) o).run P w= .ok (.value r) w':=by
 unfold Jh at h;split at h
 ·rename_i ops o ho;split at h
  ·rename_i d' av ts' hf hw hd hop;split at h
   ·rename_i hb;cases h
    refine ⟨ops,o,ho,hf,hw,hd,Nat.le_of_ble_eq_true hb,fun P w w' r hr=>?_⟩;simp [execOp,hop,resolve,invoke,builtin,hr,Result.andThen]
   ·cases h
  ·cases h
 ·cases h
theorem KL (m:Nat) (hs:List Nat) (d j:Nat) (St:Sl) (U:List (Nat × Array Value)) {dT sT ty elem:TypeId} {b off dl dc sl sc size:Nat} {ad:Addr} {cur:Array Value} {T:TypeId} (cs:List Value) (new:Array Value) (cnt:Value)
  (hsrc:∀ w,Mem w0 H0 (upd L U) w→∀ i v,cs[i]? =some v→w.cell? (ad.add i)=some v) (hu:P.underlying dT=some (.slice elem)) (hz:(P.info? elem).map (·.size)=some size)
  (hc:G P n R w0 H0 (tr m hs p).2.past ((d,cnt)::(St++S)) (uj (upd L U) j new))
  (hj:((upd L U)[j]?).map (fun x=>(x.b,x.T,x.cs,x.o,(tr m hs p).2.may j))=some (b,T,cur,true,true):=by kernel_rfl)
  (hn:(cs.length,Nat.ble (off+cs.length) cur.size,new,cnt)=(Nat.min sl dl*size,true,(cur.toList.take off++cs++cur.toList.drop (off+cs.length)).toArray,goInt (Nat.min sl dl)):=by kernel_rfl)
  (h1:∀ v∈cs,v.oneCell'=true:=by simp [Value.oneCell'])
  (h:AZ P n w0 (tr m hs p).1 S L St (upd L U):=by intro _;kernel_rfl) (hx:Jh n (AO P n w0 (tr m hs p).1 S L) (tr m hs p).2=some (d,#[dT,sT],ty,#[.slice (some ⟨b,off,none⟩) dl dc,.slice (some ad) sl sc]):=by kernel_rfl):G P n R w0 H0 p S L:=by
 obtain ⟨x,hx1,hx2⟩:=Option.map_eq_some_iff.1 hj;simp only [Prod.mk.injEq] at hx2 hn;obtain ⟨rfl,rfl,rfl,e3,e4⟩:=hx2;obtain ⟨n1,n2,rfl,rfl⟩:=hn;refine Rh hs St _ h ?_;have hsub:=h.sub;generalize AO P n w0 (tr m hs p).1 S L=F at hx hsub ⊢;generalize (tr m hs p).2=q at hc hx e4;generalize upd L U=L at hsrc hc hx1;generalize St++S=S at hc hsub;obtain ⟨ops,o,hn',hf,hw,hd,hlt,hrun⟩:=MS hx;obtain ⟨new,hnew⟩:∃ y,(x.cs.toList.take off++cs++x.cs.toList.drop (off+cs.length)).toArray=y:=⟨_,rfl⟩;rw [hnew] at hc;refine place hn' hf hw (Y:=fun N H w a a' w'=>a'=a.put (some d) (goInt (Nat.min sl dl))∧qI [x.b] w w'∧Mem w0 H0 (uj L j new) w') (fun w N H hM hok a ha K hK ks=>?_) fun w N H hM hok a a' w' ha hy=>?_
 ·have hX:=hM.all _ x hx1;have hr:=hrun P w _ _ (Go.Proofs.matrix.q8 P w dT sT ty elem x.b off dl dc size ad sl sc x.cs x.T cs hu hz hX n1 (hsrc w hM) (Nat.le_of_ble_eq_true n2) h1);rw [hnew] at hr;have hst:Stored w (w.setRow x.b new) x.b:=⟨rfl,rfl,rfl,by simp [World.setRow],fun i hi=>setRow_other w x.b i new (fun e=>hi e)⟩;unfold Oper.wp;rw [ha.exec hf,hr];simp only [Oper.upon];rw [hd];exact hK _ _ ⟨rfl,.stored hst,hM.set hx1 e3 (.stored hst) (setRow_heap w x.b x.cs new x.T _ hX)⟩
 ·obtain ⟨rfl,h2,h3⟩:=hy;refine ⟨fun ops' Hj is A k e=>?_,_,ha.put hlt _,(hc.of (kT hsub d _) (vR hn')).out w' N H h3 (uP hok (fun i=>by rw [Gx]) Ep)⟩;subst e;exact ⟨h2.os,h2.tape,h2.output,h2.size,fun i hi hnm=>h2.block i hi fun hm=>hnm (by rw [hok.2.2.2.1];simp only [List.mem_singleton] at hm;subst hm;exact K6 hx1 e4)⟩
end
end Go.Fx
namespace Go.Fx
open Go Go.RowKit Go.SW Go.Mem
section
variable {P:Program} {n:Nat} {R:Post} {w0:World} {H0:List Nat} {p:Pos} {S:Sl} {L:Mm}
theorem Mem.two {w:World} {b c:Nat} {cs ds:Array Value} {T U:TypeId} (hb:aA w b cs T) (hc:aA w c ds U) (hne:b≠c):Mem w [b,c] [⟨b,cs,T,true⟩,⟨c,ds,U,true⟩] w:=by
 have key:∀ (j:Nat) (x:Bx),[(⟨b,cs,T,true⟩:Bx),⟨c,ds,U,true⟩][j]? =some x→(j=0∧x=⟨b,cs,T,true⟩)∨(j=1∧x=⟨c,ds,U,true⟩):=fun j x h=>by
  match j,h with
  | 0,h=>simp at h;exact .inl ⟨rfl,h.symm⟩
  | 1,h=>simp at h;exact .inr ⟨rfl,h.symm⟩
  | j+2,h=>simp at h
 refine ⟨fun j x h=>?_,fun i j x y h k hne' _=>?_,fun j x h _=>?_,qI.refl w⟩
 ·rcases key j x h with ⟨-, rfl⟩|⟨-, rfl⟩
  ·exact hb
  ·exact hc
 ·rcases key i x h with ⟨rfl,rfl⟩|⟨rfl,rfl⟩<;>rcases key j y k with ⟨rfl,rfl⟩|⟨rfl,rfl⟩
  ·exact absurd rfl hne'
  ·exact hne
  ·exact hne.symm
  ·exact absurd rfl hne'
 ·rcases key j x h with ⟨-, rfl⟩|⟨-, rfl⟩<;>exact .inl zi
theorem Aw {c:Code} {a:Act} {w:World} (hG:G P n R w H0 (.code c []) S L) (hM:Mem w H0 L w) (ha:sK n S a):c.wp P (lift n R) a w:=hG.out w 0 [] hM trivial a ha
theorem Xl (hs:List Nat) (U:List (Nat × Array Value)) (hR:∀ S w,Mem w0 H0 (upd L U) w→R .normal S w) (h:Np P n w0 (tr 4000 hs p).1 S L (upd L U):=by intro _;kernel_rfl) (hq:(tr 4000 hs p).2= .nx .normal []:=by kernel_rfl):G P n R w0 H0 p S L:=by
 refine goR hs _ h ?_;rw [hq];exact ⟨fun w N H hM _=>hR _ w hM⟩
theorem V7 {a:Act} {x y z:Value} (hd:a.defers=[]) (h:(a.tmps.size,a.tmps.getD 0 undef,a.tmps.getD 1 undef,a.tmps.getD 2 undef)=(n,x,y,z)):sK n [(0,x),(1,y),(2,z)] a:=by
 simp only [dW] at h;obtain ⟨h0,rfl,rfl,rfl⟩:=h;refine ⟨h0,fun i v hv=>?_,hd⟩
 match i,hv with
 | 0,hv=>cases hv;rfl
 | 1,hv=>cases hv;rfl
 | 2,hv=>cases hv;rfl
 | i+3,hv=>cases hv
end
end Go.Fx
namespace Go.Proofs.iW
open Go Go.RowKit Go.SW Go.Num Go.Mem Go.Proofs Go.Dec Go.d9
def q2 (n d:Int):Rat:=(n:Rat) / (d:Rat)
end Go.Proofs.iW
namespace Go.Proofs
open Go Go.RowKit Go.SW Go.Num Go.Mem
end Go.Proofs
namespace Go.SW
open Go Go.RowKit
variable {P:Program} {ops:Array Oper} {Q:Exit→Act→World→Prop}
def GL (x y:Nat):Nat→List Oper→List Oper
 | _,[]=>[]
 | k,o::l=>(match k.beq y with
  | true=>⟨o.dst,o.op,o.type,o.pos,o.after.push ⟨x,.chain⟩,o.guard⟩
  | false=>o)::GL x y (k+1) l
def lK (x y:Nat) (ops:Array Oper):Array Oper:=(GL x y 0 ops.toList).toArray
def wait (x:Nat) (o:Oper):Oper:=⟨o.dst,o.op,o.type,o.pos,o.after.push ⟨x,.chain⟩,o.guard⟩
theorem GK (x y:Nat):∀ (l:List Oper) (k i:Nat),(GL x y k l)[i]? =(l[i]?).map fun o=>if k+i=y then wait x o else o
 | [],_,_=>by simp [GL]
 | o::l,k,0=>by
  unfold GL;rw [List.getElem?_cons_zero,List.getElem?_cons_zero];cases h:k.beq y with
  | true=>rw [Nat.eq_of_beq_eq_true h];simp [wait]
  | false =>
   have:=Nat.ne_of_beq_eq_false h;simp [this]
 | o::l,k,i+1=>by
  unfold GL;rw [List.getElem?_cons_succ,List.getElem?_cons_succ,GK x y l (k+1) i];have:k+1+i=k+(i+1):=by omega
  rw [this]
theorem vw (x y i:Nat) (ops:Array Oper):(lK x y ops)[i]? =(ops[i]?).map fun o=>if i=y then wait x o else o:=by
 unfold lK;rw [List.getElem?_toArray,GK,dS,Array.getElem?_toList]
theorem wQ (x y:Nat):∀ (l:List Oper) (k:Nat),(GL x y k l).length=l.length
 | [],_=>rfl
 | o::l,k=>by unfold GL;rw [aV,aV,wQ x y l]
theorem Ck (x y:Nat) (ops:Array Oper):(lK x y ops).size=ops.size:=by
 unfold lK;rw [List.size_toArray,wQ,Array.length_toList]
theorem DC (x y:Nat) (tmps:Array Value) (g:Nat):yielded (lK x y ops) tmps g=yielded ops tmps g:=by
 unfold yielded;rw [vw];cases ops[g]? with
 | none=>rfl
 | some o =>
  have e:(if g=y then wait x o else o).dst=o.dst:=by split<;>rfl
  simp only [Option.map_some,Option.bind_some,e]
theorem uF (x y:Nat):∀ (l:List Nat) (a:Act) (w:World),wpOps P (lK x y ops) Q l a w→wpOps P ops Q l a w
 | [],_,_,h=>h
 | i::l,a,w,h=>by
  have ih:=uF x y l;unfold wpOps at h ⊢;rw [vw] at h;have hy:yielded (lK x y ops) a.tmps=yielded ops a.tmps:=funext fun g=>DC x y _ g;rw [hy] at h;cases ho:ops[i]? with
  | none =>
   simp only [ho,Option.map_none] at h ⊢;exact ih _ _ h
  | some o =>
   simp only [ho,Option.map_some] at h ⊢
   by_cases hi:i=y
   ·simp only [hi,if_true] at h;have e1:Region.wanted (wait x o) (yielded ops a.tmps)=Region.wanted o (yielded ops a.tmps):=rfl;rw [e1] at h;split
    ·rename_i hw;simp only [hw,if_true] at h
     rcases h with h|h
     ·exact .inl (Oper.wp_mono ih h)
     ·exact .inr h
    ·rename_i hw;simp only [hw,if_false,bK] at h;exact ih _ _ h
   ·simp only [hi,if_false] at h;split
    ·rename_i hw;simp only [hw,if_true] at h
     rcases h with h|h
     ·exact .inl (Oper.wp_mono ih h)
     ·exact .inr h
    ·rename_i hw;simp only [hw,if_false,bK] at h;exact ih _ _ h
theorem ru {x y i:Nat} {listed:Array Bool} (h:i∈Region.ready .any ops listed) (hy:i=y→listed.getD x false=true):i∈Region.ready .any (lK x y ops) listed:=by
 obtain ⟨h1,o,h2,h3⟩:=mem_ready.1 h;refine mem_ready.2 ⟨h1,_,by rw [vw,h2];rfl,fun e he hb=>?_⟩;split at he
 ·rename_i hi
  rcases Array.mem_push.1 he with he|he
  ·exact h3 e he hb
  ·rw [he];exact hy hi
 ·exact h3 e he hb
theorem Fa {x y i:Nat} {listed:Array Bool} (h:i∈Region.ready .any (lK x y ops) listed):i∈Region.ready .any ops listed:=by
 obtain ⟨h1,o',h2,h3⟩:=mem_ready.1 h;rw [vw] at h2;cases ho:ops[i]? with
 | none=>rw [ho] at h2;cases h2
 | some o =>
  rw [ho,Option.map_some,Option.some.injEq] at h2;refine mem_ready.2 ⟨h1,o,ho,fun e he hb=>h3 e ?_ hb⟩;rw [← h2];split
  ·exact Array.mem_push.2 (.inl he)
  ·exact he
theorem uV {i fuel:Nat} {listed:Array Bool} (h:i∈Region.ready .any ops listed) (t:Nat) :
  ∃ t',Region.linearise.go .any ops (fuel+1) t' listed []=i::Region.linearise.go .any ops fuel t (listed.setIfInBounds i true) []:=by
 obtain ⟨k,hk,hi⟩:=List.getElem_of_mem h;refine ⟨k+(Region.ready .any ops listed).length*t,?_⟩;simp only [Region.linearise.go]
 change (match (Region.ready .any ops listed)[(k+(Region.ready .any ops listed).length*t)%(Region.ready .any ops listed).length]? with
   | some i=>Region.linearise.go .any ops fuel ((k+(Region.ready .any ops listed).length*t) / (Region.ready .any ops listed).length) (listed.setIfInBounds i true) [i]
   | none=>[].reverse)=_
 have e1:(k+(Region.ready .any ops listed).length*t)%(Region.ready .any ops listed).length=k:=by
  rw [Nat.add_mul_mod_self_left,gH hk]
 have e2:(k+(Region.ready .any ops listed).length*t) / (Region.ready .any ops listed).length=t:=by
  rw [Nat.add_mul_div_left _ _ (Nat.lt_of_le_of_lt (Nat.zero_le _) hk),iB hk,dS]
 rw [e1,e2,List.getElem?_eq_getElem hk,hi];simp only [];rw [linearise_go_acc,List.reverse_singleton,List.singleton_append]
theorem go_step (fuel t:Nat) (listed:Array Bool) :
  (Region.ready .any ops listed=[]∧Region.linearise.go .any ops (fuel+1) t listed []=[]) ∨
  ∃ i∈Region.ready .any ops listed,∃ t',Region.linearise.go .any ops (fuel+1) t listed []=i::Region.linearise.go .any ops fuel t' (listed.setIfInBounds i true) []:=by
 simp only [Region.linearise.go]
 change (_∧(match (Region.ready .any ops listed)[t%(Region.ready .any ops listed).length]? with
   | some i=>Region.linearise.go .any ops fuel (t / (Region.ready .any ops listed).length) (listed.setIfInBounds i true) [i]
   | none=>[].reverse)=[])∨∃ i∈Region.ready .any ops listed,∃ t',(match (Region.ready .any ops listed)[t%(Region.ready .any ops listed).length]? with
   | some i=>Region.linearise.go .any ops fuel (t / (Region.ready .any ops listed).length) (listed.setIfInBounds i true) [i]
   | none=>[].reverse)=_
 cases hi:(Region.ready .any ops listed)[t%(Region.ready .any ops listed).length]? with
 | none =>
  left
  refine ⟨?_,rfl⟩;cases hr:Region.ready .any ops listed with
  | nil=>rfl
  | cons x xs =>
   rw [hr] at hi;have hlt:t%(x::xs).length<(x::xs).length:=iD _ zi;simp at hi
   simp at hlt
   omega
 | some i =>
  right
  refine ⟨i,List.mem_of_getElem? hi,t / (Region.ready .any ops listed).length,?_⟩;simp only [];rw [linearise_go_acc,List.reverse_singleton,List.singleton_append]
theorem FX {fuel t:Nat} {listed:Array Bool} (h:Region.ready .any ops listed=[]):Region.linearise.go .any ops (fuel+1) t listed []=[]:=by
 rcases go_step (ops:=ops) fuel t listed with ⟨-, h2⟩|⟨i,hi, -⟩
 ·exact h2
 ·rw [h] at hi;cases hi
theorem vV {x y:Nat}:∀ (fuel t:Nat) (listed:Array Bool),listed.getD x false=true→∃ t',Region.linearise.go .any ops fuel t listed []=Region.linearise.go .any (lK x y ops) fuel t' listed []
 | 0,t,listed,_=>⟨t,rfl⟩
 | fuel+1,t,listed,hx=>by
  rcases go_step (ops:=ops) fuel t listed with ⟨h1,h2⟩|⟨i,hi,t',h⟩
  ·refine ⟨0,?_⟩;rw [h2,FX];cases hr:Region.ready .any (lK x y ops) listed with
   | nil=>rfl
   | cons i l =>
    have:=Fa (x:=x) (y:=y) (i:=i) (by rw [hr];exact List.mem_cons_self);rw [h1] at this;cases this
  ·obtain ⟨t2,h2⟩:=vV fuel t' (listed.setIfInBounds i true) (getD_set_true hx);obtain ⟨t3,h3⟩:=uV (fuel:=fuel) (ru (y:=y) hi fun _=>hx) t2;exact ⟨t3,by rw [h,h2,h3]⟩
theorem PZ {x y:Nat} (hxy:x≠y):∀ (fuel t:Nat) (listed:Array Bool),
  (∃ t',Region.linearise.go .any ops fuel t listed []=Region.linearise.go .any (lK x y ops) fuel t' listed []) ∨
  (∃ t',Region.linearise.go .any ops fuel t listed []=Region.linearise.go .any (lK y x ops) fuel t' listed [])
 | 0,t,listed=>.inl ⟨t,rfl⟩
 | fuel+1,t,listed=>by
  rcases go_step (ops:=ops) fuel t listed with ⟨h1,h2⟩|⟨i,hi,t',h⟩
  ·refine .inl ⟨0,?_⟩;rw [h2,FX];cases hr:Region.ready .any (lK x y ops) listed with
   | nil=>rfl
   | cons i l =>
    have:=Fa (x:=x) (y:=y) (i:=i) (by rw [hr];exact List.mem_cons_self);rw [h1] at this;cases this
  ·have hset:∀ j,i=j→(listed.setIfInBounds i true).getD j false=true:=fun j hj=>by
    subst hj;have:=(mem_ready.1 hi).1
    rcases aH i listed.size with h'|h'
    ·simp [h']
    ·simp [bq h'] at this
   by_cases hix:i=x
   ·obtain ⟨t2,h2⟩:=vV (ops:=ops) (x:=x) (y:=y) fuel t' _ (hset x hix);obtain ⟨t3,h3⟩:=uV (fuel:=fuel) (ru (x:=x) (y:=y) hi fun e=>absurd (hix.symm.trans e) hxy) t2;exact .inl ⟨t3,by rw [h,h2,h3]⟩
   ·by_cases hiy:i=y
    ·obtain ⟨t2,h2⟩:=vV (ops:=ops) (x:=y) (y:=x) fuel t' _ (hset y hiy);obtain ⟨t3,h3⟩:=uV (fuel:=fuel) (ru (x:=y) (y:=x) hi fun e=>absurd e hix) t2;exact .inr ⟨t3,by rw [h,h2,h3]⟩
    ·rcases PZ hxy fuel t' (listed.setIfInBounds i true) with ⟨t2,h2⟩|⟨t2,h2⟩
     ·obtain ⟨t3,h3⟩:=uV (fuel:=fuel) (ru (x:=x) (y:=y) hi fun e=>absurd e hiy) t2;exact .inl ⟨t3,by rw [h,h2,h3]⟩
     ·obtain ⟨t3,h3⟩:=uV (fuel:=fuel) (ru (x:=y) (y:=x) hi fun e=>absurd e hix) t2;exact .inr ⟨t3,by rw [h,h2,h3]⟩
structure YO (P:Program) (ops:Array Oper) (Q:Exit→Act→World→Prop) (a:Act) (w:World):Prop where
 out:∀ t,wpOps P ops Q (Region.linearise .any ops t) a w
theorem V8 {id:Nat} {a:Act} {w:World} (hm:P.follows .mixedOrders=true) (h:YO P ops Q a w.drew):(Code.region id ops true).wp P Q a w :=
 wp_region_draw fun t=>by
  simp only [Region.schedule,hm,Bool.true_or,if_true];exact h.out t
theorem R3 {a:Act} {w:World} (x y:Nat) (hxy:x≠y) (h1:YO P (lK x y ops) Q a w) (h2:YO P (lK y x ops) Q a w):YO P ops Q a w:=⟨fun t=>by
 unfold Region.linearise
 rcases PZ (ops:=ops) hxy ops.size t (Array.replicate ops.size false) with ⟨t',h⟩|⟨t',h⟩
 ·rw [h];have:=h1.out t';unfold Region.linearise at this;rw [Ck] at this;exact uF x y _ _ _ this
 ·rw [h];have:=h2.out t';unfold Region.linearise at this;rw [Ck] at this;exact uF y x _ _ _ this⟩
def vQ (l:List Nat) (ops:Array Oper):Bool:=(bI ops.size).all fun i=>match ops[i]? with
 | some o=>o.after.all (fun e=> !Region.binds .any e || (decide (l.idxOf e.on<l.idxOf i)&&decide (e.on<ops.size)))
 | none=>true
theorem WA {l:List Nat} (ho:vQ l ops=true):Led ops:=fun listed hsz hr i hi=>by
 have key:∀ n i,l.idxOf i=n→i<ops.size→listed.getD i true=true:=by
  intro n
  induction n using fD with
  | _ n ih =>
   intro i hn hi;cases hl:listed.getD i true with
   | true=>rfl
   | false =>
    exfalso
    have ho':ops[i]? =some ops[i]:=by simp [hi]
    have hmem:i∈Region.ready .any ops listed:=mem_ready.2 ⟨hl,ops[i],ho',fun e he hb=>by
     unfold vQ at ho;have h1:=List.all_eq_true.1 ho i (List.mem_range.2 hi);simp only [ho'] at h1;have h2:=Array.all_eq_true_iff_forall_mem.1 h1 e he;simp only [hb,Bool.not_true,Bool.false_or,aD,decide_eq_true_eq] at h2;have h3:=ih _ zo e.on rfl h2.2;have:e.on<listed.size:=by omega
     simpa [this] using h3⟩
    rw [hr] at hmem;cases hmem
 exact key _ i rfl hi
def Jk (ops:Array Oper) (is:List (K × Nat)):Bool :=
 Region.noSelect ops&&vQ (is.map (·.2)) ops&&iY ops is&&decide (is.map (·.2)).Nodup&&decide (is.length≤ops.size)&&(bI ops.size).all (fun i=>(is.map (·.2)).contains i)
end Go.SW
namespace Go.SW
open Go Go.RowKit
variable {P:Program} {ops:Array Oper} {Q:Exit→Act→World→Prop}
inductive St|one (k:K) (i:Nat)|two (i j:Nat)
def orders:List St→List (List (K × Nat))
 | []=>[[]]
 | .one k i::l=>(orders l).map ((k,i):: ·)
 | .two i j::l=>(orders l).map (fun m=>(.ext,i)::(.ext,j)::m)++(orders l).map (fun m=>(.ext,j)::(.ext,i)::m)
variable {o:Oper} {i:Nat} {is:List St} {a:Act} {w:World} {N:Nat} {A:List Nat}
end Go.SW
