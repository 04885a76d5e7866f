/- Lemmas for the proof. No condition. -/
import Derived.Test.YtfhappbmgghgdaaGreatDoorNB01
import Derived.Test.YtfhappbmgghgdaaGreatDoorNB02
import Derived.RangeFuncCalls
import Derived.OrdersIn
set_option linter.unusedVariables false
set_option linter.unusedSimpArgs false
set_option maxRecDepth 100000
set_option maxHeartbeats 16000000
namespace Go.Mem
open Go Go.RowKit Go.SW Go.Num Go.Fra
abbrev Rl (α:Type):=World→α→List Value→Prop
def Stay {α:Type} (m:List TypeId) (R:Rl α):Prop:=∀ w w' a c,Keep m w w'→R w a c→R w' a c
theorem Stay.sub {α:Type} {m l:List TypeId} {R:Rl α} (h:Stay m R) (k:∀ T,T∈l→T∈m):Stay l R:=fun w w' a c hk hr=>h w w' a c (hk.mono k) hr
theorem Stay.nil {α:Type} {m:List TypeId} {R:Rl α} (h:Stay m R):Stay [] R:=h.sub (fun _ h=>by cases h)
def Grows {α:Type} (w:World) (B:Nat) (T:TypeId) (s:Nat) (R:Rl α) (v:Value) (l:List α):Prop :=
 ∃ xs:List (List Value),w.ownsRow B T s v l.length xs.flatten∧All2 (fun a c=>R w a c∧c.length=s) l xs
theorem Grows.nil {α:Type} (w:World) (B:Nat) (T:TypeId) (s:Nat) (R:Rl α):Grows w B T s R (.slice none 0 0) []:=⟨[],World.ownsRow_nil _ _ _ _,All2.nil⟩
theorem Grows.slice {α:Type} {w:World} {B:Nat} {T:TypeId} {s:Nat} {R:Rl α} {v:Value} {l:List α} (h:Grows w B T s R v l):∃ a c,v= .slice a l.length c:=by
 obtain ⟨xs,⟨h1,⟨rfl,h2⟩|⟨g,cap,cur,rfl, -⟩⟩, -⟩:=h
 ·exact ⟨_,_,by rw [h2]⟩
 ·exact ⟨_,_,rfl⟩
theorem Grows.at {α:Type} {w:World} {B:Nat} {T:TypeId} {s n:Nat} {R:Rl α} {v:Value} {l:List α} (h:Grows w B T s R v l) (hn:l.length=n):∃ a c,v= .slice a n c:=hn ▸ h.slice
theorem Grows.kept {α:Type} {w w':World} {B:Nat} {T:TypeId} {s:Nat} {R:Rl α} {v:Value} {l:List α} {m:List TypeId} (h:Grows w B T s R v l) (k:Keep m w w') (hT:T∉m) (hR:Stay m R):Grows w' B T s R v l:=by
 obtain ⟨xs,h1,h2⟩:=h
 exact ⟨xs,owns_kept h1 k hT,h2.mono fun _ _ h=>⟨hR _ _ _ _ k h.1,h.2⟩⟩
theorem Grows.later {α:Type} {w w':World} {B:Nat} {T:TypeId} {s:Nat} {R:Rl α} {v:Value} {l:List α} (h:Grows w B T s R v l) (hb:Below w.heap.size w w') (hR:Stay [] R):Grows w' B T s R v l:=h.kept (Keep.of_below hb) zi hR
theorem wpList_grow {P:Program} {ops:Array Oper} {rest:List Oper} {o:Oper} {a:Act} {Q:Exit→Act→World→Prop} {w w0:World} (hgd:o.guard=none) (s x:Operand) (t:TypeId)
  (ho:o.op= .call { callee:=.builtin .append,args:=#[s,x],argTypes:=#[t,t] }) (e:TypeId) (i:TypeInfo) (z:Value) (size bytes:Nat) (ht:P.underlying t=some (.slice e)) (hi:P.info? e=some i) (hz:i.zero=some z)
  (hsize:i.size=size) (hby:i.bytes=bytes) (hzs:z.cells.size=size) (hsz:0<size) {α:Type} (R:Rl α) (v:Value) (l:List α) (hs:a.eval s=v) (hG:Grows w w0.heap.size e size R v l) (hb:Below w0.heap.size w0 w)
  (b:Nat) (c:List Value) (y:α) (hx:a.eval x= .slice (some ⟨b,0,none⟩) 1 1) (hbx:Box w b c.toArray e) (hc:c.length=size) (h1:∀ u∈c,u.oneCell'=true) (hy:R w y c) (hR:Stay [e] R) (hn:l.length≤1000000) (hbytes:bytes≤1000)
  (h:∀ v' w',Grows w' w0.heap.size e size R v' (l++[y])→Below w0.heap.size w0 w'→Keep [e] w w'→wpList P ops Q rest (a.put o.dst v') w'):wpList P ops Q (o::rest) a w:=by
 obtain ⟨xs,hown,hall⟩:=hG
 refine wpList_append_own w hgd s x t ho w0.heap.size e i z size bytes ht hi hz hsize hby hzs hsz v l.length xs.flatten hs hown ⟨b,0,none⟩ 1 1 c hx (by rw [hc,Nat.one_mul]) (fun j u hu=>?_) h1 (by unfold maxLen;omega) ?_ hb.size (fun v' w' hown' hg _=>?_)
 ·rw [Addr.add_lit,hbx.cell,Nat.zero_add,List.getElem?_toArray,hu]
 ·have:=Nat.mul_le_mul (show l.length+1≤1000001 by omega) hbytes
  omega
 ·have hk:Keep [e] w w':=Keep.grown hown hg
  refine h v' w' ⟨xs++[c],?_,(All2.mono hall fun a c h=>⟨hR _ _ _ _ hk h.1,h.2⟩).snoc ⟨hR _ _ _ _ hk hy,hc⟩⟩ (hb.grown hg hb.size fun r hr=>?_) hk
  ·rw [List.length_append,List.flatten_append]
   simpa using hown'
  ·obtain ⟨-, ⟨rfl, -⟩|⟨g,cap,cur,rfl,hg1, -⟩⟩:=hown
   ·cases hr
   ·simp only [Value.ownBlock,Option.some.injEq] at hr
    omega
def SlV {α:Type} (w:World) (T:TypeId) (s:Nat) (R:Rl α) (v:Value) (l:List α):Prop :=
 ∃ a cap,v= .slice a l.length cap∧l.length≤cap∧cap≤9223372036854775807∧(a=none→cap=0) ∧
  ∀ ad,a=some ad→ad.spot=none∧∃ arr,Box w ad.block arr T∧∀ i (h:i<l.length),∃ c,R w l[i] c∧c.length=s∧∀ j,j<s→arr[ad.off+i*s+j]? =c[j]?
theorem SlV.kept {α:Type} {w w':World} {T:TypeId} {s:Nat} {R:Rl α} {v:Value} {l:List α} {m:List TypeId} (h:SlV w T s R v l) (k:Keep m w w') (hT:T∉m) (hR:Stay m R):SlV w' T s R v l:=by
 obtain ⟨a,cap,h1,h2,h3,h4,h5⟩:=h
 refine ⟨a,cap,h1,h2,h3,h4,fun ad had=>?_⟩
 obtain ⟨h6,arr,h7,h8⟩:=h5 ad had
 refine ⟨h6,arr,k _ _ _ hT h7,fun i hi=>?_⟩
 obtain ⟨c,k1,k2,k3⟩:=h8 i hi
 exact ⟨c,hR _ _ _ _ k k1,k2,k3⟩
theorem SlV.later {α:Type} {w w':World} {T:TypeId} {s:Nat} {R:Rl α} {v:Value} {l:List α} (h:SlV w T s R v l) (hb:Below w.heap.size w w') (hR:Stay [] R):SlV w' T s R v l:=h.kept (Keep.of_below hb) zi hR
theorem SlV.slice {α:Type} {w:World} {T:TypeId} {s:Nat} {R:Rl α} {v:Value} {l:List α} (h:SlV w T s R v l):∃ a c,v= .slice a l.length c:=by
 obtain ⟨a,c,h1, -⟩:=h
 exact ⟨a,c,h1⟩
theorem SlV.read {α:Type} {w:World} {T:TypeId} {s:Nat} {R:Rl α} {v:Value} {l:List α} (h:SlV w T s R v l) :
  ∃ a cap,v= .slice a l.length cap∧l.length≤cap∧cap≤9223372036854775807∧∀ k (_:k<l.length),∃ b off c,a=some ⟨b,off,none⟩∧b<w.heap.size∧R w l[k] c∧c.length=s∧∀ j,j<s→w.cell? ⟨b,off+k*s+j,none⟩=c[j]? :=by
 obtain ⟨a,cap,h1,h2,h3,h4,h5⟩:=h
 refine ⟨a,cap,h1,h2,h3,fun k hk=>?_⟩
 cases a with
 | none=>have:=h4 rfl;omega
 | some ad =>
  obtain ⟨h6,arr,h7,h8⟩:=h5 ad rfl
  obtain ⟨b,off,sp⟩:=ad
  simp only at h6
  subst h6
  obtain ⟨c,k1,k2,k3⟩:=h8 k hk
  exact ⟨b,off,c,rfl,h7.lt,k1,k2,fun j hj=>(h7.cell _).trans (k3 j hj)⟩
theorem flat_at {xs:List (List Value)} {s:Nat} (h:∀ c∈xs,c.length=s):∀ {i:Nat} (hi:i<xs.length) {j:Nat},j<s→xs.flatten[i*s+j]? =xs[i][j]? :=by
 induction xs with
 | nil=>intro i hi;cases hi
 | cons x t ih =>
  intro i hi j hj
  have hx:=h x zi
  rw [List.flatten_cons]
  cases i with
  | zero =>
   rw [Nat.zero_mul,Nat.zero_add,List.getElem?_append_left zo]
   rfl
  | succ i =>
   rw [List.getElem?_append_right (by rw [hx,Nat.succ_mul];omega),hx]
   rw [show (i+1)*s+j - s=i*s+j by rw [Nat.succ_mul];omega]
   exact ih (fun c hc=>h c (by simp [hc])) (by simpa using hi) hj
theorem all2_all {α β:Type} {R:α→β→Prop} {S:β→Prop} {xs:List α} {ys:List β} (h:All2 R xs ys) (k:∀ a b,R a b→S b):∀ b∈ys,S b:=fun b hb=>by
 obtain ⟨i,hi,rfl⟩:=List.getElem_of_mem hb
 exact k _ _ (h.2 i (by have:=h.1;omega) hi)
theorem Grows.slV {α:Type} {w:World} {B:Nat} {T:TypeId} {s:Nat} {R:Rl α} {v:Value} {l:List α} (h:Grows w B T s R v l):SlV w T s R v l:=by
 obtain ⟨xs,⟨h1,⟨rfl,h2⟩|⟨g,cap,cur,rfl,h3,h4,h5,h6,h7,h8⟩⟩,hall⟩:=h
 ·have:l=[]:=List.length_eq_zero_iff.1 h2
  subst this
  exact ⟨none,0,rfl,Nat.le_refl _,by omega,fun _=>rfl,fun _ h=>by cases h⟩
 ·unfold maxLen at h6
  refine ⟨_,cap,rfl,h5,h6,(fun h=>by cases h),fun ad had=>?_⟩
  cases had
  refine ⟨rfl,cur,h4,fun i hi=>?_⟩
  have hix:i<xs.length:=by have:=hall.1;omega
  obtain ⟨k1,k2⟩:=hall.2 i hi hix
  refine ⟨xs[i],k1,k2,fun j hj=>?_⟩
  have e:=flat_at (all2_all (S:=fun c=>c.length=s) hall fun _ _ h=>h.2) hix hj
  rw [Nat.zero_add,← Array.getElem?_toList,← e,← h8]
  have hlt:i*s+j<l.length*s:=by
   have:=Nat.mul_le_mul_right s (show i+1≤l.length by omega)
   rw [Nat.succ_mul] at this
   omega
  rw [List.getElem?_take_of_lt hlt]
theorem flat_len {xs:List (List Value)} {s:Nat} (h:∀ c∈xs,c.length=s):xs.flatten.length=xs.length*s:=by
 induction xs with
 | nil=>simp
 | cons x t ih =>
  rw [List.flatten_cons,List.length_append,h x zi,ih fun c hc=>h c (by simp [hc]),List.length_cons,Nat.succ_mul]
  omega
theorem SlV.src {α:Type} {w:World} {T:TypeId} {s n c b off:Nat} {R:Rl α} {l:List α} (h:SlV w T s R (.slice (some ⟨b,off,none⟩) n c) l) (hl:l.length=n) (hs:0<s) (lo k:Nat) (hk:lo+k≤n) :
  ∃ cs:List (List Value),All2 (fun a c=>R w a c∧c.length=s) ((l.drop lo).take k) cs∧∀ j u,cs.flatten[j]? =some u→w.cell? ((⟨b,off+lo*s,none⟩:Addr).add j)=some u:=by
 obtain ⟨a',cap',e, -, -, hat⟩:=h.read
 simp only [Value.slice.injEq] at e
 obtain ⟨rfl, -, -⟩:=e
 have hx:∀ i:Fin k,∃ c:List Value,R w (l[lo+i.1]'zo) c∧c.length=s∧∀ j,j<s→w.cell? ⟨b,off+(lo+i.1)*s+j,none⟩=c[j]? :=fun i=>by
  obtain ⟨b',off',c,e, -, k1,k2,k3⟩:=hat (lo+i.1) zo
  simp only [Option.some.injEq,Addr.mk.injEq,and_true] at e
  obtain ⟨rfl,rfl⟩:=e
  exact ⟨c,k1,k2,k3⟩
 refine ⟨List.ofFn fun i=>(hx i).choose,⟨by simp;omega,fun i hi hi'=>?_⟩,fun j u hu=>?_⟩
 ·have hik:i<k:=by simpa using hi'
  have:=(hx ⟨i,hik⟩).choose_spec
  simp only [List.getElem_take,List.getElem_drop,List.getElem_ofFn]
  exact ⟨this.1,this.2.1⟩
 ·have hlen:∀ c∈(List.ofFn fun i=>(hx i).choose),c.length=s:=fun c hc=>by
   obtain ⟨i,rfl⟩:=List.mem_ofFn.1 hc
   exact (hx i).choose_spec.2.1
  have hj:j<k*s:=by
   have:=(List.getElem?_eq_some_iff.1 hu).1
   rw [flat_len hlen,List.length_ofFn] at this
   exact this
  have hi:j / s<k:=by rw [Nat.div_lt_iff_lt_mul hs];exact hj
  have hr:j%s<s:=Nat.mod_lt _ hs
  have hjd:j / s*s+j%s=j:=by rw [Nat.mul_comm];exact Nat.div_add_mod j s
  rw [← hjd,flat_at hlen (by simpa using hi) hr] at hu
  have hsp:=(hx ⟨j / s,hi⟩).choose_spec.2.2 (j%s) hr
  simp only [List.getElem_ofFn] at hu
  have hj2:off+lo*s+j=off+(lo+j / s)*s+j%s:=by rw [Nat.add_mul];omega
  rw [Addr.add_lit,hj2]
  exact hsp.trans hu
def RFr:Rl Fr:=fun _ f c=>c=[.string f.n,.string f.d]
theorem RFr.stay (m:List TypeId):Stay m RFr:=fun _ _ _ _ _ h=>h
theorem SlV.frs {w:World} {T:TypeId} {v:Value} {l:List Fr} (h:SlV w T 2 RFr v l):Frs w T v l:=by
 obtain ⟨a,cap,h1,h2,h3,h4,h5⟩:=h
 refine ⟨a,cap,h1,h2,h3,h4,fun ad had=>?_⟩
 obtain ⟨h6,arr,h7,h8⟩:=h5 ad had
 refine ⟨h6,arr,h7,fun i hi=>?_⟩
 obtain ⟨c,rfl,k2,k3⟩:=h8 i hi
 exact ⟨k3 0 zo,k3 1 zo⟩
def RRow {α:Type} (S:World→Value→List α→Prop):Rl (List α):=fun w l c=>∃ v,c=[v]∧S w v l
theorem SlV.matV {w:World} {v:Value} {m:List (List Fr)} (h:SlV w 29 1 (RRow fun w v l=>Frs w 59 v l) v m):MatV w v m:=by
 obtain ⟨a,cap,h1,h2,h3,h4,h5⟩:=h
 cases a with
 | none =>
  have hm:m=[]:=List.length_eq_zero_iff.1 (by have:=h4 rfl;omega)
  subst hm
  have:=h4 rfl
  subst this h1
  exact ⟨[],Row.nil _ _,rfl,fun i hi=>by cases hi⟩
 | some ad =>
  obtain ⟨h6,arr,h7,h8⟩:=h5 ad rfl
  obtain ⟨b,off,sp⟩:=ad
  simp only at h6
  subst h6
  have hx:∀ i:Fin m.length,∃ x,arr[off+i.1]? =some x∧Frs w 59 x m[i.1]:=fun i=>by
   obtain ⟨c,⟨x,rfl,k1⟩,k2,k3⟩:=h8 i.1 i.2
   have:=k3 0 zo
   rw [Nat.mul_one,Nat.add_zero] at this
   exact ⟨x,this,k1⟩
  refine ⟨List.ofFn fun i=>(hx i).choose,?_,by simp,fun i hi hi'=>?_⟩
  ·rw [h1]
   refine Row.mk zi (by simpa using h2) h3 h7 fun i hi=>?_
   have hi':i<m.length:=by simpa using hi
   rw [(hx ⟨i,hi'⟩).choose_spec.1]
   simp
  ·have:=(hx ⟨i,hi'⟩).choose_spec.2
   simpa using this
end Go.Mem
namespace Go.SW
open Go Go.RowKit
variable {P:Program} {ops:Array Oper} {Q:Exit→Act→World→Prop} {o:Oper} {i:Nat} {is:List (K × Nat)} {a:Act} {w:World} {N:Nat} {A:List Nat}
theorem walk_pureG (ho:ops[i]? =some o) (hw:Region.wanted o (yielded ops a.tmps)=true) (h:∀ J:Act→Prop,(∀ a,walk P ops Q N is A a w→J a)→∃ v,(∀ w',(execOp a.eval o).run P w'= .ok (.value v) w')∧J (a.put o.dst v)):walk P ops Q N ((.pure,i)::is) A a w:=by
 refine walk_pure ho fun J hJ=>?_
 rw [if_pos hw]
 exact h J hJ
theorem walk_loadG {T:TypeId} {x:Operand} {p:Addr} (ho:ops[i]? =some o) (hw:Region.wanted o (yielded ops a.tmps)=true) (hop:o.op= .load T x) (hx:a.eval x= .pointer (some p))
  (h:∀ J:Value→Prop,(∀ v,walk P ops Q N is A (a.put o.dst v) w→J v)→(w.cell? p).isSome=true∧∃ v,(loadVar T p).run P w= .ok v w∧J v):walk P ops Q N ((.read,i)::is) A a w:=by
 unfold walk
 simp only [ho,hw,if_true]
 obtain ⟨h1,v,h2,h3⟩:=h (fun v=>walk P ops Q N is A (a.put o.dst v) w) fun _ h=>h
 refine ⟨v,fun w' hb=>?_,h3⟩
 simp only [execOp,hop,hx,Instr.loadAt,Instr.sureAddr,Sem.run_bind,Sem.run_pure,Result.andThen_ok,loadVar_later hb h1 h2]
theorem walk_extG (ho:ops[i]? =some o) (hw:Region.wanted o (yielded ops a.tmps)=true) (h:∀ w',Below w.heap.size w w'→∀ J:Act→World→Prop,(∀ a' w'',Below w'.heap.size w' w''→walk P ops Q N is A a' w''→J a' w'')→o.wp P a w' J Q):walk P ops Q N ((.ext,i)::is) A a w:=by
 unfold walk
 simp only [ho,hw,if_true]
 exact fun w' hb=>h w' hb _ fun a' w'' h1 h2=>⟨h1,h2⟩
def K.soft:K→Bool
 | .pure=>true
 | .read=>true
 | .ext=>true
 | _=>false
theorem walk_skip {k:K} (hk:k.soft=true) (ho:ops[i]? =some o) (hw:Region.wanted o (yielded ops a.tmps)=false) (h:∀ J:Act→Prop,(∀ a,walk P ops Q N is A a w→J a)→J (a.put o.dst undef)):walk P ops Q N ((k,i)::is) A a w:=by
 have h':=h (fun a=>walk P ops Q N is A a w) fun _ h=>h
 cases k with
 | pure=>unfold walk;simp only [ho,hw];exact h'
 | read=>unfold walk;simp only [ho,hw];exact h'
 | ext=>unfold walk;simp only [ho,hw];exact h'
 | alloc _ _=>cases hk
 | fin=>cases hk
end Go.SW
namespace Go.SW
open Go Go.RowKit
structure Wk (P:Program) (ops:Array Oper) (Q:Exit→Act→World→Prop) (N:Nat) (is:List (K × Nat)) (A:List Nat) (a:Act) (w:World):Prop where
 out:walk P ops Q N is A a w
variable {P:Program} {ops:Array Oper} {Q:Exit→Act→World→Prop} {o:Oper} {i:Nat} {is:List (K × Nat)} {a:Act} {w:World} {N:Nat} {A:List Nat}
theorem wk_nil (h:∀ w',Below w.heap.size w w'→Q .normal a w'):Wk P ops Q N [] A a w:=⟨walk_nil h⟩
theorem wk_skip {k:K} (hk:k.soft=true) (ho:ops[i]? =some o) (hw:Region.wanted o (yielded ops a.tmps)=false) (h:∀ J:Act→Prop,(∀ a,Wk P ops Q N is A a w→J a)→J (a.put o.dst undef)):Wk P ops Q N ((k,i)::is) A a w :=
 ⟨walk_skip hk ho hw fun J hJ=>h J fun a ha=>hJ a ha.out⟩
theorem wk_pure (ho:ops[i]? =some o) (hw:Region.wanted o (yielded ops a.tmps)=true) (h:∀ J:Act→Prop,(∀ a,Wk P ops Q N is A a w→J a)→∃ v,(∀ w',(execOp a.eval o).run P w'= .ok (.value v) w')∧J (a.put o.dst v)):Wk P ops Q N ((.pure,i)::is) A a w :=
 ⟨walk_pureG ho hw fun J hJ=>h J fun a ha=>hJ a ha.out⟩
theorem wk_load {T:TypeId} {x:Operand} {p:Addr} (ho:ops[i]? =some o) (hw:Region.wanted o (yielded ops a.tmps)=true) (hop:o.op= .load T x) (hx:a.eval x= .pointer (some p))
  (h:∀ J:Value→Prop,(∀ v,Wk P ops Q N is A (a.put o.dst v) w→J v)→(w.cell? p).isSome=true∧∃ v,(loadVar T p).run P w= .ok v w∧J v):Wk P ops Q N ((.read,i)::is) A a w :=
 ⟨walk_loadG ho hw hop hx fun J hJ=>h J fun v hv=>hJ v hv.out⟩
theorem wk_ext (ho:ops[i]? =some o) (hw:Region.wanted o (yielded ops a.tmps)=true) (h:∀ w',Below w.heap.size w w'→∀ J:Act→World→Prop,(∀ a' w'',Below w'.heap.size w' w''→Wk P ops Q N is A a' w''→J a' w'')→o.wp P a w' J Q):Wk P ops Q N ((.ext,i)::is) A a w :=
 ⟨walk_extG ho hw fun w' hb J hJ=>h w' hb J fun a' w'' hb' hk=>hJ a' w'' hb' hk.out⟩
theorem wk_fin (l:List Oper) (hl:(i::is.map (·.2)).map (ops[·]?)=l.map some) (h:∀ w',Below w.heap.size w w'→wpList P ops Q l a w'):Wk P ops Q N ((.fin,i)::is) A a w:=⟨walk_fin l hl h⟩
theorem wk_alloc {cs:Array Value} {T:TypeId} (ho:ops[i]? =some o) (h:∀ b w',Below w.heap.size w w'→N≤b→b<w'.heap.size→b∉A→w'.heap[b]? =some (.cells cs T (0,0))→Wk P ops Q N is (b::A) (a.put o.dst (.pointer (some ⟨b,0,none⟩))) w'):Wk P ops Q N ((.alloc cs T,i)::is) A a w :=
 ⟨walk_alloc ho fun b w' h1 h2 h3 h4 h5=>(h b w' h1 h2 h3 h4 h5).out⟩
theorem wk_len {t:TypeId} {x:Operand} {p:Option Addr} {n c:Nat} (ho:ops[i]? =some o) (hw:Region.wanted o (yielded ops a.tmps)=true) (hop:o.op= .call { callee:=.builtin .len,args:=#[x],argTypes:=#[t] }) (hx:a.eval x= .slice p n c) (ht:P.underlying t=some (.slice (P.elem t)))
  (h:∀ J:Act→Prop,(∀ a,Wk P ops Q N is A a w→J a)→J (a.put o.dst (.int .i64 n))):Wk P ops Q N ((.pure,i)::is) A a w :=
 wk_pure ho hw fun J hJ=>⟨.int .i64 n,fun w'=>by simp [execOp,hop,hx,resolve,invoke,builtin,Sem.run_bind,run_len_slice w' _ _ _ _ _ ht,goInt],h J hJ⟩
end Go.SW
namespace Go.Proofs.verdigrislaw05
open Go Go.RowKit Go.SW Go.Num Go.Mem Go.Proofs Go.Dec Go.Fra
def sla (s:ByteArray):Int:=Lib.indexByte s.data.toList 47
theorem index_lt:∀ (l:List UInt8),Lib.indexByte l 47= -1∨(0≤Lib.indexByte l 47∧Lib.indexByte l 47<l.length)
 | []=>.inl rfl
 | b::l=>by
  have:=index_lt l
  unfold Lib.indexByte
  split
  ·right;simp
  ·split
   ·left;rfl
   ·rename_i h
    right
    have h2:¬ Lib.indexByte l 47= -1:=by simpa using h
    simp only [List.length_cons]
    omega
def cutS (s:ByteArray):ByteArray × ByteArray × Bool:=if sla s<0 then (s,⟨#[]⟩,false) else (s.extract 0 (sla s).toNat,s.extract ((sla s).toNat+1) s.size,true)
def qcut (s:ByteArray):Fr:=⟨(cutS s).1,if (cutS s).2.2 then (cutS s).2.1 else ⟨#[49]⟩⟩
theorem index_ok (s:ByteArray) (hs:(([47]:List UInt8) == s.toList)=false) (w:World) :
  Calls Tryz.prog 215 #[.string s,.string ⟨#[47]⟩] w (fun e w'=>e= .returned (.int .i64 (sla s))∧w'=w):=by
 have H:=zh (fun W=>Tryz.stringslite_IndexByte s 47 W)
 go_enter Tryz.func215,Tryz.ntmps215
 go_wp2_with fail
 refine (H.out _).mono ?_
 rintro e w1 ⟨rfl,rfl⟩
 go_wp2_with fail
 go_ret
 exact ⟨rfl,rfl⟩
theorem litecut_ok (s:ByteArray) (hs:(([47]:List UInt8) == s.toList)=false) (hz:s.size≤1000000) (w:World) :
  Calls Tryz.prog 159 #[.string s,.string ⟨#[47]⟩] w (fun e w'=>e= .returned (.tuple #[.string (cutS s).1,.string (cutS s).2.1,.bool (cutS s).2.2])∧Below w.heap.size w w'):=by
 have H:=zh (fun W=>index_ok s hs W)
 unfold cutS
 have hl:=index_lt s.data.toList
 have hsz:s.data.toList.length=s.size:=by rw [Array.length_toList];rfl
 rw [hsz] at hl
 change sla s= -1∨(0≤sla s∧sla s<s.size) at hl
 rcases hl with hl|⟨h0,h1⟩
 ·rw [hl] at H ⊢
  rw [if_pos zo]
  go_enter Tryz.func159,Tryz.ntmps159
  go_wp2_with fail
  refine (H.out _).mono ?_
  rintro e w1 ⟨rfl,rfl⟩
  go_wp2_with fail
  refine bodyPost_ret (v:=.tuple #[.string s,.string ⟨#[]⟩,.bool false]) (by simp [results,Tryz.results159,go_sem]) rfl ⟨rfl,Below.refl _ _⟩
 ·obtain ⟨k,hk⟩:∃ k:Nat,sla s=(k:Int):=⟨(sla s).toNat,by omega⟩
  rw [hk] at H h1 ⊢
  rw [if_neg zo]
  simp only [Int.toNat_natCast]
  have hk2:k≤s.size:=by omega
  obtain ⟨k1,hk1⟩:∃ y:Nat,y=k+1:=⟨_,rfl⟩
  have hk3:k1≤s.size:=by omega
  have EK:Hid ((k:Int)+1=(k1:Int)):=zh zo
  rw [← hk1]
  have w1:IntKind.i64.wrap ((k:Int)+1)=((k+1:Nat):Int):=by unfold IntKind.wrap;simp [IntKind.bits,IntKind.signed];omega
  clear hk h0 h1 hk1
  go_enter Tryz.func159,Tryz.ntmps159
  go_wp2_with fail
  refine (H.out _).mono ?_
  rintro e w1 ⟨rfl,rfl⟩
  go_wp2_with fail
  refine wp_region_walk [(.pure,0),(.pure,1),(.pure,2),(.pure,3),(.pure,4),(.pure,5),(.pure,6),(.pure,7),(.pure,8),(.fin,9),(.fin,10),(.fin,11)] zk zk zR zP ?_
  refine Wk.out ?_
  (iterate 8 (first|(apply wk_skip;(rfl);(rfl);(rfl);(intro J hJ;go_simp;(with_reducible refine hJ _ ?_);clear hJ J))|(apply wk_len;(rfl);(rfl);(rfl);(rfl);(exact zk);(intro J hJ;go_simp;(with_reducible refine hJ _ ?_);clear hJ J))|(apply wk_pure;(rfl);(rfl);(intro J hJ;go_simp;(with_reducible refine hJ _ ?_);clear hJ J))|(apply wk_load;(rfl);(rfl);(rfl);(rfl);(intro J hJ;go_simp;(with_reducible refine hJ _ ?_);clear hJ J;try go_simp))))
  rw [EK.out]
  (iterate 1 (first|(apply wk_skip;(rfl);(rfl);(rfl);(intro J hJ;go_simp;(with_reducible refine hJ _ ?_);clear hJ J))|(apply wk_len;(rfl);(rfl);(rfl);(rfl);(exact zk);(intro J hJ;go_simp;(with_reducible refine hJ _ ?_);clear hJ J))|(apply wk_pure;(rfl);(rfl);(intro J hJ;go_simp;(with_reducible refine hJ _ ?_);clear hJ J))|(apply wk_load;(rfl);(rfl);(rfl);(rfl);(intro J hJ;go_simp;(with_reducible refine hJ _ ?_);clear hJ J;try go_simp))))
  refine wk_fin [_,_,_] rfl (fun wf hbf=>?_)
  go_wp2_with fail
  refine bodyPost_ret (v:=.tuple #[.string (s.extract 0 k),.string (s.extract k1 s.size),.bool true]) (by simp [results,Tryz.results159,go_sem]) rfl ⟨rfl,belA⟩
theorem cut_ok (s:ByteArray) (hs:(([47]:List UInt8) == s.toList)=false) (hz:s.size≤1000000) (w:World) :
  Calls Tryz.prog 101 #[.string s,.string ⟨#[47]⟩] w (fun e w'=>e= .returned (.tuple #[.string (cutS s).1,.string (cutS s).2.1,.bool (cutS s).2.2])∧Below w.heap.size w w'):=by
 have H:=zh (fun W=>litecut_ok s hs hz W)
 generalize cutS s=c at *
 obtain ⟨c1,c2,c3⟩:=c
 go_enter Tryz.func101,Tryz.ntmps101
 go_wp2_with fail
 refine (H.out _).mono ?_
 rintro e w1 ⟨rfl,hb⟩
 go_wp2_with fail
 refine bodyPost_ret (v:=.tuple #[.string c1,.string c2,.bool c3]) (by simp [results,Tryz.results101,go_sem]) rfl ⟨rfl,hb⟩
theorem infoF5:(Tryz.prog.info? 59).map (fun i=>(i.zero,i.size,i.bytes))=some (some (.agg #[.string ⟨#[]⟩,.string ⟨#[]⟩]),2,32):=by kernel_rfl
def Txt (s:ByteArray):Prop:=(([47]:List UInt8) == s.toList)=false∧s.size≤1000000
theorem q_ok (v:Value) (l:List ByteArray) (w:World) (h:Row w 9 v (l.map Value.string)) (hl:l.length≤1000) (ht:∀ s∈l,Txt s) :
  Calls Tryz.prog 48 #[v] w (fun e w'=>∃ v',e= .returned v'∧Below w.heap.size w w'∧Frs w' 59 v' (l.map qcut)):=by
 obtain ⟨i0,hi,hz0,hz1,hz2⟩:=info_parts infoF5
 have HC:Hid (∀ k (hk:k<l.length) W,Calls Tryz.prog 101 #[.string l[k],.string ⟨#[47]⟩] W (fun e w'=>e= .returned (.tuple #[.string (cutS l[k]).1,.string (cutS l[k]).2.1,.bool (cutS l[k]).2.2])∧Below W.heap.size W w')):=zh fun k hk W=>cut_ok _ (ht _ (List.getElem_mem _)).1 (ht _ (List.getElem_mem _)).2 W
 have H:Hid (∃ a cap,v= .slice a l.length cap∧∀ k (hk:k<l.length),∃ b off,a=some ⟨b,off,none⟩∧b<w.heap.size∧w.cell? ⟨b,off+k,none⟩=some (.string l[k])):=zh (by
  rcases h.cases with ⟨rfl,h0⟩|⟨b,off,cap,arr,rfl,k1,k2,k3,k4⟩
  ·have:l=[]:=by simpa using h0
   subst this
   exact ⟨none,0,rfl,fun k hk=>by cases hk⟩
  ·exact ⟨_,cap,by simp,fun k hk=>⟨b,off,rfl,k3.lt,by
    have:=(k3.cell (off+k)).trans (k4 k (by simpa using hk))
    simpa using this⟩⟩)
 obtain ⟨a,cap,rfl,hread⟩:=H.out
 have HR:=zh hread
 clear h ht hread H
 go_enter Tryz.func48,Tryz.ntmps48
 go_wp2_with fail
 go_loopw [3,11] (fun ov iv wr=>∃ k:Nat,iv= .int .i64 (k:Int)∧k≤l.length∧Hid (Grows wr w.heap.size 59 2 RFr ov ((l.map qcut).take k))∧Below w.heap.size w wr) (fun _ iv _=>l.length - (intOf iv).toNat)
 case atStart=>exact ⟨0,rfl,by omega,zh (Grows.nil _ _ _ _ _),Below.refl _ _⟩
 case round =>
  obtain ⟨k,rfl,hk,HG,hb⟩:=hrel
  rcases Nat.lt_or_ge k l.length with hlt|hge
  ·obtain ⟨ov,cv,rfl⟩:=HG.out.at (n:=k) (by simp;omega)
   obtain ⟨b,off,rfl,hbl,hx⟩:=HR.out k hlt
   have hc3:=(hb.cell (p:=⟨b,off+k,none⟩) hbl).trans hx
   have HCk:=zh (HC.out k hlt)
   have HQ:Hid ((l.map qcut).take (k+1)=(l.map qcut).take k++[⟨(cutS l[k]).1,if (cutS l[k]).2.2 then (cutS l[k]).2.1 else ⟨#[49]⟩⟩]):=zh (by rw [List.take_succ_eq_append_getElem (by simpa using hlt),List.getElem_map];rfl)
   have HB:=zh hb
   clear hx hb
   generalize cutS l[k]=c at *
   generalize l[k]=s at *
   obtain ⟨c1,c2,c3⟩:=c
   simp only at HQ
   cases c3 with
   | true =>
    simp only [if_true] at HQ
    go_wp2_with fail
    refine (HCk.out _).mono ?_
    rintro e w2 ⟨rfl,hb2⟩
    have HB2:=zh (Bt HB.out hb2)
    replace HG:=zh (HG.out.later hb2 (RFr.stay _))
    clear hb2
    go_wp2_with (at_builtin;refine wpList_grow (w0:=w) rfl (.tmp 23) (.tmp 27) 29 rfl 59 i0 (.agg #[.string ⟨#[]⟩,.string ⟨#[]⟩]) 2 32 Tryz.underlying29 hi hz0 hz1 hz2 rfl zd RFr _ ((l.map qcut).take k) rfl (HG.out.later belA (RFr.stay _)) (Bt HB2.out belA) _ [.string c1,.string c2] ⟨c1,c2⟩ rfl (Box.new _ _ _) rfl ?c1 rfl (RFr.stay _) ?c2 zo ?_)
    case c1=>intro u hu;simp only [List.mem_cons,List.not_mem_nil,or_false] at hu;rcases hu with rfl|rfl<;>rfl
    case c2=>simp;omega
    intro v' w3 hg hb3 _
    have HG2:Hid (Grows w3 w.heap.size 59 2 RFr v' ((l.map qcut).take (k+1))):=zh (by rw [HQ.out];exact hg)
    clear hg HG HB2
    go_wp2_with fail
    go_roundw
    case rel=>exact ⟨k+1,by go_num,by omega,HG2,hb3⟩
    case measure=>exact zM
   | false =>
    simp only [Bool.false_eq_true,if_false] at HQ
    go_wp2_with fail
    refine (HCk.out _).mono ?_
    rintro e w2 ⟨rfl,hb2⟩
    have HB2:=zh (Bt HB.out hb2)
    replace HG:=zh (HG.out.later hb2 (RFr.stay _))
    clear hb2
    go_wp2_with (at_builtin;refine wpList_grow (w0:=w) rfl (.tmp 23) (.tmp 27) 29 rfl 59 i0 (.agg #[.string ⟨#[]⟩,.string ⟨#[]⟩]) 2 32 Tryz.underlying29 hi hz0 hz1 hz2 rfl zd RFr _ ((l.map qcut).take k) rfl (HG.out.later belA (RFr.stay _)) (Bt HB2.out belA) _ [.string c1,.string ⟨#[49]⟩] ⟨c1,⟨#[49]⟩⟩ rfl (Box.new _ _ _) rfl ?c1 rfl (RFr.stay _) ?c2 zo ?_)
    case c1=>intro u hu;simp only [List.mem_cons,List.not_mem_nil,or_false] at hu;rcases hu with rfl|rfl<;>rfl
    case c2=>simp;omega
    intro v' w3 hg hb3 _
    have HG2:Hid (Grows w3 w.heap.size 59 2 RFr v' ((l.map qcut).take (k+1))):=zh (by rw [HQ.out];exact hg)
    clear hg HG HB2
    go_wp2_with fail
    go_roundw
    case rel=>exact ⟨k+1,by go_num,by omega,HG2,hb3⟩
    case measure=>exact zM
  ·obtain rfl:k=l.length:=by omega
   obtain ⟨rv,rc,rfl⟩:=HG.out.at (n:=l.length) zi
   have HF:Hid (Frs wr 59 (.slice rv l.length rc) (l.map qcut)):=zh (by have:=HG.out.slV.frs;rwa [List.take_of_length_le zi] at this)
   go_wp2_with fail
   go_ret
   exact ⟨_,rfl,hb,HF.out⟩
end Go.Proofs.verdigrislaw05
namespace Go.Num
theorem val_split2 {B:Nat} {v:List Nat} {k:Nat} (hv:v.length=k+2):val B v=val B (v.take k)+B^k*(v.getD k 0+B*v.getD (k+1) 0):=by
 have h1:=val_take_succ B (l:=v) (k:=k) zo
 have h2:=val_take_succ B (l:=v) (k:=k+1) zo
 rw [show k+1+1=v.length by omega,List.take_length] at h2
 rw [h2,h1,Nat.mul_add,Nat.pow_succ,Nat.mul_assoc,Nat.add_assoc]
theorem val_split3 {B:Nat} {u:List Nat} {k:Nat} (hu:u.length=k+3):val B u=val B (u.take k)+B^k*(u.getD k 0+B*(u.getD (k+1) 0+B*u.getD (k+2) 0)):=by
 have h1:=val_take_succ B (l:=u) (k:=k) zo
 have h2:=val_take_succ B (l:=u) (k:=k+1) zo
 have h3:=val_take_succ B (l:=u) (k:=k+2) zo
 rw [show k+2+1=u.length by omega,List.take_length] at h3
 rw [h3,h2,h1]
 simp only [Nat.mul_add,Nat.pow_succ,Nat.mul_assoc]
 omega
structure Guess (B U V top head q r:Nat):Prop where
 split:q*top+r=head
 high:U / V≤q
 bound:q≤B+1
section
variable {B:Nat} {u v:List Nat} {k:Nat}
theorem guess_start (hB:1<B) (hu:u.length=k+3) (hv:v.length=k+2) (du:Dig B u) (ht:B≤2*v.getD (k+1) 0) (hlt:val B u<val B v*B) (dv:Dig B v) :
  Guess B (val B u) (val B v) (v.getD (k+1) 0) (u.getD (k+2) 0*B+u.getD (k+1) 0) ((u.getD (k+2) 0*B+u.getD (k+1) 0) / v.getD (k+1) 0) ((u.getD (k+2) 0*B+u.getD (k+1) 0)%v.getD (k+1) 0):=by
 have eu:=val_split3 (B:=B) hu
 have ev:=val_split2 (B:=B) hv
 have lu:=val_lt zo (du.take k)
 have lv:=val_lt zo (dv.take k)
 rw [show (u.take k).length=k by simp;omega] at lu
 rw [show (v.take k).length=k by simp;omega] at lv
 have d0:=du.getD zo k
 have d1:=du.getD zo (k+1)
 have f0:=dv.getD zo k
 generalize u.getD k 0=u2 at *
 generalize u.getD (k+1) 0=u1 at *
 generalize u.getD (k+2) 0=un at *
 generalize v.getD k 0=v2 at *
 generalize v.getD (k+1) 0=top at *
 generalize val B (u.take k)=a at *
 generalize val B (v.take k)=b at *
 have hp:0<B^k:=Nat.pow_pos zo
 generalize B^k=p at *
 have htop:0<top:=by omega
 have hV:0<val B v:=by
  rw [ev]
  have:0<p*(v2+B*top):=Nat.mul_pos hp (by have:=Nat.mul_pos (by omega:0<B) htop;omega)
  omega
 have hdm:=Nat.div_add_mod (un*B+u1) top
 have hml:=Nat.mod_lt (un*B+u1) htop
 refine ⟨by rw [Nat.mul_comm];exact hdm,?_,?_⟩
 ·rw [← Nat.lt_succ_iff,Nat.div_lt_iff_lt_mul hV,eu,ev]
  generalize (un*B+u1) / top=q at *
  have h1:un*B+u1+1≤(q+1)*top:=by rw [Nat.add_mul,Nat.one_mul,Nat.mul_comm q];omega
  have h2:p*(B*(un*B+u1+1))≤p*(B*((q+1)*top)):=Nat.mul_le_mul_left _ (Nat.mul_le_mul_left _ h1)
  have h3:a+p*(u2+B*(u1+B*un))<p*(B*(un*B+u1+1)):=by
   have:p*(u2+B*(u1+B*un)+1)≤p*(B*(un*B+u1+1)):=Nat.mul_le_mul_left _ (by rw [Nat.mul_add B (un*B+u1),Nat.mul_one,Nat.add_comm u1,Nat.mul_comm B un];omega)
   rw [Nat.mul_add,Nat.mul_one] at this
   omega
  have h4:p*(B*((q+1)*top))≤Nat.succ q*(b+p*(v2+B*top)):=by
   rw [Nat.succ_eq_add_one,show p*(B*((q+1)*top))=(q+1)*(p*(B*top)) by rw [Nat.mul_left_comm B,Nat.mul_left_comm p]]
   refine Nat.mul_le_mul_left _ ?_
   rw [Nat.mul_add p];omega
  omega
 ·-- the highest digit of u is at most that of v
  have h1:un≤top:=by
   rcases Nat.lt_or_ge top un with h|h
   ·exfalso
    rw [eu,ev] at hlt
    have h2:p*(B*(B*(top+1)))≤p*(B*(B*un)):=Nat.mul_le_mul_left _ (Nat.mul_le_mul_left _ (Nat.mul_le_mul_left _ h))
    have h3:(b+p*(v2+B*top))*B≤p*(B*(B*(top+1))):=by
     have:b+p*(v2+B*top)≤p*(B*(top+1)):=by
      have h5:p*(v2+1+B*top)≤p*(B*(top+1)):=Nat.mul_le_mul_left _ (by rw [Nat.mul_add B top,Nat.mul_one];omega)
      simp only [Nat.mul_add,Nat.mul_one] at h5 ⊢
      omega
     calc (b+p*(v2+B*top))*B≤p*(B*(top+1))*B:=Nat.mul_le_mul_right _ this
      _=p*(B*(B*(top+1))):=by rw [Nat.mul_assoc,Nat.mul_comm (B*(top+1)) B]
    have h4:p*(B*(B*un))≤a+p*(u2+B*(u1+B*un)):=by simp only [Nat.mul_add];omega
    omega
   ·exact h
  have h2:(un*B+u1) / top<B+2:=by
   rw [Nat.div_lt_iff_lt_mul htop]
   have h3:un*B≤top*B:=Nat.mul_le_mul_right _ h1
   rw [Nat.add_mul,Nat.mul_comm B top]
   omega
  omega
theorem guess_step (hB:1<B) (hu:u.length=k+3) (hv:v.length=k+2) (du:Dig B u) {q r:Nat} (ht:0<v.getD (k+1) 0) (hlt:val B u<val B v*B)
  (g:Guess B (val B u) (val B v) (v.getD (k+1) 0) (u.getD (k+2) 0*B+u.getD (k+1) 0) q r) (hc:B≤q∨r*B+u.getD k 0<q*v.getD k 0) :
  1≤q∧Guess B (val B u) (val B v) (v.getD (k+1) 0) (u.getD (k+2) 0*B+u.getD (k+1) 0) (q - 1) (r+v.getD (k+1) 0):=by
 have eu:=val_split3 (B:=B) hu
 have ev:=val_split2 (B:=B) hv
 have lu:=val_lt zo (du.take k)
 rw [show (u.take k).length=k by simp;omega] at lu
 obtain ⟨g1,g2,g3⟩:=g
 generalize u.getD k 0=u2 at *
 generalize u.getD (k+1) 0=u1 at *
 generalize u.getD (k+2) 0=un at *
 generalize v.getD k 0=v2 at *
 generalize v.getD (k+1) 0=top at *
 generalize val B (u.take k)=a at *
 generalize val B (v.take k)=b at *
 have hp:0<B^k:=Nat.pow_pos zo
 generalize B^k=p at *
 have hV:0<val B v:=by
  rw [ev]
  have:0<p*(v2+B*top):=Nat.mul_pos hp (by have:=Nat.mul_pos (by omega:0<B) ht;omega)
  omega
 have hq:val B u / val B v<q:=by
  rcases hc with hc|hc
  ·have:val B u / val B v<B:=by rw [Nat.div_lt_iff_lt_mul hV,Nat.mul_comm];exact hlt
   omega
  ·rw [Nat.div_lt_iff_lt_mul hV,eu,ev]
   have h1:u2+B*(u1+B*un)+1≤q*(v2+B*top):=by
    have:B*(q*top+r)=B*(un*B+u1):=by rw [g1]
    rw [Nat.mul_add B (q*top)] at this
    rw [Nat.mul_add q,Nat.mul_left_comm q B top]
    rw [Nat.mul_add B u1,← Nat.mul_comm un B]
    rw [Nat.mul_add B (un*B)] at this
    rw [Nat.mul_comm r B] at hc
    omega
   have h2:=Nat.mul_le_mul_left p h1
   rw [Nat.mul_add p,Nat.mul_one] at h2
   have h3:p*(q*(v2+B*top))≤q*(b+p*(v2+B*top)):=by
    rw [Nat.mul_left_comm]
    exact Nat.mul_le_mul_left _ zo
   omega
 have hq0:=Nat.zero_le (val B u / val B v)
 obtain ⟨q,rfl⟩:∃ q',q=q'+1:=⟨q - 1,by omega⟩
 refine ⟨by omega,?_,by simp only [Nat.add_sub_cancel];omega,by omega⟩
 rw [Nat.add_mul,Nat.one_mul] at g1
 simp only [Nat.add_sub_cancel]
 omega
theorem guess_end (hB:1<B) (hu:u.length=k+3) (hv:v.length=k+2) (dv:Dig B v) {q r:Nat} (ht:0<v.getD (k+1) 0)
  (g:Guess B (val B u) (val B v) (v.getD (k+1) 0) (u.getD (k+2) 0*B+u.getD (k+1) 0) q r) (hc:q≤B) (hc2:q*v.getD k 0≤r*B+u.getD k 0):q≤val B u / val B v+1:=by
 have eu:=val_split3 (B:=B) hu
 have ev:=val_split2 (B:=B) hv
 have lv:=val_lt zo (dv.take k)
 rw [show (v.take k).length=k by simp;omega] at lv
 obtain ⟨g1,g2,g3⟩:=g
 generalize u.getD k 0=u2 at *
 generalize u.getD (k+1) 0=u1 at *
 generalize u.getD (k+2) 0=un at *
 generalize v.getD k 0=v2 at *
 generalize v.getD (k+1) 0=top at *
 generalize val B (u.take k)=a at *
 generalize val B (v.take k)=b at *
 have hp:0<B^k:=Nat.pow_pos zo
 generalize B^k=p at *
 have hV:0<val B v:=by
  rw [ev]
  have:0<p*(v2+B*top):=Nat.mul_pos hp (by have:=Nat.mul_pos (by omega:0<B) ht;omega)
  omega
 have hq0:=Nat.zero_le (val B u / val B v)
 rcases Nat.eq_zero_or_pos q with h0|h0
 ·omega
 obtain ⟨q',rfl⟩:∃ q',q=q'+1:=⟨q - 1,by omega⟩
 rw [Nat.add_le_add_iff_right,Nat.le_div_iff_mul_le hV]
 have h1:(q'+1)*(v2+B*top)≤u2+B*(u1+B*un):=by
  have:B*((q'+1)*top+r)=B*(un*B+u1):=by rw [g1]
  rw [Nat.mul_add B ((q'+1)*top)] at this
  rw [Nat.mul_add (q'+1),Nat.mul_left_comm (q'+1) B top]
  rw [Nat.mul_add B u1,← Nat.mul_comm un B]
  rw [Nat.mul_add B (un*B)] at this
  rw [Nat.mul_comm r B] at hc2
  omega
 have h2:=Nat.mul_le_mul_left p h1
 have h3:(q'+1)*b≤B*p:=Nat.mul_le_mul hc zo
 have h4:B*p≤p*(v2+B*top):=by
  rw [Nat.mul_comm B p]
  refine Nat.mul_le_mul_left _ ?_
  have:B*1≤B*top:=Nat.mul_le_mul_left _ ht
  omega
 have h5:(q'+1)*val B v≤val B u+val B v:=by
  rw [eu,ev,Nat.mul_add,Nat.mul_left_comm (q'+1) p]
  omega
 rw [Nat.add_mul,Nat.one_mul] at h5
 omega
end
theorem sub_step {B:Nat} {u v s:List Nat} {i q c b d c' b':Nat} (hiu:i<u.length) (hiv:i<v.length) (hs:s.length=i)
  (he:val B s+q*val B (v.take i)=val B (u.take i)+(b+c)*B^i) (h:d+b+(c+q*v.getD i 0)%B=u.getD i 0+b'*B) (hc:c'=(c+q*v.getD i 0) / B) :
  val B (s++[d])+q*val B (v.take (i+1))=val B (u.take (i+1))+(b'+c')*B^(i+1):=by
 rw [val_snoc,val_take_succ B hiu,val_take_succ B hiv,hs,Nat.pow_succ]
 have h1:B*c'+(c+q*v.getD i 0)%B=c+q*v.getD i 0:=by rw [hc];exact Nat.div_add_mod _ _
 generalize (c+q*v.getD i 0)%B=m at *
 have h2:d+b+(c+q*v.getD i 0)=u.getD i 0+(b'+c')*B:=by rw [Nat.add_mul,Nat.mul_comm c' B];omega
 have h3:=congrArg (B^i* ·) h2
 simp only [Nat.mul_add] at h3 he ⊢
 rw [show (b'+c')*(B^i*B)=B^i*((b'+c')*B) by rw [Nat.mul_left_comm]]
 rw [show q*(B^i*v.getD i 0)=B^i*(q*v.getD i 0) by rw [Nat.mul_left_comm]]
 rw [Nat.mul_comm (b+c),Nat.mul_add] at he
 omega
theorem sub_fits {B:Nat} {u v s:List Nat} {n q b c un:Nat} (hB:1<B) (hv:v.length=n) (dv:Dig B v) (hV:0<val B v)
  (he:val B s+q*val B v=val B (u.take n)+(b+c)*B^n) (hu:val B u=val B (u.take n)+B^n*un) (hc:b+c≤un) (hq1:val B u / val B v≤q) :
  q=val B u / val B v∧val B s=val B u%val B v:=by
 have h1:val B u=q*val B v+(val B s+B^n*(un - (b+c))):=by
  obtain ⟨t,rfl⟩:=Nat.le.dest hc
  rw [hu,Nat.add_sub_cancel_left,Nat.mul_add,Nat.mul_comm (B^n) (b+c)]
  omega
 have h2:q*val B v≤val B u:=by omega
 have h3:q≤val B u / val B v:=(Nat.le_div_iff_mul_le hV).2 h2
 have hq:q=val B u / val B v:=by omega
 refine ⟨hq,?_⟩
 have h4:=Nat.div_add_mod (val B u) (val B v)
 rw [← hq,Nat.mul_comm] at h4
 have h5:val B s+B^n*(un - (b+c))=val B u%val B v:=by omega
 have h6:=Nat.mod_lt (val B u) hV
 have h7:=val_lt zo dv
 rw [hv] at h7
 rcases Nat.eq_zero_or_pos (un - (b+c)) with h8|h8
 ·rw [h8] at h5;omega
 ·have:B^n*1≤B^n*(un - (b+c)):=Nat.mul_le_mul_left _ h8
  omega
theorem sub_over {B:Nat} {u v s:List Nat} {n q b c un:Nat} (hB:1<B) (hs:s.length=n) (ds:Dig B s) (hv:v.length=n) (dv:Dig B v) (hV:0<val B v)
  (he:val B s+q*val B v=val B (u.take n)+(b+c)*B^n) (hu:val B u=val B (u.take n)+B^n*un) (hc:un<b+c) (hq2:q≤val B u / val B v+1) :
  q=val B u / val B v+1∧val B s+val B v=val B u%val B v+B^n:=by
 have hp:0<B^n:=Nat.pow_pos zo
 have h7:=val_lt zo dv
 rw [hv] at h7
 have h8:=val_lt zo ds
 rw [hs] at h8
 have h4:=Nat.div_add_mod (val B u) (val B v)
 have h6:=Nat.mod_lt (val B u) hV
 obtain ⟨t,ht⟩:=Nat.le.dest hc
 have h1:val B u+B^n*(t+1)=q*val B v+val B s:=by
  rw [hu,Nat.add_assoc,← Nat.mul_add,show un+(t+1)=b+c by omega,Nat.mul_comm (B^n)]
  omega
 have hpt:B^n*(t+1)=B^n*t+B^n:=by rw [Nat.mul_add,Nat.mul_one]
 have hq3:val B u / val B v+1≤q:=by
  rcases Nat.lt_or_ge (val B u / val B v) q with h|h
  ·exact h
  ·exfalso
   have:q*val B v≤val B u / val B v*val B v:=Nat.mul_le_mul_right _ h
   rw [Nat.mul_comm (val B u / val B v)] at this
   omega
 have hq:q=val B u / val B v+1:=by omega
 refine ⟨hq,?_⟩
 rw [hq,Nat.add_mul,Nat.one_mul,Nat.mul_comm (val B u / val B v)] at h1
 have h9:val B u%val B v+B^n*(t+1)=val B v+val B s:=by omega
 rcases Nat.eq_zero_or_pos t with h|h
 ·rw [h,Nat.zero_add,Nat.mul_one] at h9;omega
 ·have:B^n*1≤B^n*t:=Nat.mul_le_mul_left _ h
  omega
theorem scale_great {B t:Nat} (hB:B=1000000000) (ht:0<t) (htB:t<B):B≤2*(t*(B / (t+1))):=by
 have hd:=Nat.div_add_mod B (t+1)
 have hm:=Nat.mod_lt B (Nat.succ_pos t)
 have hs:0<B / (t+1):=Nat.div_pos zo zo
 generalize B / (t+1)=s at *
 generalize B%(t+1)=m at *
 obtain ⟨s',rfl⟩:∃ s',s=s'+1:=⟨s - 1,by omega⟩
 rw [Nat.add_mul t 1,Nat.one_mul] at hd
 have h1:t*(s'+1)=t*s'+t:=by rw [Nat.mul_add,Nat.mul_one]
 have h2:m≤t:=by omega
 rcases Nat.eq_zero_or_pos s' with h|h
 ·subst h;omega
 ·obtain ⟨t',rfl⟩:∃ t',t=t'+1:=⟨t - 1,by omega⟩
  obtain ⟨r,rfl⟩:∃ r,s'=r+1:=⟨s' - 1,by omega⟩
  have h3:(t'+1)*(r+1+1)=t'*r+2*t'+r+2:=by simp only [Nat.add_mul,Nat.mul_add];omega
  have h4:0≤t'*r:=Nat.zero_le _
  rw [h3] at hd ⊢
  rcases Nat.eq_zero_or_pos t' with h5|h5
  ·subst h5;omega
  ·have h6:r≤t'*r:=by have:=Nat.mul_le_mul_right r h5;omega
   omega
theorem val_take_drop (B:Nat) {l:List Nat} {t:Nat} (ht:t≤l.length):val B l=val B (l.take t)+B^t*val B (l.drop t):=by
 conv=>lhs;rw [← List.take_append_drop t l,val_append]
 rw [List.length_take,Nat.min_eq_left ht]
theorem scale_facts {b k:Nat} (hs:sz 1000000000 b=k+2) :
  let t:=(digs 1000000000 b).getD (k+1) 0
  let s:=1000000000 / (t+1)
  0<t∧t<1000000000∧0<s∧s≤500000000∧sz 1000000000 (b*s)=k+2∧1000000000≤2*(digs 1000000000 (b*s)).getD (k+1) 0:=by
 intro t s
 have hB:1<1000000000:=by omega
 have hl:(digs 1000000000 b).length=k+2:=hs
 have ht0:0<t:=Nat.pos_of_ne_zero (top_digs hB b (k+1) hl)
 have htB:t<1000000000:=(dig_digs hB b).getD zo (k+1)
 have hs0:0<s:=Nat.div_pos zo zo
 have hs5:s≤500000000:=by
  have:s≤1000000000 / 2:=Nat.div_le_div_left zo zo
  omega
 have hsd:s*(t+1)≤1000000000:=Nat.div_mul_le_self _ _
 have hp:0<1000000000^(k+1):=Nat.pow_pos zo
 have hb:b=val 1000000000 ((digs 1000000000 b).take (k+1))+1000000000^(k+1)*t:=by
  have h1:=val_take_succ 1000000000 (l:=digs 1000000000 b) (k:=k+1) zo
  rw [show k+1+1=(digs 1000000000 b).length by omega,List.take_length,val_digs hB] at h1
  exact h1
 have hlow:val 1000000000 ((digs 1000000000 b).take (k+1))<1000000000^(k+1):=by
  have:=val_lt zo ((dig_digs hB b).take (k+1))
  rwa [show ((digs 1000000000 b).take (k+1)).length=k+1 by simp;omega] at this
 have h1:b*s<1000000000^(k+2):=by
  have h2:b<1000000000^(k+1)*(t+1):=by rw [Nat.mul_add,Nat.mul_one];omega
  have h3:b*s<1000000000^(k+1)*(t+1)*s:=Nat.mul_lt_mul_of_pos_right h2 hs0
  have h4:1000000000^(k+1)*((t+1)*s)≤1000000000^(k+1)*1000000000:=Nat.mul_le_mul_left _ (by rw [Nat.mul_comm];exact hsd)
  rw [Nat.mul_assoc] at h3
  rw [Nat.pow_succ 1000000000 (k+1)]
  omega
 have h2:sz 1000000000 (b*s)=k+2:=by
  have h3:=sz_le_of_lt hB _ _ h1
  have h4:sz 1000000000 b≤sz 1000000000 (b*s):=sz_mono hB (Nat.le_mul_of_pos_right _ hs0)
  omega
 refine ⟨ht0,htB,hs0,hs5,h2,?_⟩
 have hl2:(digs 1000000000 (b*s)).length=k+2:=h2
 have hb2:b*s=val 1000000000 ((digs 1000000000 (b*s)).take (k+1))+1000000000^(k+1)*(digs 1000000000 (b*s)).getD (k+1) 0:=by
  have h1:=val_take_succ 1000000000 (l:=digs 1000000000 (b*s)) (k:=k+1) zo
  rw [show k+1+1=(digs 1000000000 (b*s)).length by omega,List.take_length,val_digs hB] at h1
  exact h1
 have hlow2:val 1000000000 ((digs 1000000000 (b*s)).take (k+1))<1000000000^(k+1):=by
  have:=val_lt zo ((dig_digs hB (b*s)).take (k+1))
  rwa [show ((digs 1000000000 (b*s)).take (k+1)).length=k+1 by simp;omega] at this
 have hge:=scale_great (B:=1000000000) rfl ht0 htB
 generalize (digs 1000000000 (b*s)).getD (k+1) 0=t2 at *
 have h5:t*s≤t2:=by
  rcases Nat.lt_or_ge t2 (t*s) with h|h
  ·exfalso
   have h6:1000000000^(k+1)*(t2+1)≤1000000000^(k+1)*(t*s):=Nat.mul_le_mul_left _ h
   rw [Nat.mul_add,Nat.mul_one,← Nat.mul_assoc] at h6
   have h7:1000000000^(k+1)*t*s≤b*s:=Nat.mul_le_mul_right _ zo
   omega
  ·exact h
 have h8:1000000000≤2*(t*s):=hge
 omega
theorem dividend {a b s k:Nat} (hs0:0<s) (hs1:s<1000000000) (hb:sz 1000000000 b=k+2) (hab:k+2≤sz 1000000000 a) :
  let us:=digs 1000000000 (a*s)++List.replicate (sz 1000000000 a+1 - sz 1000000000 (a*s)) 0
  sz 1000000000 (a*s)≤sz 1000000000 a+1∧us.length=sz 1000000000 a+1∧Dig 1000000000 us∧val 1000000000 us=a*s∧val 1000000000 (us.drop (sz 1000000000 a - (k+2)+1))<b*s:=by
 intro us
 have hB:1<1000000000:=by omega
 have h1:sz 1000000000 (a*s)≤sz 1000000000 a+1:=by
  have:=sz_mul hB a s
  have h2:=sz_le_of_lt hB 1 s zo
  omega
 have h2:us.length=sz 1000000000 a+1:=by simp only [us,List.length_append,List.length_replicate];unfold sz at*; omega
 have h3:val 1000000000 us=a*s:=by simp only [us];rw [val_append,val_zeros,val_digs hB];simp
 refine ⟨h1,h2,(dig_digs hB _).append fun x hx=>by rw [List.eq_of_mem_replicate hx];omega,h3,?_⟩
 have h4:=val_take_drop 1000000000 (l:=us) (t:=sz 1000000000 a - (k+2)+1) zo
 rw [h3] at h4
 have h5:=pow_le_of_sz hB (n:=b) (k:=k+1) zo
 have h6:=lt_pow_sz hB a
 have h7:1000000000^sz 1000000000 a=1000000000^(k+1)*1000000000^(sz 1000000000 a - (k+2)+1):=by rw [← Nat.pow_add];congr 1;omega
 generalize 1000000000^(sz 1000000000 a - (k+2)+1)=p at *
 have h8:a<b*p:=by
  have:1000000000^(k+1)*p≤b*p:=Nat.mul_le_mul_right _ h5
  omega
 rcases Nat.lt_or_ge (val 1000000000 (us.drop (sz 1000000000 a - (k+2)+1))) (b*s) with h|h
 ·exact h
 ·exfalso
  have h9:p*(b*s)≤a*s:=by have:=Nat.mul_le_mul_left p h;omega
  have h10:a*s<b*p*s:=Nat.mul_lt_mul_of_pos_right h8 hs0
  rw [show p*(b*s)=b*p*s by rw [← Nat.mul_assoc,Nat.mul_comm p b]] at h9
  omega
theorem long_step {B:Nat} {us s s' qs:List Nat} {j V q:Nat} (hj:j<us.length) (he:val B (us.drop (j+1))=V*val B qs+val B s)
  (hq:q=val B (us.getD j 0::s) / V) (hs:val B s'=val B (us.getD j 0::s)%V):val B (us.drop j)=V*val B (q::qs)+val B s':=by
 rw [drop_getD hj]
 have h:=Nat.div_add_mod (val B (us.getD j 0::s)) V
 rw [← hq,← hs] at h
 simp only [val] at h ⊢
 rw [he,Nat.mul_add V,Nat.mul_add B,Nat.mul_left_comm V B]
 omega
theorem window_lt {B x V:Nat} {s:List Nat} (hx:x<B) (hs:val B s<V):val B (x::s)<V*B:=by
 have h:B*(val B s+1)≤B*V:=Nat.mul_le_mul_left _ hs
 rw [Nat.mul_add,Nat.mul_one,Nat.mul_comm B V] at h
 simp only [val]
 omega
theorem long_end {a b s q r:Nat} (hs:0<s) (he:a*s=b*s*q+r) (hr:r<b*s):q=a / b∧r / s=a%b:=by
 have h1:a*s / (b*s)=a / b:=Nat.mul_div_mul_right _ _ hs
 have h2:a*s%(b*s)=a%b*s:=Nat.mul_mod_mul_right _ _ _
 have hp:0<b*s:=by omega
 rw [he,Nat.mul_add_div hp,Nat.div_eq_of_lt hr,Nat.add_zero] at h1
 rw [he,Nat.mul_add_mod,Nat.mod_eq_of_lt hr] at h2
 exact ⟨h1,by rw [h2,Nat.mul_div_cancel _ hs]⟩
end Go.Num
namespace Go.Mem
open Go Go.RowKit Go.SW Go.Num
def Nm (w:World) (v:Value) (n:Nat):Prop:=Row w 3 v (ints (digs 10000 n))
theorem Nm.later {w w':World} {v:Value} {n:Nat} (h:Nm w v n) (hb:Below w.heap.size w w'):Nm w' v n:=Row.later h hb
theorem Nm.setOther {w:World} {v:Value} {n:Nat} (h:Nm w v n) {b:Nat} {cs:Array Value} {T':TypeId} (hx:Box w b cs T') (hT:3≠T') (o:Nat) (u:Value):Nm (w.setCell ⟨b,o,none⟩ u) v n:=Row.setOther h hx hT o u
def Gs (w:World) (v:Value) (l:List Nat):Prop:=Row w 3 v (ints l)
theorem Gs.later {w w':World} {v:Value} {l:List Nat} (h:Gs w v l) (hb:Below w.heap.size w w'):Gs w' v l:=Row.later h hb
theorem Gs.cases {w:World} {v:Value} {l:List Nat} (h:Gs w v l) :
  (v= .slice none 0 0∧l=[])∨∃ b off cap,v= .slice (some ⟨b,off,none⟩) l.length cap∧l.length≤cap∧cap≤9223372036854775807∧b<w.heap.size∧(∃ arr,Box w b arr 3)∧∀ i,i<l.length→w.cell? ⟨b,off+i,none⟩=some (.int .i64 (l.getD i 0:Nat)):=by
 rcases Row.cases h with ⟨h1,h2⟩|⟨b,off,cap,arr,h1,h2,h3,h4,h5⟩
 ·refine .inl ⟨h1,?_⟩
  unfold ints at h2
  simpa using h2
 ·refine .inr ⟨b,off,cap,by rw [h1,ints_length],by rwa [ints_length] at h2,h3,h4.lt,⟨arr,h4⟩,fun i hi=>?_⟩
  rw [h4.cell,h5 i (by rw [ints_length];exact hi)]
  simp [ints,hi]
theorem Gs.read {w:World} {v:Value} {l:List Nat} (h:Gs w v l) :
  ∃ a cap,v= .slice a l.length cap∧l.length≤cap∧cap≤9223372036854775807∧∀ k,k<l.length→∃ b off,a=some ⟨b,off,none⟩∧b<w.heap.size∧w.cell? ⟨b,off+k,none⟩=some (.int .i64 (l.getD k 0:Nat)):=by
 rcases Gs.cases h with ⟨rfl,rfl⟩|⟨b,off,cap,rfl,h1,h2,h3,_,h5⟩
 ·exact ⟨none,0,rfl,by simp,by simp,fun k hk=>by cases hk⟩
 ·exact ⟨some ⟨b,off,none⟩,cap,rfl,h1,h2,fun k hk=>⟨b,off,rfl,h3,h5 k hk⟩⟩
theorem Nm.of_gs {w:World} {v:Value} {l:List Nat} (h:Gs w v l) (hd:Dig 10000 l) (ht:Top l):Nm w v (val 10000 l):=by
 unfold Nm;rw [digs_val zo hd ht];exact h
theorem Nm.gs {w:World} {v:Value} {n:Nat} (h:Nm w v n):Gs w v (digs 10000 n):=h
theorem Gs.of_owns {w:World} {base k:Nat} {v:Value} {s:List Nat} (h:w.ownsRow base 3 1 v k (ints s)):Gs w v s:=Row.of_owns h
theorem made_ints (n:Nat):(madeCells #[Value.int .i64 0] n).toList=ints (List.replicate n 0):=by
 rw [toList_madeCells_one];simp [ints]
theorem ints_set (l:List Nat) (k d:Nat):(ints l).set k (.int .i64 (d:Int))=ints (l.set k d):=by simp [ints,List.map_set]
theorem ints_get {l:List Nat} {k:Nat} (h:k<l.length):(ints l)[k]? =some (.int .i64 (l.getD k 0:Nat)):=by simp [ints,h]
theorem Gs.of_box {w:World} {g n m:Nat} {l post:List Nat} (h:Box w g (ints (l++post)).toArray 3) (hl:l.length=n) (hm:n≤m) (hm2:m≤9223372036854775807):Gs w (.slice (some ⟨g,0,none⟩) n m) l:=by
 refine Row.mk (by rw [ints_length];omega) (by rw [ints_length];omega) hm2 h fun i hi=>?_
 rw [ints_length] at hi
 rw [Nat.zero_add,List.getElem?_toArray]
 simp [ints,hi,List.getElem?_append_left]
theorem Nm.lit {w:World} {d:Nat} (h0:0<d) (h1:d<10000):Nm (w.alloc (.cells #[.int .i64 d] 3 (0,0))) (.slice (some ⟨w.heap.size,0,none⟩) 1 1) d:=by
 have e:digs 10000 d=[d]:=by rw [digs_pos zo h0,Nat.mod_eq_of_lt h1,Nat.div_eq_of_lt h1,digs_zero]
 unfold Nm
 rw [e]
 refine Row.mk rfl (by simp [ints]) zo (Box.new _ _ _) fun i hi=>?_
 match i,hi with
 | 0,_=>rfl
theorem Nm.zero (w:World):Nm w (.slice none 0 0) 0:=by unfold Nm;rw [digs_zero];exact Row.nil _ _
theorem ints_oneCell (l:List Nat):∀ v∈ints l,v.oneCell'=true:=fun v hv=>by
 obtain ⟨d,_,rfl⟩:=List.mem_map.1 hv;rfl
theorem Gs.src {w:World} {a:Option Addr} {l:List Nat} (h:∀ k,k<l.length→∃ b off,a=some ⟨b,off,none⟩∧b<w.heap.size∧w.cell? ⟨b,off+k,none⟩=some (.int .i64 (l.getD k 0:Nat))) (hl:0<(ints l).length) :
  ∃ ad,a=some ad∧∀ j v,(ints l)[j]? =some v→w.cell? (ad.add j)=some v:=by
 rw [ints_length] at hl
 obtain ⟨b,off,rfl,_,_⟩:=h 0 hl
 refine ⟨_,rfl,fun j v hv=>?_⟩
 have hj:j<l.length:=by
  have:=(List.getElem?_eq_some_iff.1 hv).1;rwa [ints_length] at this
 obtain ⟨b',off',h1,_,h3⟩:=h j hj
 simp only [Option.some.injEq,Addr.mk.injEq,and_true] at h1
 obtain ⟨rfl,rfl⟩:=h1
 rw [ints_get hj] at hv
 rw [Addr.add_lit,h3,← hv]
theorem Nm.slice {w:World} {v:Value} {n:Nat} (h:Nm w v n):∃ pa l ca,v= .slice pa l ca:=by
 obtain ⟨a,cap,h1, -⟩:=h
 exact ⟨_,_,_,h1⟩
def Pl (w:World) (v:Value) (z:Int):Prop:=∃ pa l ca,v= .agg #[.bool (decide (z<0)),.slice pa l ca]∧Nm w (.slice pa l ca) z.natAbs
theorem Pl.later {w w':World} {v:Value} {z:Int} (h:Pl w v z) (hb:Below w.heap.size w w'):Pl w' v z:=by
 obtain ⟨pa,l,ca,h1,h2⟩:=h
 exact ⟨pa,l,ca,h1,h2.later hb⟩
theorem Pl.mk {w:World} {m:Value} {z:Int} {b:Bool} {n:Nat} (h:Nm w m n) (hn:n=z.natAbs) (hb:b=decide (z<0)):Pl w (.agg #[.bool b,m]) z:=by
 obtain ⟨pa,l,ca,rfl⟩:=h.slice
 exact ⟨pa,l,ca,by rw [hb],hn ▸ h⟩
theorem Pl.cast {w:World} {v:Value} {y z:Int} (h:Pl w v y) (e:y=z):Pl w v z:=e ▸ h
theorem Nm.alloc {w:World} {v:Value} {n:Nat} (h:Nm w v n) (o:Obj):Nm (w.alloc o) v n:=h.later ((Below.refl _ _).alloc (Nat.le_refl _) _)
theorem Gs.alloc {w:World} {v:Value} {n:List Nat} (h:Gs w v n) (o:Obj):Gs (w.alloc o) v n:=h.later ((Below.refl _ _).alloc (Nat.le_refl _) _)
theorem Pl.agg {w:World} {v:Value} {z:Int} (h:Pl w v z):∃ b pa l ca,v= .agg #[.bool b,.slice pa l ca]:=by
 obtain ⟨pa,l,ca,h1, -⟩:=h
 exact ⟨_,_,_,_,h1⟩
theorem Pl.setOther {w:World} {v:Value} {z:Int} (h:Pl w v z) {b:Nat} {cs:Array Value} {T':TypeId} (hx:Box w b cs T') (hT:3≠T') (o:Nat) (u:Value):Pl (w.setCell ⟨b,o,none⟩ u) v z:=by
 obtain ⟨pa,l,ca,h1,h2⟩:=h
 exact ⟨pa,l,ca,h1,h2.setOther hx hT o u⟩
theorem Pl.set2 {w:World} {v:Value} {z:Int} (h:Pl w v z) {b:Nat} {cs:Array Value} {T':TypeId} (hx:Box w b cs T') (hT:3≠T') (o1 o2:Nat) (u1 u2:Value):Pl ((w.setCell ⟨b,o1,none⟩ u1).setCell ⟨b,o2,none⟩ u2) v z :=
 (h.setOther hx hT o1 u1).setOther (hx.set o1 u1) hT o2 u2
theorem Pl.nm {w:World} {b:Bool} {pa:Option Addr} {l ca:Nat} {z:Int} (h:Pl w (.agg #[.bool b,.slice pa l ca]) z):Nm w (.slice pa l ca) z.natAbs∧b=decide (z<0):=by
 obtain ⟨pa',l',ca',e,h2⟩:=h
 simp only [Value.agg.injEq,Array.mk.injEq,List.cons.injEq,Value.bool.injEq,and_true] at e
 obtain ⟨e1,e2⟩:=e
 rw [e2]
 exact ⟨h2,e1⟩
theorem sgd_turn (z:Int):sgd z.natAbs (!decide (z<0))= -z:=sgd_opp z
theorem sgd_self (z:Int):sgd z.natAbs (decide (z<0))=z:=by
 unfold sgd
 by_cases h:z<0<;>simp [h]<;>omega
theorem sgd_neg' (n:Nat) (b:Bool):(b&&decide (0<n))=decide (sgd n b<0):=by
 rw [← sgd_neg,Bool.eq_iff_iff]
 simp
 omega
theorem Nm.read {w:World} {v:Value} {n:Nat} (h:Nm w v n):∃ a cap,v= .slice a (sz 10000 n) cap∧sz 10000 n≤cap∧cap≤9223372036854775807∧∀ k,k<sz 10000 n→∃ b off,a=some ⟨b,off,none⟩∧b<w.heap.size∧w.cell? ⟨b,off+k,none⟩=some (.int .i64 ((digs 10000 n).getD k 0:Nat)):=Gs.read h.gs
theorem Nm.lenp {w:World} {pa:Option Addr} {l c n:Nat} (h:Nm w (.slice pa l c) n) (hn:0<n):0<l:=by
 obtain ⟨a,cap,e, -⟩:=h.read
 simp only [Value.slice.injEq] at e
 rw [e.2.1]
 unfold sz
 rw [List.length_pos_iff,Ne,digs_eq_nil zo]
 omega
theorem Nm.len0 {w:World} {pa:Option Addr} {l c n:Nat} (h:Nm w (.slice pa l c) n) (hn:n=0):l=0:=by
 obtain ⟨a,cap,e, -⟩:=h.read
 simp only [Value.slice.injEq] at e
 rw [e.2.1,hn,sz_zero]
end Go.Mem
namespace Go.Fra
open Go Go.Num
def cden (qs:List Rat):Nat:=qs.foldl (fun a q=>a*(q.den / a.gcd q.den)) 1
def ctop (D:Nat) (q:Rat):Int:=q.num*((D / q.den:Nat):Int)
theorem cden_snoc (qs:List Rat) (q:Rat):cden (qs++[q])=cden qs*(q.den / (cden qs).gcd q.den):=by simp [cden]
theorem cden_take {qs:List Rat} {k:Nat} (h:k<qs.length):cden (qs.take (k+1))=cden (qs.take k)*(qs[k].den / (cden (qs.take k)).gcd qs[k].den):=by
 rw [List.take_succ_eq_append_getElem h,cden_snoc]
theorem snoc_induct {α:Type} {Q:List α→Prop} (h0:Q []) (h1:∀ l a,Q l→Q (l++[a])) (l:List α):Q l:=by
 have:∀ n (l:List α),l.length=n→Q l:=by
  intro n
  induction n with
  | zero=>intro l hl;rw [List.length_eq_zero_iff] at hl;subst hl;exact h0
  | succ n ih =>
   intro l hl
   have hne:l≠[]:=fun e=>by subst e;simp at hl
   rw [← List.dropLast_concat_getLast hne]
   exact h1 _ _ (ih _ (by simp [hl]))
 exact this _ l rfl
theorem cden_facts (qs:List Rat):0<cden qs∧(∀ q∈qs,q.den ∣ cden qs):=by
 induction qs using snoc_induct with
 | h0=>exact ⟨by simp [cden],fun q h=>by cases h⟩
 | h1 l a ih =>
  obtain ⟨h1,h2⟩:=ih
  rw [cden_snoc]
  have hg:(cden l).gcd a.den ∣ a.den:=Nat.gcd_dvd_right _ _
  refine ⟨Nat.mul_pos h1 (Nat.div_pos (Nat.le_of_dvd a.den_pos hg) (Nat.gcd_pos_of_pos_right _ a.den_pos)),fun q hq=>?_⟩
  rcases List.mem_append.1 hq with h|h
  ·exact Nat.dvd_trans (h2 q h) (Nat.dvd_mul_right _ _)
  ·rw [List.mem_singleton] at h
   subst h
   obtain ⟨c,hc⟩:=Nat.gcd_dvd_left (cden l) q.den
   rw [← Nat.mul_div_assoc _ hg,Nat.mul_div_right_comm (Nat.gcd_dvd_left _ _)]
   exact Nat.dvd_mul_left _ _
theorem cden_sz (qs:List Rat) (h:∀ q∈qs,okq q=true):sz 1000000000 (cden qs)≤67*qs.length+1:=by
 induction qs using snoc_induct with
 | h0=>exact sz_le_of_lt zo 1 _ (by simp [cden])
 | h1 l a ih =>
  rw [cden_snoc,List.length_append,List.length_singleton]
  have h1:=ih (fun q hq=>h q (by simp [hq]))
  have h2:=(okq_sz (h a zi)).2
  have h3:=sz_mul (B:=1000000000) zo (cden l) (a.den / (cden l).gcd a.den)
  have h4:= @sz_div a.den ((cden l).gcd a.den)
  omega
theorem ctop_eq {D:Nat} {q:Rat} (hD:0<D) (h:q.den ∣ D):((ctop D q:Int):Rat) / ((D:Nat):Rat)=q:=by
 obtain ⟨c,rfl⟩:=h
 have hc:0<c:=by rcases Nat.eq_zero_or_pos c with e|e;subst e;simp at hD;exact e
 unfold ctop
 rw [Nat.mul_div_cancel_left _ q.den_pos]
 have e:q=(q.num:Rat) / ((q.den:Nat):Rat):=by
  rw [← Rat.mkRat_eq_div,Rat.mkRat_self]
 have h1:((q.den:Nat):Rat)≠0:=by
  rw [Ne,Rat.natCast_eq_zero_iff]
  exact q.den_nz
 have h2:((c:Nat):Rat)≠0:=by
  rw [Ne,Rat.natCast_eq_zero_iff]
  omega
 rw [Rat.intCast_mul,Rat.natCast_mul,Rat.intCast_natCast]
 generalize hn:(q.num:Rat)=n at *
 generalize hd:((q.den:Nat):Rat)=d at *
 generalize hcc:((c:Nat):Rat)=c' at *
 rw [e]
 grind
end Go.Fra
namespace Go.SW
open Go Go.RowKit
section
variable {P:Program} {ops:Array Oper} {Q:Exit→Act→World→Prop}
theorem any_of_walk {a:Act} {w:World} (is:List (K × Nat)) (hc:check ops is=true) (hal:AllocRuns P ops is)
  (hQ:∀ c (a s:Act) w,s.defers=a.defers→Q (.panic c) a w→Q (.panic c) s w)
  (h:walk P ops Q w.heap.size is [] a w.drew):wpAny P .any ops Q ops.size (Array.replicate ops.size false) a w.drew:=by
 unfold check at hc
 simp only [Bool.and_eq_true,decide_eq_true_eq] at hc
 obtain ⟨⟨⟨⟨⟨h1,h2⟩,h3⟩,h4⟩,h5⟩,h6⟩:=hc
 refine phase_main h1 (led_of h2) hQ w.heap.size ops.size is [] [] [] _ a a w.drew ?_ ?_ h3 h4 zi zi hal ?_ h
 ·rw [allocWith_nil];exact h5
 ·refine ⟨by simp,fun i hi=>?_,fun j o hj hl=>?_,rfl,rfl,fun t _ _=>rfl,by simp,by simp,by simp,by simp⟩
  ·have hmem:i∈is.map (·.2):=by simpa using List.all_eq_true.1 h6 i (List.mem_range.2 hi)
   simp [hi] 
   simpa using hmem
  ·have hj':=(Array.getElem?_eq_some_iff.1 hj).1
   simp [hj'] at hl
 ·exact ⟨by simp,by simp,by simp,by simp,Nat.le_refl _⟩
end
theorem rowsIn_wide {n l:Nat} {P:Program} {row:String} {args:Array Value} {w:World} {R:Value→World→Prop} (h:Rows P row args w R):RowsIn (Fence.wide.inRound l) n P row args w R :=
 fun c cs _=>let ⟨v,w',r,s⟩:=h c cs;⟨v,w',r,stepsIn_wide.2 s⟩
theorem uponIn_of_upon {P:Program} {n l:Nat} {o:Oper} {a:Act} {K:Act→World→Prop} {Q:Exit→Act→World→Prop} {r:Result Next} (h:o.upon P a K Q r):o.uponIn (Fence.wide.inRound l) n P a K Q r:=by
 cases r with
 | ok x w' =>
  cases x<;>simp only [Oper.upon,Oper.uponIn] at h ⊢<;>first|exact h|exact ⟨fun e=>(by cases e),CallsIn.inRound l (callsIn_wide.2 h)⟩|exact ⟨fun e=>(by cases e),rowsIn_wide h⟩|exact h.elim
 | halt x w'=>cases x<;>simp only [Oper.upon,Oper.uponIn] at h ⊢<;>first|exact h|exact h.elim
theorem wpIn_of_wp {P:Program} {n l:Nat} {o:Oper} {a:Act} {w:World} {K:Act→World→Prop} {Q:Exit→Act→World→Prop} (hd:∀ c,o.op≠ .defer c) (h:o.wp P a w K Q):o.wpIn (Fence.wide.inRound l) n P a w K Q:=by
 refine ⟨fun _ _=>trivial,?_⟩
 have e:o.semAt (Fence.wide.inRound l).round a.eval=execOp a.eval o:=Oper.semAt_eq _ _ _ hd
 rw [e]
 exact uponIn_of_upon h
theorem wpOpIn_of_wpOp {P:Program} {n l:Nat} {ops:Array Oper} {i:Nat} {a:Act} {w:World} {K:Act→World→Prop} {Q:Exit→Act→World→Prop} (hd:∀ (i:Nat) o,ops[i]? =some o→∀ c,o.op≠ .defer c) (hQ:¬ LetsOut Q) (h:wpOp P ops Q i K a w):wpOpIn (Fence.wide.inRound l) n P ops Q i K a w:=by
 unfold wpOp at h
 unfold wpOpIn
 split
 ·rename_i e;simpa [e] using h
 ·rename_i o e
  simp only [e] at h
  split
  ·rename_i hw
   simp only [hw,if_true] at h
   rcases h with h|h
   ·exact wpIn_of_wp (hd i o e) h
   ·exact absurd h.2 hQ
  ·rename_i hw
   simp only [hw] at h
   exact ⟨fun _ _=>trivial,h⟩
theorem wpAnyIn_of_wpAny {P:Program} {n l:Nat} {ops:Array Oper} {md:Region.Mode} {Q:Exit→Act→World→Prop} (hd:∀ (i:Nat) o,ops[i]? =some o→∀ c,o.op≠ .defer c) (hQ:¬ LetsOut Q):∀ (fuel:Nat) (listed:Array Bool) (a:Act) (w:World),wpAny P md ops Q fuel listed a w→wpAnyIn (Fence.wide.inRound l) n P md ops Q fuel listed a w
 | 0,_,_,_,h=>h
 | fuel+1,_,_,_,h=>⟨h.1,fun i hi=>wpOpIn_mono (fun a w h=>wpAnyIn_of_wpAny hd hQ fuel _ a w h) (wpOpIn_of_wpOp hd hQ (h.2 i hi))⟩
def noDefer (ops:Array Oper):Bool:=ops.all fun o=>match o.op with| .defer _=>false| _=>true
theorem noDefer_spec {ops:Array Oper} (h:noDefer ops=true):∀ (i:Nat) o,ops[i]? =some o→∀ c,o.op≠ .defer c:=fun i o e c hc=>by
 have h2:=Array.getElem?_eq_some_iff.1 e
 obtain ⟨hi,rfl⟩:=h2
 have:=Array.all_eq_true.1 h i hi
 rw [hc] at this
 cases this
theorem wpIn_region_walk {P:Program} {n l id:Nat} {ops:Array Oper} {Q:Exit→Act→World→Prop} {a:Act} {w:World} (is:List (K × Nat)) (hm:P.follows .mixedOrders=true) (hd:noDefer ops=true) (hc:check ops is=true) (hal:AllocRuns P ops is) (hQ0:¬ LetsOut Q)
  (hQ:∀ c (a s:Act) w,s.defers=a.defers→Q (.panic c) a w→Q (.panic c) s w)
  (h:walk P ops Q w.heap.size is [] a w.drew):(Code.region id ops true).wpIn (Fence.wide.inRound l) n P Q a w :=
 wpIn_region_any hm (wpAnyIn_of_wpAny (noDefer_spec hd) hQ0 _ _ _ _ (any_of_walk is hc hal hQ h))
end Go.SW
namespace Go.Fra
open Go Go.Num
def dotQ (r s:List Rat):Rat:=(List.zipWith (· * ·) r s).foldl (· + ·) 0
def psumI (f:Nat→Int):Nat→Int
 | 0=>0
 | k+1=>psumI f k+f k
def psumQ (f:Nat→Rat):Nat→Rat
 | 0=>0
 | k+1=>psumQ f k+f k
theorem psumQ_congr {f g:Nat→Rat}:∀ {n:Nat},(∀ i,i<n→f i=g i)→psumQ f n=psumQ g n
 | 0,_=>rfl
 | n+1,h=>by simp only [psumQ];rw [psumQ_congr (fun i hi=>h i zo),h n zo]
theorem psumQ_div (f:Nat→Int) (d:Rat):∀ n,((psumI f n:Int):Rat) / d=psumQ (fun i=>((f i:Int):Rat) / d) n
 | 0=>by simp [psumI,psumQ,Rat.div_def]
 | n+1=>by
  simp only [psumI,psumQ]
  rw [← psumQ_div f d n,Rat.intCast_add,Rat.div_def,Rat.div_def,Rat.div_def,Rat.add_mul]
theorem foldl_psumQ (xs:List Rat):xs.foldl (· + ·) 0=psumQ (fun i=>xs.getD i 0) xs.length:=by
 induction xs using snoc_induct with
 | h0=>rfl
 | h1 l a ih =>
  rw [List.foldl_append,ih,List.length_append,List.length_singleton]
  simp only [List.foldl_cons,List.foldl_nil,psumQ]
  congr 1
  ·exact psumQ_congr fun i hi=>by simp [hi,List.getElem?_append_left]
  ·simp
theorem dotQ_psum {r s:List Rat} (h:s.length=r.length):dotQ r s=psumQ (fun i=>r.getD i 0*s.getD i 0) r.length:=by
 unfold dotQ
 rw [foldl_psumQ,List.length_zipWith,h,Nat.min_self]
 exact psumQ_congr fun i hi=>by
  have hs:i<s.length:=by omega
  simp [hi,hs,List.getElem?_zipWith]
theorem dot_eq {r s:List Rat} (h:s.length=r.length) :
  ((psumI (fun i=>(r.map (ctop (cden r))).getD i 0*(s.map (ctop (cden s))).getD i 0) r.length:Int):Rat) / ((cden r*cden s:Nat):Rat)=dotQ r s:=by
 rw [dotQ_psum h,psumQ_div]
 refine psumQ_congr fun i hi=>?_
 have hs:i<s.length:=by omega
 obtain ⟨hr1,hr2⟩:=cden_facts r
 obtain ⟨hs1,hs2⟩:=cden_facts s
 have e1:=ctop_eq hr1 (hr2 r[i] (List.getElem_mem hi))
 have e2:=ctop_eq hs1 (hs2 s[i] (List.getElem_mem hs))
 have g1:(r.map (ctop (cden r))).getD i 0=ctop (cden r) r[i]:=by simp [hi]
 have g2:(s.map (ctop (cden s))).getD i 0=ctop (cden s) s[i]:=by simp [hs]
 have g3:r.getD i 0=r[i]:=by simp [hi]
 have g4:s.getD i 0=s[i]:=by simp [hs]
 rw [g1,g2,g3,g4,Rat.intCast_mul,Rat.natCast_mul]
 have n1:((cden r:Nat):Rat)≠0:=by rw [Ne,Rat.natCast_eq_zero_iff];omega
 have n2:((cden s:Nat):Rat)≠0:=by rw [Ne,Rat.natCast_eq_zero_iff];omega
 generalize ((ctop (cden r) r[i]:Int):Rat)=a at *
 generalize ((ctop (cden s) s[i]:Int):Rat)=b at *
 generalize ((cden r:Nat):Rat)=c at *
 generalize ((cden s:Nat):Rat)=d at *
 rw [← e1,← e2]
 grind
theorem ctop_sz {qs:List Rat} (h:∀ q∈qs,okq q=true) (hl:qs.length≤4) (i:Nat):sz 1000000000 ((qs.map (ctop (cden qs))).getD i 0).natAbs≤1000:=by
 by_cases hi:i<qs.length
 ·have g1:(qs.map (ctop (cden qs))).getD i 0=ctop (cden qs) qs[i]:=by simp [hi]
  rw [g1]
  unfold ctop
  have h1:=sz_absmul qs[i].num (cden qs / qs[i].den)
  have h2:=(okq_sz (h _ (List.getElem_mem hi))).1
  have h3:= @sz_div (cden qs) qs[i].den
  have h4:=cden_sz qs h
  omega
 ·have g1:(qs.map (ctop (cden qs))).getD i 0=0:=by
   rw [List.getD_eq_getElem?_getD,List.getElem?_eq_none (by rw [List.length_map];omega)]
   rfl
  rw [g1]
  simp [sz_zero]
end Go.Fra
namespace Go.SW
open Go Go.RowKit
variable {P:Program} {ops:Array Oper} {Q:Exit→Act→World→Prop}
def addL (x y:Nat):Nat→List Oper→List Oper
 | _,[]=>[]
 | k,o::l=>(match k.beq y with
  | true=>⟨o.dst,o.op,o.type,o.pos,o.after.push ⟨x,.chain⟩,o.guard⟩
  | false=>o)::addL x y (k+1) l
def addE (x y:Nat) (ops:Array Oper):Array Oper:=(addL x y 0 ops.toList).toArray
def orderedBy (l:List Nat) (ops:Array Oper):Bool:=(List.range ops.size).all fun i=>match ops[i]? with
 | some o=>o.after.all (fun e=> !Region.binds .any e || (decide (l.idxOf e.on<l.idxOf i)&&decide (e.on<ops.size)))
 | none=>true
theorem led_by {l:List Nat} (ho:orderedBy l ops=true):Led ops:=fun listed hsz hr i hi=>by
 have key:∀ n i,l.idxOf i=n→i<ops.size→listed.getD i true=true:=by
  intro n
  induction n using Nat.strongRecOn with
  | _ n ih =>
   intro i hn hi
   cases hl:listed.getD i true with
   | true=>rfl
   | false =>
    exfalso
    have ho':ops[i]? =some ops[i]:=by simp [hi]
    have hmem:i∈Region.ready .any ops listed:=mem_ready.2 ⟨hl,ops[i],ho',fun e he hb=>by
     unfold orderedBy at ho
     have h1:=List.all_eq_true.1 ho i (List.mem_range.2 hi)
     simp only [ho'] at h1
     have h2:=Array.all_eq_true_iff_forall_mem.1 h1 e he
     simp only [hb,Bool.not_true,Bool.false_or,Bool.and_eq_true,decide_eq_true_eq] at h2
     have h3:=ih _ zo e.on rfl h2.2
     have:e.on<listed.size:=by omega
     simpa [this] using h3⟩
    rw [hr] at hmem
    cases hmem
 exact key _ i rfl hi
end Go.SW
namespace Go.SW
open Go Go.RowKit
variable {P:Program} {ops:Array Oper} {Q:Exit→Act→World→Prop}
def MakeRuns (P:Program) (ops:Array Oper) (mk:Nat→Nat→Value) (is:List (K × Nat)):Prop :=
 ∀ cs T j,(K.alloc cs T,j)∈is→∀ o,ops[j]? =some o→∀ (a:Act) w,(execOp a.eval o).run P w= .ok (.value (mk j w.heap.size)) (w.alloc (.cells cs T (0,0)))
def Blind (ops:Array Oper) (is:List (K × Nat)):Prop:=∀ x∈is,∀ y∈is,x.1.isAlloc=true→y.1.isAlloc=true→∀ d o,dstOf ops x.2=some d→ops[y.2]? =some o→d∉o.looksAt ops
def blindB (ops:Array Oper) (is:List (K × Nat)):Bool:=is.all fun x=> !x.1.isAlloc || is.all fun y=> !y.1.isAlloc || (match dstOf ops x.2,ops[y.2]? with|some d,some o=> !(o.looksAt ops).contains d| _,_=>true)
theorem blind_of {is:List (K × Nat)} (h:blindB ops is=true):Blind ops is:=fun x hx y hy h1 h2 d o hd ho hm=>by
 unfold blindB at h
 have k1:=List.all_eq_true.1 h x hx
 rw [h1,Bool.not_true,Bool.false_or] at k1
 have k2:=List.all_eq_true.1 k1 y hy
 rw [h2,hd,ho,Bool.not_true,Bool.false_or] at k2
 simp at k2
 exact k2 hm
def wnt (ops:Array Oper) (a:Act) (i:Nat):Bool:=match ops[i]? with|some o=>Region.wanted o (yielded ops a.tmps)|none=>false
theorem wnt_eq {a:Act} {i:Nat} {o:Oper} (h:ops[i]? =some o):wnt ops a i=Region.wanted o (yielded ops a.tmps):=by unfold wnt;rw [h]
theorem wnt_put {a:Act} {i:Nat} {o:Oper} {x:Option Tmp} {v:Value} (h:ops[i]? =some o) (hx:∀ d,x=some d→d∉o.looksAt ops):wnt ops (a.put x v) i=wnt ops a i:=by
 rw [wnt_eq h,wnt_eq h]
 exact wanted_agree fun t ht=>put_ne _ _ fun e=>hx t e ht
def walk2 (P:Program) (ops:Array Oper) (Q:Exit→Act→World→Prop) (mk:Nat→Nat→Value) (N:Nat):List (K × Nat)→List Nat→Act→World→Prop
 | [],_,a,w=>∀ w',Below w.heap.size w w'→Q .normal a w'
 | (k,i)::is,A,a,w =>
  match ops[i]? with
  | none=>False
  | some o =>
   match k with
   | .pure=>if Region.wanted o (yielded ops a.tmps) then ∃ v,(∀ w',(execOp a.eval o).run P w'= .ok (.value v) w')∧walk2 P ops Q mk N is A (a.put o.dst v) w else walk2 P ops Q mk N is A (a.put o.dst undef) w
   | .read=>if Region.wanted o (yielded ops a.tmps) then ∃ v,(∀ w',Below w.heap.size w w'→(execOp a.eval o).run P w'= .ok (.value v) w')∧walk2 P ops Q mk N is A (a.put o.dst v) w else walk2 P ops Q mk N is A (a.put o.dst undef) w
   | .alloc cs T=>if Region.wanted o (yielded ops a.tmps) then ∀ b w',Below w.heap.size w w'→N≤b→b<w'.heap.size→b∉A→w'.heap[b]? =some (.cells cs T (0,0))→walk2 P ops Q mk N is (b::A) (a.put o.dst (mk i b)) w' else walk2 P ops Q mk N is A (a.put o.dst undef) w
   | .ext=>if Region.wanted o (yielded ops a.tmps) then ∀ w',Below w.heap.size w w'→o.wp P a w' (fun a' w''=>Below w'.heap.size w' w''∧walk2 P ops Q mk N is A a' w'') Q else walk2 P ops Q mk N is A (a.put o.dst undef) w
   | .fin=>∀ w',Below w.heap.size w w'→wpOps P ops Q (i::is.map (·.2)) a w'
theorem walk2_mono {mk:Nat→Nat→Value} {N:Nat}:∀ (is:List (K × Nat)) (A:List Nat) (a:Act) (w w1:World),Below w.heap.size w w1→walk2 P ops Q mk N is A a w→walk2 P ops Q mk N is A a w1
 | [],_,_,_,_,hb,h=>fun w' hw'=>h w' (below_trans hb hw')
 | (k,i)::is,A,a,w,w1,hb,h=>by
  unfold walk2 at h ⊢
  cases ho:ops[i]? with
  | none=>simp only [ho] at h
  | some o =>
   simp only [ho] at h ⊢
   cases k with
   | pure =>
    simp only at h ⊢
    split at h
    ·rename_i hw
     obtain ⟨v,h1,h2⟩:=h
     simp only [hw,if_true]
     exact ⟨v,h1,walk2_mono is _ _ _ _ hb h2⟩
    ·rename_i hw
     simp only [hw,if_false,Bool.false_eq_true]
     exact walk2_mono is _ _ _ _ hb h
   | read =>
    simp only at h ⊢
    split at h
    ·rename_i hw
     obtain ⟨v,h1,h2⟩:=h
     simp only [hw,if_true]
     exact ⟨v,fun w' hw'=>h1 w' (below_trans hb hw'),walk2_mono is _ _ _ _ hb h2⟩
    ·rename_i hw
     simp only [hw,if_false,Bool.false_eq_true]
     exact walk2_mono is _ _ _ _ hb h
   | alloc cs T =>
    simp only at h ⊢
    split at h
    ·rename_i hw
     simp only [hw,if_true]
     exact fun b w' hw'=>h b w' (below_trans hb hw')
    ·rename_i hw
     simp only [hw,if_false,Bool.false_eq_true]
     exact walk2_mono is _ _ _ _ hb h
   | ext =>
    simp only at h ⊢
    split at h
    ·rename_i hw
     simp only [hw,if_true]
     exact fun w' hw'=>h w' (below_trans hb hw')
    ·rename_i hw
     simp only [hw,if_false,Bool.false_eq_true]
     exact walk2_mono is _ _ _ _ hb h
   | fin=>exact fun w' hw'=>h w' (below_trans hb hw')
structure Early2 (ops:Array Oper) (mk:Nat→Nat→Value) (N:Nat) (is:List (K × Nat)) (A:List Nat) (E:List (Nat × Nat)) (s a:Act) (w:World):Prop where
 good:∀ p∈E,∃ cs T,(K.alloc cs T,p.1)∈is∧(wnt ops a p.1=true→w.heap[p.2]? =some (.cells cs T (0,0))∧N≤p.2∧p.2<w.heap.size∧p.2∉A)
 dist:∀ p∈E,∀ q∈E,p.1≠q.1→wnt ops a p.1=true→wnt ops a q.1=true→p.2≠q.2
 slot:∀ p∈E,∀ d,dstOf ops p.1=some d→d<a.tmps.size→s.tmps[d]? =some (if wnt ops a p.1 then mk p.1 p.2 else undef)
 old:∀ x∈A,x<w.heap.size
 base:N≤w.heap.size
theorem phase_main2 {mk:Nat→Nat→Value} (hs:Region.noSelect ops=true) (hord:Led ops)
  (hQ:∀ c (a s:Act) w,s.defers=a.defers→Q (.panic c) a w→Q (.panic c) s w) (N:Nat) :
  ∀ (fuel:Nat) (is:List (K × Nat)) (A:List Nat) (U:List (Bool × Nat)) (E:List (Nat × Nat)) (listed:Array Bool) (s a:Act) (w:World),
   allocWith is E+U.length≤fuel→Inv P ops (is.map (·.2)) U E listed s a w→okList ops is=true→(is.map (·.2)).Nodup →
   (∀ u∈U,u.2∉is.map (·.2))→(∀ u∈U,∀ q∈is,pairOk ops (if u.1 then .pure else .read,u.2) q=true) →
   MakeRuns P ops mk is→Blind ops is→Early2 ops mk N is A E s a w →
   walk2 P ops Q mk N is A a w→wpAny P .any ops Q fuel listed s w:=by
 intro fuel
 induction fuel using Nat.strongRecOn with
 | _ fuel ihf =>
 intro is
 induction is with
 | nil =>
  intro A U E listed s a w hm I hok hnd hdis hpr hal hbd he h
  have hE:E=[]:=by
   cases E with
   | nil=>rfl
   | cons p ps=>obtain ⟨cs,T,hmem,_⟩:=he.good p zi;cases hmem
  subst hE
  exact phase_fin hs hord hQ fuel [] U listed s a w (by simp [allocWith] at hm;simpa using hm) I rfl rfl zi zi zi (by simp only [List.map_nil,wpOps];exact h w (Below.refl _ _))
 | cons x xs ihl =>
  intro A U E listed s a w hm I hok hnd hdis hpr hal hbd he h
  obtain ⟨k,i⟩:=x
  have hrest:okList ops xs=true:=by unfold okList at hok;simp only [Bool.and_eq_true] at hok;exact hok.2
  obtain ⟨o,ho⟩:∃ o,ops[i]? =some o:=by
   unfold okList at hok
   simp only [Bool.and_eq_true] at hok
   exact Option.isSome_iff_exists.1 hok.1.2
  have hilt:i<ops.size:=(Array.getElem?_eq_some_iff.1 ho).1
  have hnd2:i∉xs.map (·.2)∧(xs.map (·.2)).Nodup:=by simpa only [List.map_cons,List.nodup_cons] using hnd
  have hpx:k.isFin=false→∀ q∈xs,pairOk ops (k,i) q=true:=fun hk=>by
   unfold okList at hok
   cases k<;>simp [K.isFin] at hk<;>simp only [Bool.and_eq_true] at hok
   ·exact fun q hq=>List.all_eq_true.1 hok.1.1.2 q hq
   ·exact fun q hq=>List.all_eq_true.1 hok.1.1.2 q hq
   ·exact fun q hq=>List.all_eq_true.1 hok.1.1.1 q hq
   ·exact fun q hq=>List.all_eq_true.1 hok.1.1.1 q hq
  have hbd2:Blind ops xs:=fun x hx y hy=>hbd x (by simp [hx]) y (by simp [hy])
  have hlisted:∀ p∈E,listed.getD p.1 true=true:=fun p hp=>by
   obtain ⟨cs,T,hmem,_⟩:=he.good p hp
   have hml:p.1∈((k,i)::xs).map (·.2):=List.mem_map.2 ⟨_,hmem,rfl⟩
   have hlt:p.1<ops.size:=by
    have key:∀ (l:List (K × Nat)),okList ops l=true→∀ q∈l,q.2<ops.size:=by
     intro l
     induction l with
     | nil=>intro _ q hq;cases hq
     | cons c l ihh =>
      intro hk q hq
      unfold okList at hk
      simp only [Bool.and_eq_true] at hk
      rcases List.mem_cons.1 hq with hq|hq
      ·subst hq
       obtain ⟨y,hy⟩:=Option.isSome_iff_exists.1 hk.1.2
       exact (Array.getElem?_eq_some_iff.1 hy).1
      ·exact ihh hk.2 q hq
    exact key _ hok _ hmem
   cases hl:listed.getD p.1 true with
   | true=>rfl
   | false =>
    exfalso
    rcases (I.unl p.1 hlt).1 hl with ⟨_,h2⟩|h2
    ·exact h2 (List.mem_map.2 ⟨p,hp,rfl⟩)
    ·obtain ⟨u,hu,e⟩:=List.mem_map.1 h2
     exact hdis u hu (e ▸ hml)
  have hstab:i∉E.map (·.1)→k.isFin=false→k.isAlloc=false→∀ p∈E,∀ v,wnt ops (a.put o.dst v) p.1=wnt ops a p.1:=fun hiE hkf hka p hp v=>by
   obtain ⟨cs,T,hmem,_⟩:=he.good p hp
   have hmx:(K.alloc cs T,p.1)∈xs:=by
    rcases List.mem_cons.1 hmem with hmem|hmem
    ·cases hmem;simp [K.isAlloc] at hka
    ·exact hmem
   have hf:=hpx hkf _ hmx
   unfold pairOk at hf
   simp only [K.isFin,Bool.false_eq_true,if_false] at hf
   cases hy:ops[p.1]? with
   | none=>unfold wnt;rw [hy]
   | some y =>
    refine wnt_put hy fun d hd hm=>?_
    have he1:=(fwd_spec ho hy hf).2 d hd hm
    obtain ⟨e,k1,k2,k3⟩:=edge_spec hy he1
    have hl:=hlisted p hp
    have hl2:listed.getD p.1 false=true:=by
     have hlt:=(Array.getElem?_eq_some_iff.1 hy).1
     have:p.1<listed.size:=by rw [I.size];exact hlt
     simpa [this] using hl
    have hcl:=I.closed p.1 y hy hl2 e k1 k2
    rw [k3] at hcl
    have hun:listed.getD i true=false:=(I.unl i hilt).2 (.inl ⟨by simp,hiE⟩)
    rw [getD_both hun] at hcl
    cases hcl
  have hUf:k.isFin=false→∀ u∈U,fwd ops u.2 i=true:=fun hk u hu=>by
   have:=hpr u hu (k,i) zi
   unfold pairOk at this
   simpa [hk] using this
  have advance:∀ (b:Bool) (v:Value),k.isFin=false→k.isAlloc=false→k.isPure=b→selfOk ops i=true→i∉E.map (·.1) →
    ((Region.wanted o (yielded ops a.tmps)=true∧∀ w',(b=false→Below w.heap.size w w')→(execOp a.eval o).run P w'= .ok (.value v) w')∨(Region.wanted o (yielded ops a.tmps)=false∧v=undef)) →
    (k= .pure∨k= .read)→walk2 P ops Q mk N xs A (a.put o.dst v) w→wpAny P .any ops Q fuel listed s w:=fun b v hkf hka hkb hself hiE hrun hkk hw=>by
   have hxl:∀ d,o.dst=some d→d∉o.looksAt ops:=fun d hd hm=>by unfold selfOk at hself;simp only [ho,hd] at hself;simp [hm] at hself
   have hl:∀ t,t∈o.looksAt ops→(a.put o.dst v).tmps[t]? =a.tmps[t]? :=fun t ht=>put_ne a v fun e=>hxl t e ht
   refine ihl A ((b,i)::U) E listed s (a.put o.dst v) w ?_ ?_ hrest hnd2.2 ?_ ?_ (fun cs T j hj=>hal cs T j (by simp [hj])) hbd2 ?_ hw
   ·have:allocWith ((k,i)::xs) E=allocWith xs E+1:=by
     unfold allocWith
     rw [List.filter_cons_of_pos (by simpa using hiE)]
     rfl
    simp only [List.length_cons];omega
   ·refine ⟨I.size,fun j hj=>?_,I.closed,by rw [put_defers'];exact I.defers,by rw [put_size];exact I.tsz,fun t h1 h2=>?_,fun u hu=>?_,fun u hu=>?_,fun u hu v' hv hne=>?_,fun u hu p hp=>?_⟩
    ·rw [I.unl j hj]
     simp only [List.map_cons,List.mem_cons]
     constructor
     ·rintro (⟨h|h,h2⟩|h)
      ·exact .inr (.inl h)
      ·exact .inl ⟨h,h2⟩
      ·exact .inr (.inr h)
     ·rintro (⟨h,h2⟩|h|h)
      ·exact .inl ⟨.inr h,h2⟩
      ·exact .inl ⟨.inl h,by rw [h];exact hiE⟩
      ·exact .inr h
    ·have hd:o.dst≠some t:=by have:=h1 (b,i) zi;rwa [dstOf_eq ho] at this
     rw [put_ne _ _ hd]
     exact I.agree t (fun u hu=>h1 u (by simp [hu])) h2
    ·rcases List.mem_cons.1 hu with hu|hu
     ·subst hu
      refine ⟨o,ho,v,fun d hd hlt=>?_,?_⟩
      ·rw [hd];exact put_eq _ _ (by rwa [put_size] at hlt)
      ·rw [wanted_agree hl,eval_agree (fun cs b=>Region.noSelect_spec hs i o cs b ho) hl]
       exact hrun
     ·exact (I.pend u hu).put hs v fun o' ho' d hd=>(fwd_spec ho' ho (hUf hkf u hu)).1 d hd
    ·rcases List.mem_cons.1 hu with hu|hu
     ·subst hu;exact hself
     ·exact I.uself u hu
    ·rcases List.mem_cons.1 hu with hu|hu<;>rcases List.mem_cons.1 hv with hv|hv
     ·subst hu hv;exact absurd rfl hne
     ·subst hu;exact (compat_of_fwd (hUf hkf v' hv)).2
     ·subst hv;exact (compat_of_fwd (hUf hkf u hu)).1
     ·exact I.uu u hu v' hv hne
    ·rcases List.mem_cons.1 hu with hu|hu
     ·subst hu
      obtain ⟨cs,T,hmem,_⟩:=he.good p hp
      rcases List.mem_cons.1 hmem with hmem|hmem
      ·cases hmem;simp [K.isAlloc] at hka
      ·have:=hpx hkf _ hmem
       unfold pairOk at this
       simpa [K.isFin] using this
     ·exact I.ue u hu p hp
   ·intro u hu
    rcases List.mem_cons.1 hu with hu|hu
    ·subst hu;exact hnd2.1
    ·intro hm;exact hdis u hu (by simp only [List.map_cons,List.mem_cons];exact .inr hm)
   ·intro u hu q hq
    rcases List.mem_cons.1 hu with hu|hu
    ·subst hu
     have:=hpx hkf q hq
     rcases hkk with rfl|rfl<;>simp [K.isPure] at hkb<;>subst hkb<;>simpa using this
    ·exact hpr u hu q (by simp [hq])
   ·have hst:=hstab hiE hkf hka
    refine ⟨fun p hp=>?_,fun p hp q hq h1 h2 h3=>he.dist p hp q hq h1 (by rw [← hst p hp v];exact h2) (by rw [← hst q hq v];exact h3),fun p hp d hd hlt=>by rw [hst p hp v];exact he.slot p hp d hd (by rwa [put_size] at hlt),he.old,he.base⟩
    obtain ⟨cs,T,hmem,hg⟩:=he.good p hp
    refine ⟨cs,T,?_,fun hw=>hg (by rw [← hst p hp v];exact hw)⟩
    rcases List.mem_cons.1 hmem with hmem|hmem
    ·cases hmem;simp [K.isAlloc] at hka
    ·exact hmem
  have early:∀ (cs:Array Value) (T:TypeId) (r:Nat),(K.alloc cs T,r)∈(k,i)::xs→r∈Region.ready .any ops listed→r∉E.map (·.1)→∀ f,f<fuel→allocWith ((k,i)::xs) E+U.length≤f+1 →
    wpOp P ops Q r (wpAny P .any ops Q f (listed.setIfInBounds r true)) s w:=fun cs T r hmem hr hrE f hf hmf=>by
   obtain ⟨y,hy,hyun,hyall⟩:=listed_of_ready hr
   have hrun:=hal cs T r hmem y hy
   have hrlt:=ready_lt hr
   have hb:Below w.heap.size w (w.alloc (.cells cs T (0,0))):=(Below.refl _ _).alloc (Nat.le_refl _) _
   have hsz:(w.alloc (.cells cs T (0,0))).heap.size=w.heap.size+1:=by simp
   have hrmap:r∈((k,i)::xs).map (·.2):=List.mem_map.2 ⟨_,hmem,rfl⟩
   have hlook:∀ t,t∈y.looksAt ops→s.tmps[t]? =a.tmps[t]? :=fun t ht=>by
    refine I.agree t (fun u hu hd=>?_) (fun p hp hd=>?_)
    ·have hp0:=hpr u hu _ hmem
     unfold pairOk at hp0
     simp only [K.isFin,Bool.false_eq_true,if_false] at hp0
     cases hx:ops[u.2]? with
     | none=>simp [dstOf,hx] at hd
     | some z =>
      have he':=(fwd_spec hx hy hp0).2 t (by rw [dstOf_eq hx] at hd;exact hd) ht
      exact unlisted_not_ready hr he' ((I.unl u.2 (Array.getElem?_eq_some_iff.1 hx).1).2 (.inr (List.mem_map.2 ⟨u,hu,rfl⟩)))
    ·obtain ⟨cs',T',hm',_⟩:=he.good p hp
     exact hbd _ hm' _ hmem rfl rfl t y hd hy ht
   have hwt:=wanted_agree (ops:=ops) hlook
   have key:∀ (v:Value) (w1:World) (b:Nat),Below w.heap.size w w1→v=(if wnt ops a r then mk r b else undef)→(wnt ops a r=true→w1.heap[b]? =some (.cells cs T (0,0))∧b=w.heap.size∧b<w1.heap.size) →
     wpAny P .any ops Q f (listed.setIfInBounds r true) (s.put y.dst v) w1:=fun v w1 b hb hv hw1=>by
    refine ihf f hf ((k,i)::xs) A U ((r,b)::E) _ _ a _ ?_ ?_ hok hnd hdis hpr hal hbd ?_ (walk2_mono _ _ _ _ _ hb h)
    ·have hlt:allocWith ((k,i)::xs) ((r,b)::E)<allocWith ((k,i)::xs) E:=by
      unfold allocWith
      have e:((k,i)::xs).filter (fun x=> !(((r,b)::E).map (·.1)).contains x.2)=(((k,i)::xs).filter (fun x=> !(E.map (·.1)).contains x.2)).filter (fun x=>x.2 != r):=by
       rw [List.filter_filter]
       congr 1
       funext x
       simp only [List.map_cons,List.contains_cons,Bool.not_or]
       rfl
      rw [e]
      exact List.length_filter_lt_length_iff_exists.2 ⟨_,List.mem_filter.2 ⟨hmem,by simpa using hrE⟩,by simp⟩
     omega
    ·refine ⟨by simpa using I.size,fun j hj=>?_,closed_set I.closed hy hyall,by rw [put_defers'];exact I.defers,by rw [put_size];exact I.tsz,fun t h1 h2=>?_,fun u hu=>(I.pend u hu).later fun _=>hb,I.uself,I.uu,fun u hu p hp=>?_⟩
     ·rw [getD_set_iff (by rw [I.size];exact hj),I.unl j hj]
      simp only [List.map_cons,List.mem_cons,not_or]
      constructor
      ·rintro ⟨⟨h,h2⟩|h,hne⟩
       ·exact .inl ⟨h,hne,h2⟩
       ·exact .inr h
      ·rintro (⟨h,hne,h2⟩|h)
       ·exact ⟨.inl ⟨h,h2⟩,hne⟩
       ·obtain ⟨u,hu,rfl⟩:=List.mem_map.1 h
        exact ⟨.inr h,fun e=>hdis u hu (e ▸ hrmap)⟩
     ·have hd:y.dst≠some t:=by have:=h2 (r,b) zi;rwa [dstOf_eq hy] at this
      rw [put_ne _ _ hd]
      exact I.agree t h1 fun p hp=>h2 p (by simp [hp])
     ·rcases List.mem_cons.1 hp with hp|hp
      ·subst hp
       have:=hpr u hu _ hmem
       unfold pairOk at this
       simpa [K.isFin] using this
      ·exact I.ue u hu p hp
    ·refine ⟨fun p hp=>?_,fun p hp q hq hne g1 g2=>?_,fun p hp d hd hlt=>?_,fun x hx=>Nat.lt_of_lt_of_le (he.old x hx) hb.size,Nat.le_trans he.base hb.size⟩
     ·rcases List.mem_cons.1 hp with hp|hp
      ·subst hp
       refine ⟨cs,T,hmem,fun hw=>?_⟩
       obtain ⟨k1,k2,k3⟩:=hw1 hw
       exact ⟨k1,by rw [k2];exact he.base,k3,fun hA=>by have:=he.old _ hA;simp only at this;omega⟩
      ·obtain ⟨cs',T',hm',hg⟩:=he.good p hp
       refine ⟨cs',T',hm',fun hw=>?_⟩
       obtain ⟨hh,h1,h2,h3⟩:=hg hw
       exact ⟨by rw [hb.block _ h2];exact hh,h1,Nat.lt_of_lt_of_le h2 hb.size,h3⟩
     ·rcases List.mem_cons.1 hp with hp|hp<;>rcases List.mem_cons.1 hq with hq|hq
      ·subst hp hq;exact absurd rfl hne
      ·subst hp
       obtain ⟨_,_,_,hg⟩:=he.good q hq
       obtain ⟨_,_,h2,_⟩:=hg g2
       obtain ⟨_,k2,_⟩:=hw1 g1
       exact fun e=>by simp only at e;omega
      ·subst hq
       obtain ⟨_,_,_,hg⟩:=he.good p hp
       obtain ⟨_,_,h2,_⟩:=hg g1
       obtain ⟨_,k2,_⟩:=hw1 g2
       exact fun e=>by simp only at e;omega
      ·exact he.dist p hp q hq hne g1 g2
     ·rcases List.mem_cons.1 hp with hp|hp
      ·subst hp
       rw [dstOf_eq hy] at hd
       rw [hd,put_eq _ _ (by exact Nat.lt_of_lt_of_eq hlt I.tsz.symm),hv]
      ·obtain ⟨cs',T',hm',_⟩:=he.good p hp
       have hne:p.1≠r:=fun e=>hrE (e ▸ List.mem_map.2 ⟨p,hp,rfl⟩)
       have hc:=okList_compat _ hok _ hm' _ hmem rfl rfl hne
       rw [put_ne _ _ (fun e=>hc.1 d hd (by rw [dstOf_eq hy];exact e))]
       exact he.slot p hp d hd hlt
   unfold wpOp
   simp only [hy]
   rw [hwt]
   cases hw:Region.wanted y (yielded ops a.tmps) with
   | true =>
    simp only [if_true]
    refine .inl ?_
    unfold Oper.wp
    rw [hrun]
    exact key _ _ w.heap.size hb (by rw [wnt_eq hy,hw];rfl) fun _=>⟨by show (w.heap.push _)[w.heap.size]? =_;simp,rfl,by rw [hsz];exact Nat.lt_succ_self _⟩
   | false =>
    simp only [Bool.false_eq_true,if_false]
    exact key _ _ 0 (Below.refl _ _) (by rw [wnt_eq hy,hw];rfl) fun h=>by rw [wnt_eq hy,hw] at h;cases h
  have hcount:i∉E.map (·.1)→1≤fuel:=fun hiE=>by
   have:allocWith ((k,i)::xs) E=allocWith xs E+1:=by
    unfold allocWith
    rw [List.filter_cons_of_pos (by simpa using hiE)]
    rfl
   omega
  have hinj:∀ (l:List (K × Nat)),(l.map (·.2)).Nodup→∀ x∈l,∀ y∈l,x.2=y.2→x=y:=by
   intro l
   induction l with
   | nil=>intro _ x hx;cases hx
   | cons c l ihh =>
    intro hn x hx0 y hy0 hxy
    rw [List.map_cons,List.nodup_cons] at hn
    rcases List.mem_cons.1 hx0 with hx|hx<;>rcases List.mem_cons.1 hy0 with hy|hy
    ·rw [hx,hy]
    ·exact absurd (List.mem_map.2 ⟨y,hy,by rw [← hxy,hx]⟩) hn.1
    ·exact absurd (List.mem_map.2 ⟨x,hx,by rw [hxy,hy]⟩) hn.1
    ·exact ihh hn.2 x hx y hy hxy
  have actual:(k= .ext∨k.isAlloc=true)→i∉E.map (·.1)→xs.all (blocked ops i xs)=true →
    (∀ f,fuel=f+1→i∈Region.ready .any ops listed→wpOp P ops Q i (wpAny P .any ops Q f (listed.setIfInBounds i true)) s w)→wpAny P .any ops Q fuel listed s w:=fun hk hiE hbl hhead=>by
   obtain ⟨f,rfl⟩:∃ f,fuel=f+1:=⟨fuel - 1,by have:=hcount hiE;omega⟩
   have hunl:listed.getD i true=false:=(I.unl i hilt).2 (.inl ⟨by simp,hiE⟩)
   refine ⟨fun hr=>?_,fun r hr=>?_⟩
   ·exfalso
    have:=hord _ I.size hr i hilt
    rw [hunl] at this;cases this
   ·obtain ⟨y,hy,hyun,hyall⟩:=listed_of_ready hr
    rcases (I.unl r (ready_lt hr)).1 hyun with ⟨hL,hrE⟩|hU
    ·simp only [List.map_cons,List.mem_cons] at hL
     rcases hL with hL|hL
     ·subst hL;exact hhead f rfl hr
     ·obtain ⟨q,hq,rfl⟩:=List.mem_map.1 hL
      have hb:=List.all_eq_true.1 hbl q hq
      unfold blocked at hb
      simp only [Bool.or_eq_true] at hb
      rcases hb with (hb|hb)|hb
      ·obtain ⟨kq,jq⟩:=q
       cases kq with
       | alloc cs T=>exact early cs T jq (by simp [hq]) hr hrE f (Nat.lt_succ_self _) zo
       | _=>simp [K.isAlloc] at hb
      ·exact (unlisted_not_ready hr hb hunl).elim
      ·obtain ⟨z,hz,hz2⟩:=List.any_eq_true.1 hb
       simp only [Bool.and_eq_true,Bool.not_eq_true'] at hz2
       obtain ⟨e,he1,he2,he3⟩:=edge_spec hy hz2.2
       by_cases hlt:z.2<ops.size
       ·refine (unlisted_not_ready hr hz2.2 ((I.unl z.2 hlt).2 (.inl ⟨by simp;exact .inr ⟨z.1,hz⟩,fun hzE=>?_⟩))).elim
        obtain ⟨p,hp,hpe⟩:=List.mem_map.1 hzE
        obtain ⟨cs,T,hmem,_⟩:=he.good p hp
        have hmem':(K.alloc cs T,z.2)∈(k,i)::xs:=by rw [← hpe];exact hmem
        rcases List.mem_cons.1 hmem' with h3|h3
        ·have:z.2=i:=by cases h3;rfl
         exact hnd2.1 (this ▸ List.mem_map.2 ⟨z,hz,rfl⟩)
        ·have:z=(K.alloc cs T,z.2):=by
          exact hinj xs hnd2.2 z hz _ h3 rfl
         rw [this] at hz2
         simp [K.isAlloc] at hz2
       ·have:=hyall e he1 he2
        rw [he3] at this
        simp [I.size,Nat.le_of_not_lt hlt] at this
    ·obtain ⟨u,hu,rfl⟩:=List.mem_map.1 hU
     refine run_pending hs I hr hU (.inl (hdis u hu)) fun v' I'=>?_
     refine ihf f (Nat.lt_succ_self _) ((k,i)::xs) A _ E _ _ a w ?_ I' hok hnd (fun x hx=>hdis x (List.mem_filter.1 hx).1) (fun x hx=>hpr x (List.mem_filter.1 hx).1) hal hbd ?_ h
     ·have:(U.filter (fun x=>x.2 != u.2)).length<U.length:=List.length_filter_lt_length_iff_exists.2 ⟨u,hu,by simp⟩
      omega
     ·refine ⟨he.good,he.dist,fun p hp d hd hlt=>?_,he.old,he.base⟩
      have hc:=(compat_of_fwd (I.ue u hu p hp)).2
      rw [put_ne _ _ (fun e=>hc.1 d hd e)]
      exact he.slot p hp d hd hlt
  have hnotE:k.isAlloc=false→i∉E.map (·.1):=fun hk hm=>by
   obtain ⟨p,hp,hpe⟩:=List.mem_map.1 hm
   obtain ⟨cs,T,hmem,_⟩:=he.good p hp
   have:=hinj _ hnd _ hmem (k,i) zi hpe
   cases this
   simp [K.isAlloc] at hk
  have hxsE:∀ p∈E,p.1≠i→∃ cs T,(K.alloc cs T,p.1)∈xs∧(wnt ops a p.1=true→w.heap[p.2]? =some (.cells cs T (0,0))∧N≤p.2∧p.2<w.heap.size∧p.2∉A):=fun p hp hne=>by
   obtain ⟨cs,T,hmem,hg⟩:=he.good p hp
   refine ⟨cs,T,?_,hg⟩
   rcases List.mem_cons.1 hmem with hmem|hmem
   ·cases hmem;exact absurd rfl hne
   ·exact hmem
  unfold walk2 at h
  simp only [ho] at h
  cases k with
  | pure =>
   simp only at h
   have hself:selfOk ops i=true:=by unfold okList at hok;simp only [Bool.and_eq_true] at hok;exact hok.1.1.1
   split at h
   ·rename_i hw
    obtain ⟨v,h1,h2⟩:=h
    exact advance true v rfl rfl rfl hself (hnotE rfl) (.inl ⟨hw,fun w' _=>h1 w'⟩) (.inl rfl) h2
   ·rename_i hw
    exact advance true undef rfl rfl rfl hself (hnotE rfl) (.inr ⟨by simpa using hw,rfl⟩) (.inl rfl) h
  | read =>
   simp only at h
   have hself:selfOk ops i=true:=by unfold okList at hok;simp only [Bool.and_eq_true] at hok;exact hok.1.1.1
   split at h
   ·rename_i hw
    obtain ⟨v,h1,h2⟩:=h
    exact advance false v rfl rfl rfl hself (hnotE rfl) (.inl ⟨hw,fun w' hb=>h1 w' (hb rfl)⟩) (.inr rfl) h2
   ·rename_i hw
    exact advance false undef rfl rfl rfl hself (hnotE rfl) (.inr ⟨by simpa using hw,rfl⟩) (.inr rfl) h
  | fin =>
   have hfin:xs.all (·.1.isFin)=true:=by unfold okList at hok;simp only [Bool.and_eq_true] at hok;exact hok.1.1.1
   have hE:E=[]:=by
    cases E with
    | nil=>rfl
    | cons p ps =>
     obtain ⟨cs,T,hmem,_⟩:=he.good p zi
     rcases List.mem_cons.1 hmem with hmem|hmem
     ·cases hmem
     ·have:=List.all_eq_true.1 hfin _ hmem
      simp [K.isFin] at this
   subst hE
   exact phase_fin hs hord hQ fuel ((.fin,i)::xs) U listed s a w (by rw [allocWith_nil] at hm;exact hm) I hok (by rw [List.all_cons,hfin];rfl) hnd hdis hpr (h w (Below.refl _ _))
  | ext =>
   have hbl:xs.all (blocked ops i xs)=true:=by unfold okList at hok;simp only [Bool.and_eq_true] at hok;exact hok.1.1.2
   refine actual (.inl rfl) (hnotE rfl) hbl fun f hf hr=>?_
   obtain ⟨y,hy,hyun,hyall⟩:=listed_of_ready hr
   rw [ho] at hy;cases hy
   have hlook:∀ t,t∈o.looksAt ops→s.tmps[t]? =a.tmps[t]? :=fun t ht=>by
    refine I.agree t (fun u hu hd=>?_) (fun p hp hd=>?_)
    ·have hf:=hUf rfl u hu
     cases hx:ops[u.2]? with
     | none=>simp [dstOf,hx] at hd
     | some y =>
      have he':=(fwd_spec hx ho hf).2 t (by rw [dstOf_eq hx] at hd;exact hd) ht
      exact unlisted_not_ready hr he' ((I.unl u.2 (Array.getElem?_eq_some_iff.1 hx).1).2 (.inr (List.mem_map.2 ⟨u,hu,rfl⟩)))
    ·obtain ⟨cs,T,hmem,_⟩:=hxsE p hp fun e=>hnotE rfl (e ▸ List.mem_map.2 ⟨p,hp,rfl⟩)
     have hf:=hpx rfl _ hmem
     unfold pairOk at hf
     simp only [K.isFin,Bool.false_eq_true,if_false] at hf
     cases hx:ops[p.1]? with
     | none=>simp [dstOf,hx] at hd
     | some y=>exact ((fwd_spec ho hx hf).1 t (by rw [dstOf_eq hx] at hd;exact hd)).1 ht
   have h':wpOp P ops Q i (fun a' w''=>Below w.heap.size w w''∧walk2 P ops Q mk N xs A a' w'') a w:=by
    unfold wpOp
    simp only [ho]
    simp only at h
    split at h
    ·rename_i hw;simp only [hw,if_true];exact .inl (h w (Below.refl _ _))
    ·rename_i hw;simp only [hw,Bool.false_eq_true,if_false];exact ⟨Below.refl _ _,h⟩
   refine wpOp_agree ho (fun cs b=>Region.noSelect_spec hs i o cs b ho) hlook I.defers hQ (fun ds v w' hk=>?_) h'
   obtain ⟨hb,hk⟩:=hk
   have hal':allocWith ((.ext,i)::xs) E=allocWith xs E+1:=by
    unfold allocWith
    rw [List.filter_cons_of_pos (by simpa using hnotE rfl)]
    rfl
   have hst:∀ p∈E,wnt ops ({ a with defers:=ds }.put o.dst v) p.1=wnt ops a p.1:=fun p hp=>by
    rw [← hstab (hnotE rfl) rfl rfl p hp v]
    unfold wnt
    cases o.dst<;>rfl
   refine ihf f zo xs A U E _ _ ({ a with defers:=ds }.put o.dst v) w' zo ?_ hrest hnd2.2 (fun u hu hm=>hdis u hu (by simp only [List.map_cons,List.mem_cons];exact .inr hm)) (fun u hu q hq=>hpr u hu q (by simp [hq]))
    (fun cs T j hj=>hal cs T j (by simp [hj])) hbd2 ?_ hk
   ·refine ⟨by simpa using I.size,fun j hj=>?_,closed_set I.closed ho hyall,by simp [put_defers'],by rw [put_size,put_size];exact I.tsz,fun t h1 h2=>?_,fun u hu=>?_,I.uself,I.uu,I.ue⟩
    ·rw [getD_set_iff (by rw [I.size];exact hj),I.unl j hj]
     simp only [List.map_cons,List.mem_cons]
     constructor
     ·rintro ⟨⟨h|h,h2⟩|h,hne⟩
      ·exact absurd h hne
      ·exact .inl ⟨h,h2⟩
      ·exact .inr h
     ·rintro (⟨h,h2⟩|h)
      ·exact ⟨.inl ⟨.inr h,h2⟩,fun e=>hnd2.1 (e ▸ h)⟩
      ·obtain ⟨u,hu,rfl⟩:=List.mem_map.1 h
       exact ⟨.inr h,fun e=>hdis u hu (by simp [e])⟩
    ·by_cases hd:o.dst=some t
     ·by_cases hlt:t<a.tmps.size
      ·rw [hd,put_eq _ _ (by exact Nat.lt_of_lt_of_eq hlt I.tsz.symm),put_eq _ _ (by exact hlt)]
      ·rw [Array.getElem?_eq_none (by rw [put_size];exact I.tsz ▸ Nat.le_of_not_lt hlt),Array.getElem?_eq_none (by rw [put_size];exact Nat.le_of_not_lt hlt)]
     ·rw [put_ne _ _ hd,put_ne _ _ hd]
      exact I.agree t h1 h2
    ·have h3:Pend P ops u { a with defers:=ds } w:=I.pend u hu
     exact (h3.put hs v fun o' ho' d hd=>(fwd_spec ho' ho (hUf rfl u hu)).1 d hd).later fun _=>hb
   ·refine ⟨fun p hp=>?_,fun p hp q hq h1 h2 h3=>he.dist p hp q hq h1 (by rw [← hst p hp];exact h2) (by rw [← hst q hq];exact h3),fun p hp d hd hlt=>?_,fun x hx=>Nat.lt_of_lt_of_le (he.old x hx) hb.size,Nat.le_trans he.base hb.size⟩
    ·obtain ⟨cs,T,hmem,hg⟩:=hxsE p hp fun e=>hnotE rfl (e ▸ List.mem_map.2 ⟨p,hp,rfl⟩)
     refine ⟨cs,T,hmem,fun hw=>?_⟩
     obtain ⟨hh,h1,h2,h3⟩:=hg (by rw [← hst p hp];exact hw)
     exact ⟨by rw [hb.block _ h2];exact hh,h1,Nat.lt_of_lt_of_le h2 hb.size,h3⟩
    ·obtain ⟨cs,T,hmem,_⟩:=hxsE p hp fun e=>hnotE rfl (e ▸ List.mem_map.2 ⟨p,hp,rfl⟩)
     have hf:=hpx rfl _ hmem
     unfold pairOk at hf
     simp only [K.isFin,Bool.false_eq_true,if_false] at hf
     have hc:=(compat_of_fwd hf).2
     rw [put_ne _ _ (fun e=>hc.1 d hd (by rw [dstOf_eq ho];exact e)),hst p hp]
     exact he.slot p hp d hd (by rwa [put_size] at hlt)
  | alloc cs T =>
   have hbl:xs.all (blocked ops i xs)=true:=by unfold okList at hok;simp only [Bool.and_eq_true] at hok;exact hok.1.1.2
   by_cases hiE:i∈E.map (·.1)
   ·obtain ⟨p,hp,hpi⟩:=List.mem_map.1 hiE
    obtain ⟨cs',T',hmem,hg⟩:=he.good p hp
    have hsame:=hinj _ hnd _ hmem (.alloc cs T,i) zi hpi
    have e1:cs'=cs:=by injection hsame with a b;injection a
    have e2:T'=T:=by injection hsame with a b;injection a
    subst e1 e2
    have hwi:wnt ops a p.1=Region.wanted o (yielded ops a.tmps):=by rw [hpi];exact wnt_eq ho
    have hslot:∀ d,o.dst=some d→d<a.tmps.size→s.tmps[d]? =some (if wnt ops a p.1 then mk p.1 p.2 else undef):=fun d hd hlt=>he.slot p hp d (by rw [hpi,dstOf_eq ho];exact hd) hlt
    have hst:∀ v,∀ q∈E,q.1≠i→wnt ops (a.put o.dst v) q.1=wnt ops a q.1:=fun v q hq hqi=>by
     obtain ⟨cs2,T2,hmem2,_⟩:=he.good q hq
     cases hy:ops[q.1]? with
     | none=>unfold wnt;rw [hy]
     | some y=>exact wnt_put hy fun d hd hm=>hbd _ hmem _ hmem2 rfl rfl d y (by show dstOf ops p.1=some d;rw [hpi,dstOf_eq ho];exact hd) hy hm
    have fin:∀ (v:Value) (A':List Nat),v=(if wnt ops a p.1 then mk p.1 p.2 else undef)→(∀ x∈A',x<w.heap.size)→(∀ q∈E,q.1≠i→wnt ops a q.1=true→q.2∉A')→walk2 P ops Q mk N xs A' (a.put o.dst v) w→wpAny P .any ops Q fuel listed s w:=fun v A' hv hA1 hA2 hk=>by
     refine ihl A' U (E.filter (fun x=>x.1 != i)) listed s (a.put o.dst v) w ?_ ?_ hrest hnd2.2 (fun u hu hm=>hdis u hu (by simp only [List.map_cons,List.mem_cons];exact .inr hm)) (fun u hu q hq=>hpr u hu q (by simp [hq]))
      (fun cs T j hj=>hal cs T j (by simp [hj])) hbd2 ?_ hk
     ·have:allocWith xs (E.filter (fun x=>x.1 != i))=allocWith ((.alloc cs' T',i)::xs) E:=by
       unfold allocWith
       rw [List.filter_cons_of_neg (by simpa using hiE)]
       congr 1
       refine List.filter_congr fun x hx=>?_
       have hxi:x.2≠i:=fun e=>hnd2.1 (e ▸ List.mem_map.2 ⟨x,hx,rfl⟩)
       congr 1
       rw [Bool.eq_iff_iff]
       simp only [List.contains_iff_mem,List.mem_map,List.mem_filter,bne_iff_ne,ne_eq]
       constructor
       ·rintro ⟨y,⟨hy,_⟩,e⟩;exact ⟨y,hy,e⟩
       ·rintro ⟨y,hy,e⟩;exact ⟨y,⟨hy,fun e2=>hxi (e ▸ e2)⟩,e⟩
      omega
     ·refine ⟨I.size,fun j hj=>?_,I.closed,by rw [put_defers'];exact I.defers,by rw [put_size];exact I.tsz,fun t h1 h2=>?_,fun u hu=>(I.pend u hu).put hs _ fun o' ho' d hd=>(fwd_spec ho' ho (hUf rfl u hu)).1 d hd,I.uself,I.uu,fun u hu q hq=>I.ue u hu q (List.mem_filter.1 hq).1⟩
      ·rw [I.unl j hj]
       simp only [List.map_cons,List.mem_cons,List.mem_map,List.mem_filter,bne_iff_ne,ne_eq]
       constructor
       ·rintro (⟨h|h,h2⟩|h)
        ·subst h;exact absurd ⟨p,hp,hpi⟩ h2
        ·exact .inl ⟨h,fun ⟨y,⟨hy,_⟩,e⟩=>h2 ⟨y,hy,e⟩⟩
        ·exact .inr h
       ·rintro (⟨h,h2⟩|h)
        ·refine .inl ⟨.inr h,fun ⟨y,hy,e⟩=>h2 ⟨y,⟨hy,fun e2=>?_⟩,e⟩⟩
         obtain ⟨z,hz,hz2⟩:=h
         exact hnd2.1 (List.mem_map.2 ⟨z,hz,by rw [hz2,← e,e2]⟩)
        ·exact .inr h
      ·by_cases hd:o.dst=some t
       ·by_cases hlt:t<a.tmps.size
        ·rw [hd,put_eq _ _ hlt,hslot t hd hlt,hv]
        ·rw [Array.getElem?_eq_none (by rw [I.tsz];exact Nat.le_of_not_lt hlt),Array.getElem?_eq_none (by rw [put_size];exact Nat.le_of_not_lt hlt)]
       ·rw [put_ne _ _ hd]
        refine I.agree t h1 fun q hq hdq=>?_
        by_cases hqi:q.1=i
        ·rw [hqi,dstOf_eq ho] at hdq;exact hd hdq
        ·exact h2 q (List.mem_filter.2 ⟨hq,by simpa using hqi⟩) hdq
     ·refine ⟨fun q hq=>?_,fun q hq r hr hne g1 g2=>?_,fun q hq d hd hlt=>?_,hA1,he.base⟩
      ·obtain ⟨hq1,hq2⟩:=List.mem_filter.1 hq
       have hqi:q.1≠i:=by simpa using hq2
       obtain ⟨cs2,T2,hmem2,hg2⟩:=hxsE q hq1 hqi
       refine ⟨cs2,T2,hmem2,fun hw=>?_⟩
       rw [hst v q hq1 hqi] at hw
       obtain ⟨hh2,g1,g2,g3⟩:=hg2 hw
       exact ⟨hh2,g1,g2,hA2 q hq1 hqi hw⟩
      ·obtain ⟨hq1,hq2⟩:=List.mem_filter.1 hq
       obtain ⟨hr1,hr2⟩:=List.mem_filter.1 hr
       rw [hst v q hq1 (by simpa using hq2)] at g1
       rw [hst v r hr1 (by simpa using hr2)] at g2
       exact he.dist q hq1 r hr1 hne g1 g2
      ·obtain ⟨hq1,hq2⟩:=List.mem_filter.1 hq
       rw [hst v q hq1 (by simpa using hq2)]
       exact he.slot q hq1 d hd (by rwa [put_size] at hlt)
    simp only at h
    cases hw:Region.wanted o (yielded ops a.tmps) with
    | true =>
     rw [hw,if_pos rfl] at h
     rw [hw] at hwi
     obtain ⟨hh,h1,h2,h3⟩:=hg hwi
     have hk:=h p.2 w (Below.refl _ _) h1 h2 h3 hh
     refine fin _ (p.2::A) (by rw [hwi,if_pos rfl,hpi]) (fun x hx=>?_) (fun q hq hqi hwq=>?_) hk
     ·rcases List.mem_cons.1 hx with hx|hx
      ·rw [hx];exact h2
      ·exact he.old x hx
     ·obtain ⟨cs2,T2,hmem2,hg2⟩:=he.good q hq
      simp only [List.mem_cons,not_or]
      exact ⟨he.dist q hq p hp (by rw [hpi];exact hqi) hwq hwi,(hg2 hwq).2.2.2⟩
    | false =>
     rw [hw,if_neg zi] at h
     rw [hw] at hwi
     refine fin _ A (by rw [hwi,if_neg zi]) he.old (fun q hq hqi hwq=>?_) h
     obtain ⟨cs2,T2,hmem2,hg2⟩:=he.good q hq
     exact (hg2 hwq).2.2.2
   ·exact actual (.inr rfl) hiE hbl fun f hf hr=>early cs T i zi hr hiE f zo zo
def check3 (ops:Array Oper) (is:List (K × Nat)):Bool :=
 Region.noSelect ops&&orderedBy (is.map (·.2)) ops&&okList ops is&&decide (is.map (·.2)).Nodup&&decide (is.length≤ops.size)&&(List.range ops.size).all (fun i=>(is.map (·.2)).contains i)&&blindB ops is
theorem wp_region_walk2 {mk:Nat→Nat→Value} {id:Nat} {a:Act} {w:World} (is:List (K × Nat)) (hm:P.follows .mixedOrders=true) (hc:check3 ops is=true) (hal:MakeRuns P ops mk is)
  (hQ:∀ c (a s:Act) w,s.defers=a.defers→Q (.panic c) a w→Q (.panic c) s w)
  (h:walk2 P ops Q mk w.drew.heap.size is [] a w.drew):(Code.region id ops true).wp P Q a w:=by
 unfold check3 at hc
 simp only [Bool.and_eq_true,decide_eq_true_eq] at hc
 obtain ⟨⟨⟨⟨⟨⟨h1,h2⟩,h3⟩,h4⟩,h5⟩,h6⟩,h7⟩:=hc
 refine wp_region_any hm ?_
 refine phase_main2 h1 (led_by h2) hQ w.heap.size ops.size is [] [] [] _ a a w.drew ?_ ?_ h3 h4 zi zi hal (blind_of h7) ?_ h
 ·rw [allocWith_nil];exact h5
 ·refine ⟨by simp,fun i hi=>?_,fun j o hj hl=>?_,rfl,rfl,fun t _ _=>rfl,by simp,by simp,by simp,by simp⟩
  ·have hmem:i∈is.map (·.2):=by simpa using List.all_eq_true.1 h6 i (List.mem_range.2 hi)
   simp [hi]
   simpa using hmem
  ·have hj':=(Array.getElem?_eq_some_iff.1 hj).1
   simp [hj'] at hl
 ·exact ⟨by simp,by simp,by simp,by simp,Nat.le_refl _⟩
structure Wm (P:Program) (ops:Array Oper) (Q:Exit→Act→World→Prop) (mk:Nat→Nat→Value) (N:Nat) (is:List (K × Nat)) (A:List Nat) (a:Act) (w:World):Prop where
 out:walk2 P ops Q mk N is A a w
variable {mk:Nat→Nat→Value} {o:Oper} {i:Nat} {is:List (K × Nat)} {a:Act} {w:World} {N:Nat} {A:List Nat}
theorem wm_skip {k:K} (hk:k.isFin=false) (ho:ops[i]? =some o) (hw:Region.wanted o (yielded ops a.tmps)=false) (h:∀ J:Act→Prop,(∀ a,Wm P ops Q mk N is A a w→J a)→J (a.put o.dst undef)):Wm P ops Q mk N ((k,i)::is) A a w:=by
 have h':=h (fun a=>walk2 P ops Q mk N is A a w) fun a ha=>ha.out
 refine ⟨?_⟩
 unfold walk2
 cases k<;>simp only [ho,hw,Bool.false_eq_true,if_false]<;>first|exact h'|simp [K.isFin] at hk
theorem wm_pure (ho:ops[i]? =some o) (hw:Region.wanted o (yielded ops a.tmps)=true) (h:∀ J:Act→Prop,(∀ a,Wm P ops Q mk N is A a w→J a)→∃ v,(∀ w',(execOp a.eval o).run P w'= .ok (.value v) w')∧J (a.put o.dst v)):Wm P ops Q mk N ((.pure,i)::is) A a w:=by
 have h':=h (fun a=>walk2 P ops Q mk N is A a w) fun a ha=>ha.out
 refine ⟨?_⟩
 unfold walk2
 simp only [ho,hw,if_true]
 exact h'
theorem wm_load {T:TypeId} {x:Operand} {p:Addr} (ho:ops[i]? =some o) (hw:Region.wanted o (yielded ops a.tmps)=true) (hop:o.op= .load T x) (hx:a.eval x= .pointer (some p))
  (h:∀ J:Value→Prop,(∀ v,Wm P ops Q mk N is A (a.put o.dst v) w→J v)→(w.cell? p).isSome=true∧∃ v,(loadVar T p).run P w= .ok v w∧J v):Wm P ops Q mk N ((.read,i)::is) A a w:=by
 obtain ⟨h1,v,h2,h3⟩:=h (fun v=>walk2 P ops Q mk N is A (a.put o.dst v) w) fun a ha=>ha.out
 refine ⟨?_⟩
 unfold walk2
 simp only [ho,hw,if_true]
 refine ⟨v,fun w' hb=>?_,h3⟩
 simp only [execOp,hop,hx,Instr.loadAt,Instr.sureAddr,Sem.run_bind,Sem.run_pure,Result.andThen_ok,loadVar_later hb h1 h2]
theorem wm_ext (ho:ops[i]? =some o) (hw:Region.wanted o (yielded ops a.tmps)=true) (h:∀ w',Below w.heap.size w w'→∀ J:Act→World→Prop,(∀ a' w'',Below w'.heap.size w' w''→Wm P ops Q mk N is A a' w''→J a' w'')→o.wp P a w' J Q):Wm P ops Q mk N ((.ext,i)::is) A a w:=by
 refine ⟨?_⟩
 unfold walk2
 simp only [ho,hw,if_true]
 exact fun w' hb=>h w' hb _ fun a' w'' h1 h2=>⟨h1,h2.out⟩
theorem wm_make {cs:Array Value} {T:TypeId} (ho:ops[i]? =some o) (hw:Region.wanted o (yielded ops a.tmps)=true) (h:∀ b w',Below w.heap.size w w'→N≤b→b<w'.heap.size→b∉A→w'.heap[b]? =some (.cells cs T (0,0))→∀ J:Act→World→Prop,(∀ a' w'',w''=w'→Wm P ops Q mk N is (b::A) a' w''→J a' w'')→J (a.put o.dst (mk i b)) w'):Wm P ops Q mk N ((.alloc cs T,i)::is) A a w:=by
 refine ⟨?_⟩
 unfold walk2
 simp only [ho,hw,if_true]
 exact fun b w' h1 h2 h3 h4 h5=>h b w' h1 h2 h3 h4 h5 (fun a' w''=>w''=w'→walk2 P ops Q mk N is (b::A) a' w'') (fun a' w'' e h _=>h.out) rfl
theorem wm_fin (l:List Oper) (hl:(i::is.map (·.2)).map (ops[·]?)=l.map some) (h:∀ w',Below w.heap.size w w'→wpList P ops Q l a w'):Wm P ops Q mk N ((.fin,i)::is) A a w:=by
 have hi:∃ o,ops[i]? =some o:=by
  cases l with
  | nil=>cases hl
  | cons x xs=>simp only [List.map_cons,List.cons.injEq] at hl;exact ⟨x,hl.1⟩
 obtain ⟨o,ho⟩:=hi
 refine ⟨?_⟩
 unfold walk2
 simp only [ho]
 exact fun w' hb=>wpOps_of_list _ l a w' hl (h w' hb)
end Go.SW
