/- Lemmas for the proof. No condition. -/
import Derived.Test.YtfhappbmgghgdaaGreatDoorWB01
import Derived.Test.YtfhappbmgghgdaaGreatDoorWB11
import Derived.Maps.AppendAt
import Derived.Deep.AppendSrc
import Derived.Deep.DeepAppendWide
set_option linter.unusedVariables false
set_option linter.unusedSimpArgs false
set_option maxRecDepth 100000
set_option maxHeartbeats 16000000
namespace Go.cK
open Go Go.RowKit Go.SW Go.Num Go.Mem Go.Proofs
def EJ (l:List (Int × Int)):List Value:=l.flatMap fun b=>[.int .i64 b.1,.int .i64 b.2]
theorem tK (l:List (Int × Int)):(EJ l).length=l.length*2:=by
 induction l with
 | nil=>rfl
 | cons b t ih =>
  have:EJ (b::t)=[.int .i64 b.1,.int .i64 b.2]++EJ t:=rfl;rw [this,List.length_append,ih,List.length_cons,List.length_cons,List.length_cons,List.length_nil];omega
theorem Kl (l m:List (Int × Int)):EJ (l++m)=EJ l++EJ m:=by unfold EJ;rw [List.flatMap_append]
theorem Tv {l:List (Int × Int)}:∀ {i:Nat} (h:i<l.length),(EJ l)[i*2]? =some (.int .i64 l[i].1)∧(EJ l)[i*2+1]? =some (.int .i64 l[i].2):=by
 induction l with
 | nil=>intro i h;cases h
 | cons b t ih =>
  intro i h;have e:EJ (b::t)= .int .i64 b.1:: .int .i64 b.2::EJ t:=rfl;rw [e];cases i with
  | zero=>exact ⟨rfl,rfl⟩
  | succ i =>
   have:=ih (i:=i) (by simpa using h);have e1:(i+1)*2=i*2+1+1:=by omega
   have e2:(i+1)*2+1=i*2+1+1+1:=by omega
   rw [e1,List.getElem?_cons_succ,List.getElem?_cons_succ,List.getElem?_cons_succ,List.getElem?_cons_succ];exact this
theorem WB (l:List (Int × Int)):∀ u∈EJ l,u.oneCell'=true:=fun u hu=>by
 unfold EJ at hu;obtain ⟨b, -, hb⟩:=List.mem_flatMap.1 hu
 rcases List.mem_cons.1 hb with rfl|hb
 ·rfl
 ·rw [List.mem_singleton.1 hb];rfl
def Own (w:World) (B:Nat) (T:TypeId) (v:Value) (l:List (Int × Int)):Prop:=w.ownsRow B T 2 v l.length (EJ l)
theorem Own.nil (w:World) (B:Nat) (T:TypeId):Own w B T (.slice none 0 0) []:=World.ownsRow_nil w B T 2
theorem Own.cases {w:World} {B:Nat} {T:TypeId} {v:Value} {l:List (Int × Int)} (h:Own w B T v l) :
  (v= .slice none 0 0∧l=[])∨∃ g cap cur,v= .slice (some ⟨g,0,none⟩) l.length cap∧B≤g∧au w g cur T∧l.length≤cap∧cap≤maxLen∧cur.size=cap*2∧cur.toList.take (l.length*2)=EJ l:=by
 rcases h.2 with ⟨h1,h2⟩|⟨g,cap,cur,h1,h2,h3,h4⟩
 ·exact .inl ⟨h1,List.length_eq_zero_iff.1 h2⟩
 ·exact .inr ⟨g,cap,cur,h1,h2,h3,h4⟩
theorem Own.mk {w:World} {B g cap:Nat} {T:TypeId} {l:List (Int × Int)} {cur:Array Value} (h1:B≤g) (h2:au w g cur T) (h3:l.length≤cap) (h4:cap≤maxLen) (h5:cur.size=cap*2) (h6:cur.toList.take (l.length*2)=EJ l):Own w B T (.slice (some ⟨g,0,none⟩) l.length cap) l :=
 ⟨tK l,.inr ⟨g,cap,cur,rfl,h1,h2,h3,h4,h5,h6⟩⟩
theorem Own.slice {w:World} {B:Nat} {T:TypeId} {v:Value} {l:List (Int × Int)} (h:Own w B T v l):∃ a c,v= .slice a l.length c:=by
 rcases h.cases with ⟨rfl,rfl⟩|⟨g,cap,cur,rfl, -⟩
 ·exact ⟨_,_,rfl⟩
 ·exact ⟨_,_,rfl⟩
theorem Own.bds {w:World} {B:Nat} {T:TypeId} {v:Value} {l:List (Int × Int)} (h:Own w B T v l):jZ w T v l:=by
 rcases h.cases with ⟨rfl,rfl⟩|⟨g,cap,cur,rfl,h1,h2,h3,h4,h5,h6⟩
 ·exact ⟨none,0,rfl,Nat.le_refl _,by omega,fun _ h=>by cases h⟩
 ·unfold maxLen at h4;refine jZ.pz h2 rfl h3 h4 fun i hi=>?_;have k:=Tv hi;rw [← h6,List.getElem?_take_of_lt zo,List.getElem?_take_of_lt zo,Array.getElem?_toList,Array.getElem?_toList] at k;exact k
theorem Own.later {w w':World} {B:Nat} {T:TypeId} {v:Value} {l:List (Int × Int)} (h:Own w B T v l) (hb:Below w.heap.size w w'):Own w' B T v l:=by
 rcases h.cases with ⟨rfl,rfl⟩|⟨g,cap,cur,rfl,h1,h2,h3,h4,h5,h6⟩
 ·exact Own.nil _ _ _
 ·exact Own.mk h1 (h2.later hb) h3 h4 h5 h6
theorem Own.kept {w w':World} {B:Nat} {T:TypeId} {v:Value} {l:List (Int × Int)} {row:Option Nat} (h:Own w B T v l) (hg:w.grownBy w' row) (hne:∀ r,v.ownBlock=some r→row≠some r):Own w' B T v l:=by
 rcases h.cases with ⟨rfl,rfl⟩|⟨g,cap,cur,rfl,h1,h2,h3,h4,h5,h6⟩
 ·exact Own.nil _ _ _
 ·refine Own.mk h1 ?_ h3 h4 h5 h6;have:=hg.block g h2.lt (fun e=>hne g rfl e.symm);unfold au at *;rw [this];exact h2
theorem Own.lt {w:World} {B:Nat} {T:TypeId} {v:Value} {l:List (Int × Int)} (h:Own w B T v l):∀ r,v.ownBlock=some r→B≤r∧r<w.heap.size:=fun r hr=>by
 rcases h.cases with ⟨rfl,rfl⟩|⟨g,cap,cur,rfl,h1,h2, -⟩
 ·cases hr
 ·cases hr
  exact ⟨h1,h2.lt⟩
theorem au.grown {w w':World} {b:Nat} {cs:Array Value} {T:TypeId} {row:Option Nat} (h:au w b cs T) (hg:w.grownBy w' row) (hne:row≠some b):au w' b cs T:=by
 have:=hg.block b h.lt (fun e=>hne e.symm);unfold au at *;rw [this];exact h
theorem jZ.src {w:World} {T:TypeId} {ad:Addr} {n c:Nat} {l:List (Int × Int)} (h:jZ w T (.slice (some ad) n c) l):n=l.length∧∀ j u,(EJ l)[j]? =some u→w.cell? (ad.add j)=some u:=by
 obtain ⟨a,cap,h1,h2,h3,h4⟩:=h;cases h1
 refine ⟨rfl,fun j u hu=>?_⟩
 have hj:j<l.length*2:=by
  have:=(List.getElem?_eq_some_iff.1 hu).1
  rwa [tK] at this
 have hi:j / 2<l.length:=by omega
 have k:=Tv hi;obtain ⟨b,off,e, -, m⟩:=h4 _ hi;cases e
 rw [Addr.add_lit]
 rcases Nat.mod_two_eq_zero_or_one j with e|e
 ·have e2:j / 2*2=j:=by omega
  rw [e2] at k m;rw [← hu,k.1];exact m.1
 ·have e2:j / 2*2+1=j:=by omega
  have e3:off+j / 2*2+1=off+j:=by omega
  rw [e2] at k;rw [e3] at m;rw [← hu,k.2];exact m.2
theorem WE (ty:TypeId) {w:World} {B:Nat} {v:Value} {l:List (Int × Int)} (hO:Own w B 69 v l) {ad:Addr} {n c:Nat} {m:List (Int × Int)} {T:TypeId} (hS:jZ w T (.slice (some ad) n c) m) (hl:l.length+m.length≤1000) (hB:B≤w.heap.size) :
  ∃ v' w',(Builtin.append_ #[63,63] ty #[v,.slice (some ad) n c]).run Tryz.prog w= .ok v' w'∧Own w' B 69 v' (l++m)∧w.grownBy w' v.ownBlock∧(v'.ownBlock=v.ownBlock∨v'.ownBlock=some w.heap.size):=by
 obtain ⟨i0,hi,hz0,hz1,hz2⟩:=info_parts Go.Proofs.matrix.zL;obtain ⟨rfl,hc⟩:=hS.src;obtain ⟨v',w',h1,h2,h3, -, h4⟩:=run_append_own_at (P:=Tryz.prog) w B 63 ty 69 i0 (.agg #[.int .i64 0,.int .i64 0]) 2 16 Tryz.underlying63 hi hz0 hz1 hz2 rfl zd v l.length (EJ l) hO ad m.length c (EJ m) (tK m) hc (WB m) (by unfold maxLen;omega) zo hB;refine ⟨v',w',h1,?_,h3,h4⟩;unfold Own;rw [List.length_append,Kl];exact h2
theorem MP {o:Oper} {a:Act} {w:World} {K:Act→World→Prop} {Q:Exit→Act→World→Prop} (s x:Operand) (ho:o.op= .call { callee:=.builtin .append,args:=#[s,x],argTypes:=#[63,63] })
  {B:Nat} {v:Value} {l:List (Int × Int)} (hs:a.eval s=v) (hO:Own w B 69 v l) {ad:Addr} {n c:Nat} {m:List (Int × Int)} {T:TypeId} (hx:a.eval x= .slice (some ad) n c) (hS:jZ w T (.slice (some ad) n c) m) (hl:l.length+m.length≤1000) (hB:B≤w.heap.size)
  (h:∀ v' w',Own w' B 69 v' (l++m)→w.grownBy w' v.ownBlock→(v'.ownBlock=v.ownBlock∨v'.ownBlock=some w.heap.size)→K (a.put o.dst v') w'):o.wp Tryz.prog a w K Q:=by
 obtain ⟨v',w',hr,h1,h2,h3⟩:=WE o.type hO hS hl hB;unfold Oper.wp execOp;simp only [ho,resolve,invoke,builtin,Sem.run_bind,Sem.run_pure,Result.andThen_ok,List.map_toArray,List.map_cons,List.map_nil,hs,hx,hr];exact h _ _ h1 h2 h3
theorem ko {ops:Array Oper} {rest:List Oper} {o:Oper} {a:Act} {w:World} {Q:Exit→Act→World→Prop} (hgd:o.guard=none) (s x:Operand) (ho:o.op= .call { callee:=.builtin .append,args:=#[s,x],argTypes:=#[63,63] })
  {B:Nat} {v:Value} {l:List (Int × Int)} (hs:a.eval s=v) (hO:Own w B 69 v l) {ad:Addr} {n c:Nat} {m:List (Int × Int)} {T:TypeId} (hx:a.eval x= .slice (some ad) n c) (hS:jZ w T (.slice (some ad) n c) m) (hl:l.length+m.length≤1000) (hB:B≤w.heap.size)
  (h:∀ v' w',Own w' B 69 v' (l++m)→w.grownBy w' v.ownBlock→(v'.ownBlock=v.ownBlock∨v'.ownBlock=some w.heap.size)→wpList Tryz.prog ops Q rest (a.put o.dst v') w'):wpList Tryz.prog ops Q (o::rest) a w :=
 wpList_plain hgd fun _ hK=>MP s x ho hs hO hx hS hl hB fun v' w' h1 h2 h3=>hK _ _ (h v' w' h1 h2 h3)
def Xm (w:World) (v:Value) (l:List (Int × Int)):Prop :=
 ∃ a cap,v= .slice a l.length cap∧l.length≤cap∧cap≤9223372036854775807∧∀ k (_:k<l.length),∃ b off,a=some ⟨b,off,none⟩∧b<w.heap.size∧w.cell? ⟨b,off+k*2,none⟩=some (.int .i64 l[k].1)∧w.cell? ⟨b,off+k*2+1,none⟩=some (.int .u32 l[k].2)∧0≤l[k].2∧l[k].2≤4294967295
theorem Tt {w:World} {T:TypeId} {a:Option Addr} {n c:Nat} {l:List (Int × Int)} (h:jZ w T (.slice a n c) l) {k:Nat} (hk:k≤n):jZ w T (.slice a k c) (l.take k):=by
 obtain ⟨a',cap,e,h1,h2,h3⟩:=h;cases e
 have hl:(l.take k).length=k:=by rw [List.length_take];omega
 refine ⟨a,c,by rw [hl],by omega,h2,fun i hi=>?_⟩;rw [hl] at hi;rw [List.getElem_take];exact h3 i zo
theorem Sw {w:World} {a:Option Addr} {n c:Nat} {l:List (Int × Int)} (h:Xm w (.slice a n c) l) {k:Nat} (hk:k≤n):Xm w (.slice a k c) (l.take k):=by
 obtain ⟨a',cap,e,h1,h2,h3⟩:=h;cases e
 have hl:(l.take k).length=k:=by rw [List.length_take];omega
 refine ⟨a,c,by rw [hl],by omega,h2,fun i hi=>?_⟩;rw [hl] at hi;rw [List.getElem_take];exact h3 i zo
theorem Xm.later {w w':World} {v:Value} {l:List (Int × Int)} (h:Xm w v l) (hb:Below w.heap.size w w'):Xm w' v l:=by
 obtain ⟨a,cap,h1,h2,h3,h4⟩:=h;refine ⟨a,cap,h1,h2,h3,fun k hk=>?_⟩;obtain ⟨b,off,h5,h6,h7,h8,h9⟩:=h4 k hk;exact ⟨b,off,h5,Nat.lt_of_lt_of_le h6 hb.size,(hb.cell (p:=⟨b,off+k*2,none⟩) h6).trans h7,(hb.cell (p:=⟨b,off+k*2+1,none⟩) h6).trans h8,h9⟩
theorem aa3 {w:World} {a:Option Addr} {n c:Nat} {l:List (Int × Int)} (h:Xm w (.slice a n c) l) (hl:l.length=n) (k:Nat) (hk:k<n) :
  ∃ b off x y,a=some ⟨b,off,none⟩∧b<w.heap.size∧w.cell? ⟨b,off+k*2,none⟩=some (.int .i64 x)∧w.cell? ⟨b,off+k*2+1,none⟩=some (.int .u32 y)∧0≤y∧y≤4294967295:=by
 obtain ⟨a',cap,e,h1,h2,h3⟩:=h;cases e
 obtain ⟨b,off,h4⟩:=h3 k hk;exact ⟨b,off,_,_,h4⟩
theorem sliceTo (t e:TypeId) (ht:Tryz.prog.underlying t=some (.slice e)) (hs:∀ W,(sizeOf e).run Tryz.prog W= .ok 2 W) (a:Option Addr) (n c m:Nat) (hm:m≤c) (W:World) :
  (Instr.sliceAt t (.slice a n c) none (some (.int .i64 (m:Int))) none).run Tryz.prog W= .ok (.slice a m c) W:=by
 have he:Tryz.prog.elem t=e:=by simp [Program.elem,ht]
 rw [run_sliceAt_slice (h:=by rw [he];exact ht),run_slice_h (ht:=by rw [he];exact ht) (h0:=by omega) (h2:=by omega),he,hs];simp only [Result.andThen,sliced,Nat.sub_zero,Int.toNat_natCast];split
 ·rfl
 ·cases a
  ·rfl
  ·rename_i ad;simp [Addr.add]
end Go.cK
