/- Lemmas for the proof. No condition. -/
import Derived.Test.YtneajphgfdlmhaaGreatDoorQB02
import Derived.Test.YtneajphgfdlmhaaGreatDoorProg
import Derived.WalkKit
import Derived.WalkSpells
import Derived.WalkLawsBesides
import Derived.Lib.Hide
import Derived.Laws.OwnMore
import Derived.Lib.ItoaNum
import Derived.Laws.ResultCell
import Derived.Laws.Rows
import Derived.Shelf.Strings.Builder1
import Derived.Shelf.LaysM
import Derived.Shelf.Strconv.Itoa3
import Derived.Shelf.Strconv.Clone
import Derived.Shelf.Strconv.SyntaxError
import Derived.Shelf.LaysC
import Derived.Shelf.Strconv.ToError
import Derived.Shelf.Strconv.Lower
import Derived.Shelf.Strconv.RangeError
import Derived.Shelf.Strconv.ToErrorRange
import Derived.Shelf.Bits.Mul64
import Derived.Shelf.Strings.Repeat
import Derived.Lib.AppendStr
import Derived.Lib.Builder
import Derived.Lib.AppendIntMem
set_option linter.unusedVariables false
set_option linter.unusedSimpArgs false
set_option maxRecDepth 100000
set_option maxHeartbeats 16000000
open Array renaming getElem?_eq_none → bZ
open Bool renaming and_eq_true → aK, eq_iff_iff → iN, not_eq_true' → jh
open Go.Ending renaming returned → aj
open Go.IntKind renaming i64 → I
open Go.Value renaming agg → au, bool → ak, int → Z, pointer → aB, slice → ah, string → O, tuple → aG
open List renaming all_eq_true → dX, append_assoc → ji, getD_eq_getElem?_getD → bY, getElem?_append_left → eO, getElem?_drop → iX, length_cons → bg, mem_of_mem_take → jk, replicate → bM, take_append_drop → jW, take_of_length_le → dG
open Nat renaming add_mul → dM, div_eq_of_lt → fI, eq_zero_or_pos → aV, le_refl → aD, lt_of_lt_of_le → aI, lt_or_ge → aO, mod_eq_of_lt → gq, mul_assoc → dx, mul_comm → aL, mul_pos → iH, pow_le_pow_right → bI, pow_succ → bN, strongRecOn → gL, zero_add → dK
namespace Go.Mem
open Go Go.RowKit Go.SW Go.Num
def aA (w:World) (b:Nat) (cs:Array Value) (T:TypeId):Prop:=w.heap[b]? =some (.cells cs T (0,0))
theorem aA.lt {w:World} {b:Nat} {cs:Array Value} {T:TypeId} (h:aA w b cs T):b<w.heap.size:=by
 rcases aO b w.heap.size with h1|h1
 ·exact h1
 ·unfold aA at h;rw [bZ h1] at h;cases h
theorem aA.cell {w:World} {b:Nat} {cs:Array Value} {T:TypeId} (h:aA w b cs T) (o:Nat):w.cell? ⟨b,o,none⟩=cs[o]? :=by
 unfold aA at h;simp [World.cell?, h]
theorem aA.free {w:World} {b:Nat} {cs:Array Value} {T:TypeId} (h:aA w b cs T) (o:Nat):w.frozen? ⟨b,o,none⟩=false:=by
 unfold aA at h;simp [World.frozen?, h]
theorem aA.later {w w':World} {b:Nat} {cs:Array Value} {T:TypeId} (h:aA w b cs T) (hb:Below w.heap.size w w'):aA w' b cs T:=by
 unfold aA;rw [hb.block b h.lt];exact h
theorem aA.new (w:World) (cs:Array Value) (T:TypeId):aA (w.alloc (.cells cs T (0,0))) w.heap.size cs T:=by
 show (w.heap.push _)[w.heap.size]? =_;simp
theorem aA.alloc {w:World} {b:Nat} {cs:Array Value} {T:TypeId} (h:aA w b cs T) (o:Obj):aA (w.alloc o) b cs T :=
 h.later ((Below.refl _ _).alloc (aD _) _)
theorem aA.drew {w:World} {b:Nat} {cs:Array Value} {T:TypeId} (h:aA w b cs T):aA w.drew b cs T:=h
theorem Cv {w:World} {b:Nat} (a:Addr) (u:Value) (h:b≠a.block):(w.setCell a u).heap[b]? =w.heap[b]? :=Below.heap_setCell w a u b h
theorem aA.setOther {w:World} {b:Nat} {cs:Array Value} {T:TypeId} (h:aA w b cs T) {a:Addr} (u:Value) (hne:b≠a.block):aA (w.setCell a u) b cs T:=by
 unfold aA;rw [Cv a u hne];exact h
theorem aA.set {w:World} {b:Nat} {cs:Array Value} {T:TypeId} (h:aA w b cs T) (o:Nat) (u:Value):aA (w.setCell ⟨b,o,none⟩ u) b (cs.setIfInBounds o u) T:=by
 have hl:=h.lt;unfold aA at h ⊢;have e:w.heap[b]= .cells cs T (0,0):=by simpa [hl] using h
 simp [World.setCell,hl,Array.getElem_modify,e]
theorem aA.ne {w:World} {b b':Nat} {cs cs':Array Value} {T T':TypeId} (h:aA w b cs T) (h':aA w b' cs' T') (hT:T≠T'):b≠b':=by
 rintro rfl;unfold aA at h h';rw [h] at h'
 injection h' with e
 injection e with _ e2
 exact hT e2
theorem TD {w w':World} {n:Nat} (h:Below (w.drewN n).heap.size (w.drewN n) w'):Below w.heap.size w w':=⟨h.os,h.tape,h.output,h.size,h.block⟩
theorem Bt {w w1 w2:World} (h:Below w.heap.size w w1) (k:Below w1.heap.size w1 w2):Below w.heap.size w w2:=mF h k
def Row (w:World) (T:TypeId) (v:Value) (xs:List Value):Prop :=
 ∃ a cap,v= ah a xs.length cap∧xs.length≤cap∧cap≤9223372036854775807∧(a=none→cap=0) ∧
  ∀ ad,a=some ad→ad.spot=none∧∃ arr,w.heap[ad.block]? =some (.cells arr T (0,0))∧∀ i (h:i<xs.length),arr[ad.off+i]? =some xs[i]
theorem Row.later {w w':World} {T:TypeId} {v:Value} {xs:List Value} (h:Row w T v xs) (hb:Below w.heap.size w w'):Row w' T v xs:=by
 obtain ⟨a,cap,h1,h2,h3,h4,h5⟩:=h;refine ⟨a,cap,h1,h2,h3,h4,fun ad had=>?_⟩;obtain ⟨h6,arr,h7,h8⟩:=h5 ad had;have hx:aA w ad.block arr T:=h7;exact ⟨h6,arr,hx.later hb,h8⟩
theorem Row.setOther {w:World} {T:TypeId} {v:Value} {xs:List Value} (h:Row w T v xs) {b:Nat} {cs:Array Value} {T':TypeId} (hx:aA w b cs T') (hT:T≠T') (o:Nat) (u:Value):Row (w.setCell ⟨b,o,none⟩ u) T v xs:=by
 obtain ⟨a,cap,h1,h2,h3,h4,h5⟩:=h;refine ⟨a,cap,h1,h2,h3,h4,fun ad had=>?_⟩;obtain ⟨h6,arr,h7,h8⟩:=h5 ad had;have hy:aA w ad.block arr T:=h7;exact ⟨h6,arr,hy.setOther u (hy.ne hx hT),h8⟩
theorem Row.nil (w:World) (T:TypeId):Row w T (ah none 0 0) []:=⟨none,0,rfl,by simp,by simp,fun _=>rfl,fun _ h=>by cases h⟩
theorem Row.cases {w:World} {T:TypeId} {v:Value} {xs:List Value} (h:Row w T v xs) :
  (v= ah none 0 0∧xs=[])∨∃ b off cap arr,v= ah (some ⟨b,off,none⟩) xs.length cap∧xs.length≤cap∧cap≤9223372036854775807∧aA w b arr T∧∀ i (h:i<xs.length),arr[off+i]? =some xs[i]:=by
 obtain ⟨a,cap,h1,h2,h3,h4,h5⟩:=h;cases a with
 | none =>
  have h6:=h4 rfl;have h7:xs=[]:=List.length_eq_zero_iff.1 zo;subst h6 h7;exact .inl ⟨h1,rfl⟩
 | some ad =>
  obtain ⟨h6,arr,h7,h8⟩:=h5 ad rfl;obtain ⟨b,off,sp⟩:=ad;simp only at h6;subst h6;exact .inr ⟨b,off,cap,arr,h1,h2,h3,h7,h8⟩
theorem Row.mk {w:World} {T:TypeId} {xs:List Value} {b off cap n:Nat} {arr:Array Value} (hn:n=xs.length) (h2:xs.length≤cap) (h3:cap≤9223372036854775807) (h7:aA w b arr T) (h8:∀ i (h:i<xs.length),arr[off+i]? =some xs[i]) :
  Row w T (ah (some ⟨b,off,none⟩) n cap) xs:=by
 subst hn;exact ⟨_,_,rfl,h2,h3,(fun h=>by cases h),fun ad had=>by cases had;exact ⟨rfl,arr,h7,h8⟩⟩
def eH (l:List Nat):List Value:=l.map fun (d:Nat)=>Z .u32 (d:Int)
def ints (l:List Nat):List Value:=l.map fun (d:Nat)=>Z I (d:Int)
theorem fB (l:List Nat):(eH l).length=l.length:=by simp [eH]
theorem dI (l:List Nat):(ints l).length=l.length:=by simp [ints]
def bW (w:World) (v:Value) (n:Nat):Prop:=Row w 61 v (eH (eF 1000000000 n))
theorem bW.later {w w':World} {v:Value} {n:Nat} (h:bW w v n) (hb:Below w.heap.size w w'):bW w' v n:=Row.later h hb
theorem bW.setOther {w:World} {v:Value} {n:Nat} (h:bW w v n) {b:Nat} {cs:Array Value} {T':TypeId} (hx:aA w b cs T') (hT:61≠T') (o:Nat) (u:Value):bW (w.setCell ⟨b,o,none⟩ u) v n:=Row.setOther h hx hT o u
def nC (w:World) (v:Value) (l:List Nat):Prop:=Row w 61 v (eH l)
theorem nC.later {w w':World} {v:Value} {l:List Nat} (h:nC w v l) (hb:Below w.heap.size w w'):nC w' v l:=Row.later h hb
theorem nC.cases {w:World} {v:Value} {l:List Nat} (h:nC w v l) :
  (v= ah none 0 0∧l=[])∨∃ b off cap,v= ah (some ⟨b,off,none⟩) l.length cap∧l.length≤cap∧cap≤9223372036854775807∧b<w.heap.size∧(∃ arr,aA w b arr 61)∧∀ i,i<l.length→w.cell? ⟨b,off+i,none⟩=some (.int .u32 (l.getD i 0:Nat)):=by
 rcases Row.cases h with ⟨h1,h2⟩|⟨b,off,cap,arr,h1,h2,h3,h4,h5⟩
 ·refine .inl ⟨h1,?_⟩;unfold eH at h2
  simpa using h2
 ·refine .inr ⟨b,off,cap,by rw [h1,fB],by rwa [fB] at h2,h3,h4.lt,⟨arr,h4⟩,fun i hi=>?_⟩;rw [h4.cell,h5 i (by rw [fB];exact hi)];simp [eH,hi]
theorem nC.read {w:World} {v:Value} {l:List Nat} (h:nC w v l) :
  ∃ a cap,v= ah a l.length cap∧l.length≤cap∧cap≤9223372036854775807∧∀ k,k<l.length→∃ b off,a=some ⟨b,off,none⟩∧b<w.heap.size∧w.cell? ⟨b,off+k,none⟩=some (.int .u32 (l.getD k 0:Nat)):=by
 rcases nC.cases h with ⟨rfl,rfl⟩|⟨b,off,cap,rfl,h1,h2,h3,_,h5⟩
 ·exact ⟨none,0,rfl,by simp,by simp,fun k hk=>by cases hk⟩
 ·exact ⟨some ⟨b,off,none⟩,cap,rfl,h1,h2,fun k hk=>⟨b,off,rfl,h3,h5 k hk⟩⟩
theorem bW.LW {w:World} {v:Value} {l:List Nat} (h:nC w v l) (hd:fZ 1000000000 l) (ht:Top l):bW w v (val 1000000000 l):=by
 unfold bW;rw [CZ zo hd ht];exact h
theorem bW.Da {w:World} {v:Value} {n:Nat} (h:bW w v n):nC w v (eF 1000000000 n):=h
theorem Row.ig {w:World} {base k:Nat} {T:TypeId} {v:Value} {xs:List Value} (h:w.ownsRow base T 1 v k xs):Row w T v xs:=by
 obtain ⟨h1,h2|⟨g,cap,cur,h3,h4,h5,h6,h7,h8,h9⟩⟩:=h
 ·obtain ⟨rfl,rfl⟩:=h2;have:xs=[]:=List.length_eq_zero_iff.1 zo;subst this;exact Row.nil _ _
 ·rw [Nat.mul_one] at h1 h8 h9;subst h3;unfold maxLen at h7;refine Row.mk h1.symm zo h7 h5 fun i hi=>?_;have hik:i<k:=by omega
  rw [dK];have:xs[i]? =(cur.toList.take k)[i]? :=by rw [h9]
  rw [List.getElem?_take_of_lt hik] at this;rw [← Array.getElem?_toList,← this];simp [hi]
theorem nC.ig {w:World} {base k:Nat} {v:Value} {s:List Nat} (h:w.ownsRow base 61 1 v k (eH s)):nC w v s:=Row.ig h
theorem qR (n:Nat):(madeCells #[Value.int .u32 0] n).toList=eH (bM n 0):=by
 rw [toList_madeCells_one];simp [eH]
theorem kU (l:List Nat) (k d:Nat):(eH l).set k (Z .u32 (d:Int))=eH (l.set k d):=by simp [eH,List.map_set]
theorem nP {l:List Nat} {k:Nat} (h:k<l.length):(eH l)[k]? =some (.int .u32 (l.getD k 0:Nat)):=by simp [eH,h]
theorem QD (w:World) (g:Option Nat):w.grownBy w g:=⟨rfl,rfl,rfl,aD _,fun _ _ _=>rfl⟩
theorem lJ {a w:World} {g:Option Nat} (h:a.grownBy w g) (n:Nat):a.grownBy (w.drewN n) g:=⟨h.os,h.tape,h.output,h.size,h.block⟩
theorem xR {a w:World} {g:Nat} (h:a.grownBy w (some g)) (o:Nat) (u:Value):a.grownBy (w.setCell ⟨g,o,none⟩ u) (some g) :=
 ⟨h.os,h.tape,h.output,by simpa [World.setCell] using h.size,fun i hi hne=>(Below.heap_setCell w _ u i (by rintro rfl;exact hne rfl)).trans (h.block i hi hne)⟩
theorem EH {B g:Nat} {a b c:World} (h:Below B a b) (k:b.grownBy c (some g)) (hB:B≤b.heap.size) (hg:B≤g):Below B a c :=
 h.grown k hB (fun k hk=>by cases hk;exact hg)
theorem uG {w:World} {base g n:Nat} {T:TypeId} {xs:List Value} (h:w.ownsRow base T 1 (ah (some ⟨g,0,none⟩) n n) n xs):aA w g xs.toArray T∧base≤g:=by
 obtain ⟨h1,h2|⟨g',cap,cur,h3,h4,h5,h6,h7,h8,h9⟩⟩:=h
 ·cases h2.1
 ·simp only [Value.slice.injEq,Option.some.injEq,Addr.mk.injEq,and_true,true_and] at h3;obtain ⟨rfl,rfl⟩:=h3;rw [Nat.mul_one] at h8 h9;rw [dG (by rw [Array.length_toList,h8];exact aD _)] at h9;exact ⟨by unfold aA;rw [h5,← h9],h4⟩
theorem nC.wE {w:World} {g n m:Nat} {l post:List Nat} (h:aA w g (eH (l++post)).toArray 61) (hl:l.length=n) (hm:n≤m) (hm2:m≤9223372036854775807):nC w (ah (some ⟨g,0,none⟩) n m) l:=by
 refine Row.mk (by rw [fB];omega) (by rw [fB];omega) hm2 h fun i hi=>?_;rw [fB] at hi;rw [dK,List.getElem?_toArray];simp [eH,hi,eO]
theorem bW.lit {w:World} {d:Nat} (h0:0<d) (h1:d<1000000000):bW (w.alloc (.cells #[Z .u32 d] 61 (0,0))) (ah (some ⟨w.heap.size,0,none⟩) 1 1) d:=by
 have e:eF 1000000000 d=[d]:=by rw [kW zo h0,gq h1,fI h1,iD]
 unfold bW;rw [e];refine Row.mk rfl (by simp [eH]) zo (aA.new _ _ _) fun i hi=>?_
 match i,hi with
 | 0,_=>rfl
theorem bW.zero (w:World):bW w (ah none 0 0) 0:=by unfold bW;rw [iD];exact Row.nil _ _
theorem Gg (l:List Nat):∀ v∈eH l,v.oneCell'=true:=fun v hv=>by
 obtain ⟨d,_,rfl⟩:=List.mem_map.1 hv;rfl
theorem nC.src {w:World} {a:Option Addr} {l:List Nat} (h:∀ k,k<l.length→∃ b off,a=some ⟨b,off,none⟩∧b<w.heap.size∧w.cell? ⟨b,off+k,none⟩=some (.int .u32 (l.getD k 0:Nat))) (hl:0<(eH l).length) :
  ∃ ad,a=some ad∧∀ j v,(eH l)[j]? =some v→w.cell? (ad.add j)=some v:=by
 rw [fB] at hl;obtain ⟨b,off,rfl,_,_⟩:=h 0 hl;refine ⟨_,rfl,fun j v hv=>?_⟩
 have hj:j<l.length:=by
  have:=(List.getElem?_eq_some_iff.1 hv).1;rwa [fB] at this
 obtain ⟨b',off',h1,_,h3⟩:=h j hj;simp only [Option.some.injEq,Addr.mk.injEq,and_true] at h1;obtain ⟨rfl,rfl⟩:=h1;rw [nP hj] at hv;rw [Addr.add_lit,h3,← hv]
end Go.Mem
namespace Go.Dec
open Go.Num Go.Lib
theorem iM {u:Nat} (h:u<10):decDigits u=[UInt8.ofNat (48+u)]:=by rw [decDigits,dif_pos h]
theorem qc {u:Nat} (h:¬ u<10):decDigits u=decDigits (u / 10)++[UInt8.ofNat (48+u%10)]:=by rw [decDigits,dif_neg h]
theorem uz (u:Nat):decDigits u≠[]:=by
 by_cases h:u<10
 ·rw [iM h];simp
 ·rw [qc h];simp
theorem uE (u:Nat):1≤(decDigits u).length:=List.length_pos_iff.mpr (uz u)
def pad:Nat→Nat→List UInt8
 | 0,_=>[]
 | k+1,r=>pad k (r / 10)++[UInt8.ofNat (48+r%10)]
theorem o9:∀ k r,(pad k r).length=k
 | 0,_=>rfl
 | k+1,r=>by simp [pad,o9 k]
theorem BZ:∀ k,pad k 0=bM k 48
 | 0=>rfl
 | k+1=>by
  rw [pad,Nat.zero_div,BZ k,List.replicate_succ'];rfl
theorem Bf:∀ (k q r:Nat),0<q→r<10^k→decDigits (q*10^k+r)=decDigits q++pad k r
 | 0,q,r,hq,hr=>by
  have:r=0:=by simpa using hr
  subst this;simp [pad]
 | k+1,q,r,hq,hr=>by
  have hp:0<10^k:=Nat.pow_pos zd;have e:q*10^(k+1)+r=10*(q*10^k)+r:=by rw [bN,aL 10,dx]
  have h1:0<q*10^k:=iH hq hp
  rw [qc zo,e,show (10*(q*10^k)+r) / 10=q*10^k+r / 10 by omega,show (10*(q*10^k)+r)%10=r%10 by omega,
   Bf k q (r / 10) hq (by rw [bN] at hr;omega),pad,ji]
theorem yB:∀ (k r:Nat),0<k→r<10^k→bM (k - (decDigits r).length) 48++decDigits r=pad k r
 | 0,_,h,_=>by omega
 | k+1,r,_,hr=>by
  by_cases h:r<10
  ·rw [iM h,pad,fI h,gq h,BZ];simp
  ·have hk:0<k:=by
    rcases aV k with h0|h0
    ·subst h0;simp at hr;omega
    ·exact h0
   rw [qc h,pad,← yB k (r / 10) hk (by rw [bN] at hr;omega)];simp
theorem lS:∀ (k r:Nat),0<k→r<10^k→(decDigits r).length≤k:=fun k r hk hr=>by
 by_cases h:(decDigits r).length≤k
 ·exact h
 ·have h1:=congrArg List.length (yB k r hk hr);rw [List.length_append,List.length_replicate,o9] at h1;omega
theorem Db (n:Nat):n<10^(decDigits n).length:=by
 induction n using gL with
 | _ n ih =>
  by_cases h:n<10
  ·rw [iM h];simpa using h
  ·rw [qc h,List.length_append,List.length_singleton,bN];have:=ih (n / 10) zo;omega
def num (l:List UInt8):Nat:=l.foldl (fun v b=>v*10+(b.toNat - 48)) 0
def qL (l:List UInt8):Prop:=∀ b∈l,48≤b.toNat∧b.toNat≤57
theorem pz (l:List UInt8) (b:UInt8):num (l++[b])=num l*10+(b.toNat - 48):=by simp [num]
theorem GL:num []=0:=rfl
theorem zw:∀ (m:List UInt8) (v:Nat),m.foldl (fun v b=>v*10+(b.toNat - 48)) v=v*10^m.length+num m
 | [],v=>by simp [num]
 | b::m,v=>by
  have h1:=zw m (v*10+(b.toNat - 48));have h2:=zw m (0*10+(b.toNat - 48));rw [List.foldl_cons,h1];have e:num (b::m)=m.foldl (fun v b=>v*10+(b.toNat - 48)) (0*10+(b.toNat - 48)):=rfl;rw [e,h2,bg,bN,dM,dM,dx,aL (10^m.length) 10];omega
theorem Cg (l m:List UInt8):num (l++m)=num l*10^m.length+num m:=by
 unfold num;rw [List.foldl_append,zw];rfl
theorem IW {α:Type} {Q:List α→Prop} (h0:Q []) (h1:∀ l a,Q l→Q (l++[a])) (l:List α):Q l:=by
 have h:∀ m:List α,Q m.reverse:=fun m=>by
  induction m with
  | nil=>exact h0
  | cons a m ih=>rw [List.reverse_cons];exact h1 _ _ ih
 have:=h l.reverse
 rwa [List.reverse_reverse] at this
theorem TH (l:List UInt8):qL l→num l<10^l.length :=
 IW (Q:=fun l=>qL l→num l<10^l.length) (fun _=>by simp [num]) (fun l b ih h=>by
  rw [pz,List.length_append,List.length_singleton,bN];have h1:=ih fun x hx=>h x (by simp [hx]);have h2:=h b zi;omega) l
theorem JX {l m:List UInt8} (h:qL l) (k:qL m):qL (l++m):=fun b hb=>by
 rcases List.mem_append.mp hb with hb|hb
 ·exact h b hb
 ·exact k b hb
theorem nL {d:Nat} (h:d<10):(UInt8.ofNat (48+d)).toNat=48+d:=by
 rw [UInt8.toNat_ofNat'];omega
theorem mY (n:Nat):qL (decDigits n):=by
 induction n using gL with
 | _ n ih =>
  by_cases h:n<10
  ·rw [iM h];intro b hb;rw [List.mem_singleton] at hb;subst hb;rw [nL h];omega
  ·rw [qc h];refine JX (ih _ zo) fun b hb=>?_;rw [List.mem_singleton] at hb;subst hb;rw [nL zo];omega
theorem nM (n:Nat):num (decDigits n)=n:=by
 induction n using gL with
 | _ n ih =>
  by_cases h:n<10
  ·rw [iM h,← List.nil_append [UInt8.ofNat (48+n)],pz,GL,nL h];omega
  ·rw [qc h,pz,ih _ zo,nL zo];omega
theorem XJ (l:List UInt8):qL l→l≠[]→(l.head? =some 48→l.length=1)→decDigits (num l)=l :=
 IW (Q:=fun l=>qL l→l≠[]→(l.head? =some 48→l.length=1)→decDigits (num l)=l) (fun _ h=>absurd rfl h) (fun l b ih hd _ h0=>by
  have hb:=hd b zi
  have hbe:UInt8.ofNat (48+(b.toNat - 48))=b:=by
   rw [show 48+(b.toNat - 48)=b.toNat by omega];exact UInt8.ofNat_toNat
  by_cases hl:l=[]
  ·subst hl;rw [pz,GL,List.nil_append,iM zo,Nat.zero_mul,dK,hbe]
  ·have hdl:qL l:=fun x hx=>hd x (by simp [hx])
   have hh:l.head? ≠some 48:=fun e=>by
    have e2:(l++[b]).head? =some 48:=by rw [List.head?_append,e];rfl
    have:=h0 e2;rw [List.length_append,List.length_singleton] at this;have:=List.length_pos_iff.mpr hl;omega
   have ih2:=ih hdl hl (fun e=>absurd e hh)
   have hpos:0<num l:=by
    rcases aV (num l) with e|e
    ·rw [e,iM zo] at ih2;rw [← ih2] at hh;exact absurd rfl hh
    ·exact e
   rw [pz,qc zo,show (num l*10+(b.toNat - 48)) / 10=num l by omega,show (num l*10+(b.toNat - 48))%10=b.toNat - 48 by omega,ih2,hbe]) l
theorem uF {n:Nat} (h:(decDigits n).head? =some 48):n=0:=by
 induction n using gL with
 | _ n ih =>
  by_cases hn:n<10
  ·rw [iM hn] at h;simp only [List.head?_cons,Option.some.injEq] at h;have:=congrArg UInt8.toNat h;rw [nL hn] at this;simp at this
   omega
  ·rw [qc hn] at h
   have h2:(decDigits (n / 10)).head? =some 48:=by
    cases hq:decDigits (n / 10) with
    | nil=>exact absurd hq (uz _)
    | cons x t=>rw [hq] at h;simpa using h
   have:=ih _ zo h2;omega
def gP (d:List UInt8) (neg:Bool):Bool :=
 d≠[]&&d.length≤600&&d.all (fun b=>48≤b.toNat&&b.toNat≤57)&& !(d.head? == some 48&&(neg || 1<d.length))
def cut (s:List UInt8):List UInt8 × Bool:=if s.head? =some 45 then (s.tail,true) else (s,false)
def mk (n:Nat) (neg:Bool):Int:=if neg then -(n:Int) else n
def whole (s:List UInt8):Option Int:=if gP (cut s).1 (cut s).2 then some (mk (num (cut s).1) (cut s).2) else none
theorem pY {d:List UInt8} {neg:Bool} (h:gP d neg=true):qL d:=by
 intro b hb;unfold gP at h;simp only [aK] at h;have:=List.all_eq_true.mp h.1.2 b hb
 simpa using this
theorem nE {s:List UInt8} {z:Int} (h:whole s=some z):s=itoa z∧(decDigits z.natAbs).length≤600:=by
 unfold whole at h;split at h
 ·rename_i hok;have hd:=pY hok;unfold gP at hok;simp only [aK,jh,decide_eq_true_eq] at hok;obtain ⟨⟨⟨h1,h2⟩, -⟩,h4⟩:=hok
  have hlen:(cut s).1.head? =some 48→(cut s).1.length=1:=fun e=>by
   have:=List.length_pos_iff.mpr h1;rw [e] at h4;simp at h4
   omega
  have hdn:=XJ _ hd h1 hlen;simp only [Option.some.injEq] at h;unfold cut at *
  by_cases hs:s.head? =some 45
  ·rw [if_pos hs] at *;simp only at *
   have hz:0<num s.tail:=by
    rcases aV (num s.tail) with e|e
    ·rw [e,iM zo] at hdn;rw [← hdn] at h4;simp at h4
    ·exact e
   subst h;have e1:mk (num s.tail) true= -((num s.tail:Nat):Int):=rfl;have e2:(-((num s.tail:Nat):Int)).natAbs=num s.tail:=by omega
   rw [e1,e2,hdn];refine ⟨?_,h2⟩;unfold itoa;rw [if_pos zo,e2,hdn];cases s with
   | nil=>simp at hs
   | cons x t=>simp only [List.head?_cons,Option.some.injEq] at hs;subst hs;rfl
  ·rw [if_neg hs] at *;simp only at *;subst h;have e1:mk (num s) false=((num s:Nat):Int):=rfl;rw [e1,Int.natAbs_natCast,hdn];refine ⟨?_,h2⟩;unfold itoa;rw [if_neg zo,Int.toNat_natCast,hdn]
 ·simp at h
theorem fT {z:Int} (h:(decDigits z.natAbs).length≤600):whole (itoa z)=some z:=by
 unfold whole
 by_cases hz:z<0
 ·have e:itoa z=45::decDigits z.natAbs:=by unfold itoa;rw [if_pos hz]
  have ec:cut (itoa z)=(decDigits z.natAbs,true):=by rw [e];rfl
  rw [ec];have hh:(decDigits z.natAbs).head? ≠some 48:=fun e=>by have:=uF e;omega
  rw [if_pos,nM]
  ·have:mk z.natAbs true=z:=by unfold mk;rw [if_pos rfl];omega
   rw [this]
  ·unfold gP;have hd:=mY z.natAbs;simp only [aK,decide_eq_true_eq,dX,jh,Bool.and_eq_false_iff];exact ⟨⟨⟨uz _,h⟩,hd⟩,.inl (by simpa using hh)⟩
 ·have e:itoa z=decDigits z.natAbs:=by unfold itoa;rw [if_neg hz,show z.toNat=z.natAbs by omega]
  have hnm:(itoa z).head? ≠some 45:=by
   rw [e];intro h1;have hd:=mY z.natAbs;cases hq:decDigits z.natAbs with
   | nil=>exact uz _ hq
   | cons x t =>
    rw [hq] at h1 hd;simp only [List.head?_cons,Option.some.injEq] at h1;have:=hd x zi;subst h1;simp at this
  have ec:cut (itoa z)=(decDigits z.natAbs,false):=by unfold cut;rw [if_neg hnm,e]
  rw [ec,if_pos,nM]
  ·have:mk z.natAbs false=z:=by unfold mk;simp;omega
   rw [this]
  ·unfold gP;have hd:=mY z.natAbs;simp only [aK,decide_eq_true_eq,dX,jh,Bool.and_eq_false_iff];refine ⟨⟨⟨uz _,h⟩,hd⟩,?_⟩
   by_cases hh:(decDigits z.natAbs).head? =some 48
   ·have:=uF hh
    right
    rw [this,iM zo];rfl
   ·exact .inl (by simpa using hh)
theorem J4 (z:Int):cut (itoa z)=(decDigits z.natAbs,decide (z<0)):=by
 by_cases hz:z<0
 ·have e:itoa z=45::decDigits z.natAbs:=by unfold itoa;rw [if_pos hz]
  rw [e,decide_eq_true hz];rfl
 ·have e:itoa z=decDigits z.natAbs:=by unfold itoa;rw [if_neg hz,show z.toNat=z.natAbs by omega]
  have hnm:(itoa z).head? ≠some 45:=by
   rw [e];intro h1;have hd:=mY z.natAbs;cases hq:decDigits z.natAbs with
   | nil=>exact uz _ hq
   | cons x t =>
    rw [hq] at h1 hd;simp only [List.head?_cons,Option.some.injEq] at h1;have:=hd x zi;subst h1;simp at this
  unfold cut;rw [if_neg hnm,e,decide_eq_false hz]
theorem xV {a b:Int} (h:itoa a=itoa b):a=b:=by
 unfold itoa at h
 have key:∀ (n m:Nat),45::decDigits n≠decDigits m:=fun n m e=>by
  have:=mY m 45 (by rw [← e];simp);simp at this
 by_cases ha:a<0<;>by_cases hb:b<0
 ·rw [if_pos ha,if_pos hb] at h;have:=congrArg num (List.cons.inj h).2;rw [nM,nM] at this;omega
 ·rw [if_pos ha,if_neg hb] at h;exact absurd h (key _ _)
 ·rw [if_neg ha,if_pos hb] at h;exact absurd h.symm (key _ _)
 ·rw [if_neg ha,if_neg hb] at h;have:=congrArg num h;rw [nM,nM] at this;omega
theorem FB {l:List Nat} {i:Nat} (hi:i<l.length) (hd:fZ 1000000000 l) (hp:0<val 1000000000 (l.drop (i+1))) :
  decDigits (val 1000000000 (l.drop i))=decDigits (val 1000000000 (l.drop (i+1)))++(bM (9 - (decDigits (l.getD i 0)).length) 48++decDigits (l.getD i 0)):=by
 have hx:l.getD i 0<10^9:=hd.getD zo i;rw [yB 9 _ zo hx,rP hi,← Bf 9 _ _ hp hx]
theorem Bw {l:List Nat} (h:Top l) (i:Nat):Top (l.drop i):=fun k hk=>by
 rw [List.length_drop] at hk;have:=h (i+k) zo;rw [bY,iX]
 rwa [bY] at this
theorem uD {l:List Nat} (h:fZ 1000000000 l):(decDigits (val 1000000000 l)).length≤9*l.length+1:=by
 refine lS _ _ zo (aI (iP zo h) ?_);rw [show (1000000000:Nat)=10^9 by rfl,← Nat.pow_mul];exact bI zo zo
theorem Tm {l:List Nat} {n i:Nat} (hn:l.length=n+1) (ht:Top l) (hi:i≤n):0<val 1000000000 (l.drop i) :=
 iZ zo (Bw ht i) (fun e=>by have:=congrArg List.length e;rw [List.length_drop,hn] at this;simp at this;omega)
theorem DL {l:List Nat} {n:Nat} (hn:l.length=n+1):val 1000000000 (l.drop n)=l.getD n 0:=by
 rw [jG zo,List.drop_eq_nil_of_le zo];simp [val]
theorem JY {l:List Nat} {n:Nat} (hn:l.length=n+1) (hd:fZ 1000000000 l) (ht:Top l):(decDigits (val 1000000000 l)).length=9*n+(decDigits (l.getD n 0)).length:=by
 have key:∀ j,j≤n→(decDigits (val 1000000000 (l.drop (n - j)))).length=9*j+(decDigits (l.getD n 0)).length:=fun j=>by
  induction j with
  | zero=>intro _;rw [Nat.sub_zero,DL hn];omega
  | succ j ih =>
   intro hj;have h1:=FB (l:=l) (i:=n - (j+1)) zo hd (Tm hn ht zo);rw [show n - (j+1)+1=n - j by omega] at h1;have h2:(decDigits (l.getD (n - (j+1)) 0)).length≤9:=lS 9 _ zo (hd.getD zo _);rw [h1,List.length_append,ih zo,List.length_append,List.length_replicate];omega
 have:=key n (aD _)
 rwa [Nat.sub_self,List.drop_zero] at this
theorem oN {bs:List UInt8} {s e:Nat} (h:s≤e) (he:e≤bs.length):num (bs.drop s)=num ((bs.take e).drop s)*10^(bs.length - e)+num (bs.drop e):=by
 have e1:bs.drop s=(bs.take e).drop s++bs.drop e:=by
  conv=>lhs;rw [← jW e bs]
  rw [List.drop_append_of_le_length (by rw [List.length_take];omega)]
 rw [e1,Cg,List.length_drop]
theorem tJ {bs:List UInt8} {st i:Nat} {x:UInt8} (hst:st≤i) (hx:bs[i]? =some x):(bs.take (i+1)).drop st=(bs.take i).drop st++[x]:=by
 have hi:i<bs.length:=by
  rcases aO i bs.length with h|h
  ·exact h
  ·rw [List.getElem?_eq_none h] at hx;simp at hx
 rw [List.take_add_one,hx,Option.toList_some,List.drop_append_of_le_length (by rw [List.length_take];omega)]
theorem CP {bs:List UInt8} (hd:qL bs) {st i:Nat} (h9:i - st≤9):num ((bs.take i).drop st)<1000000000:=by
 have h1:=TH ((bs.take i).drop st) (fun b hb=>hd b (jk (List.mem_of_mem_drop hb)));have h2:(10:Nat)^((bs.take i).drop st).length≤10^9:=bI zo (by rw [List.length_drop,List.length_take];omega);omega
theorem Ae {bs:List UInt8} (hd:qL bs) {st i:Nat} {x:UInt8} (hst:st≤i) (h9:i - st<9) (hx:bs[i]? =some x) :
  (((num ((bs.take i).drop st):Nat):Int)*10%4294967296+((x.toNat:Int) - 48)%256)%4294967296=(num ((bs.take (i+1)).drop st):Nat):=by
 have hb:=hd x (List.mem_of_getElem? hx);have h2:=CP hd (i:=i+1) (st:=st) zo;rw [tJ hst hx,pz] at h2 ⊢;omega
end Go.Dec
namespace Go.Mem
open Go Go.RowKit
variable {P:Program} {fn:Func} {R:Ending→World→Prop} {w:World} {tmps:Array Value}
theorem tL {p u:Tmp} {ty t:TypeId} {g:Nat} {cs:Array Value} {d:TypeDesc} (h:fn.results=#[.cell p ty,.tmp u])
  (hp:tmps.getD p undef= aB (some ⟨g,0,none⟩)) (hg:aA w g cs t) (hu:P.underlying ty=some d)
  (hd:(match d with| .struct _| .array _ _=>true| _=>false)=true) (hi:(P.info? ty).map (·.size)=some cs.size) :
  (results fn tmps).run P w= .ok (aG #[au cs,tmps.getD u undef]) w:=by
 rw [results_cell_tmp h,hp];simp only [asAddr,Sem.run_pure,Result.andThen_ok];rw [run_loadVar_row w g t ty cs (0,0) d hg hu hd hi];rfl
theorem bH {p u:Tmp} {ty t:TypeId} {g:Nat} {cs:Array Value} {d:TypeDesc} (h:fn.results=#[.cell p ty,.tmp u])
  (hp:tmps.getD p undef= aB (some ⟨g,0,none⟩)) (hg:aA w g cs t) (hu:P.underlying ty=some d)
  (hd:(match d with| .struct _| .array _ _=>true| _=>false)=true) (hi:(P.info? ty).map (·.size)=some cs.size)
  (k:R (aj (aG #[au cs,tmps.getD u undef])) w):bodyPost P fn R .ret { tmps:=tmps,defers:=[] } w :=
 bodyPost_ret (tL h hp hg hu hd hi) rfl k
theorem gF {p:Tmp} {ty t:TypeId} {g:Nat} {cs:Array Value} {d:TypeDesc} (h:fn.results=#[.cell p ty])
  (hp:tmps.getD p undef= aB (some ⟨g,0,none⟩)) (hg:aA w g cs t) (hu:P.underlying ty=some d)
  (hd:(match d with| .struct _| .array _ _=>true| _=>false)=true) (hi:(P.info? ty).map (·.size)=some cs.size)
  (k:R (aj (au cs)) w):bodyPost P fn R .ret { tmps:=tmps,defers:=[] } w :=
 bodyPost_ret (results_cell_row h tmps w g t cs (0,0) d hp hg hu hd hi) rfl k
end Go.Mem
namespace Go.Mem
open Go Go.RowKit Go.SW Go.Num Go.Dec
theorem aA.GN {w:World} {b:Nat} {cs:Array Value} {T:TypeId} (h:b=w.heap.size):aA (w.alloc (.cells cs T (0,0))) b cs T:=h ▸ aA.new w cs T
theorem aA.pV (w:World) (o:Obj) (cs:Array Value) (T:TypeId):aA ((w.alloc o).alloc (.cells cs T (0,0))) (w.heap.size+1) cs T:=aA.GN zi
theorem aA.at2 (w:World) (o o2:Obj) (cs:Array Value) (T:TypeId):aA (((w.alloc o).alloc o2).alloc (.cells cs T (0,0))) (w.heap.size+1+1) cs T:=aA.GN zi
theorem aA.at3 (w:World) (o o2 o3:Obj) (cs:Array Value) (T:TypeId):aA ((((w.alloc o).alloc o2).alloc o3).alloc (.cells cs T (0,0))) (w.heap.size+1+1+1) cs T:=aA.GN zi
theorem bW.alloc {w:World} {v:Value} {n:Nat} (h:bW w v n) (o:Obj):bW (w.alloc o) v n:=h.later ((Below.refl _ _).alloc (aD _) _)
theorem bW.drew {w:World} {v:Value} {n:Nat} (h:bW w v n):bW w.drew v n:=h.later (Below.drew (Below.refl _ _))
theorem dQ {w W:World} (h:Below w.heap.size w W) (o:Obj):Below w.heap.size w (W.alloc o):=h.alloc h.size o
theorem aF {B:Nat} {w w':World} (h:Below B w w':=by repeat (first|(with_reducible exact Below.refl _ _)|(with_reducible assumption)|(with_reducible refine dQ ?_ _)|((with_reducible refine Below.setCell ?_ ?_ _);rotate_left;focus (first|(simp;done)|(simp;omega)|assumption|(simp only [];omega)))|(with_reducible refine Below.drew ?_)|((with_reducible refine Bt (w1:=?_) ?_ ?_);rotate_right;with_reducible assumption))):Below B w w':=h
theorem bf {w:World} {b:Nat} {cs:Array Value} {T:TypeId} (h:aA w b cs T:=by repeat (first|(with_reducible assumption)|(with_reducible apply aA.set)|(with_reducible exact aA.new _ _ _)|(with_reducible exact aA.pV _ _ _ _)|(with_reducible exact aA.at2 _ _ _ _ _)|(with_reducible apply aA.alloc)|(with_reducible apply aA.drew)|((with_reducible refine aA.later (w:=?_) ?_ ?_);rotate_right;with_reducible assumption)|((with_reducible apply aA.setOther);(case hne=>(first|assumption|(simp;done)|(simp;omega)))))):aA w b cs T:=h
theorem wR (w:World) (c0:Array Value) (T0:TypeId):∃ y,w.alloc (.cells c0 T0 (0,0))=y∧Below w.heap.size w y∧Hid (aA y (w.heap.size) c0 T0):=⟨_,rfl,dQ (Below.refl _ _) _,zh (aA.new _ _ _)⟩
theorem Dz (w:World) (c0:Array Value) (T0:TypeId) (c1:Array Value) (T1:TypeId):∃ y,(w.alloc (.cells c0 T0 (0,0))).alloc (.cells c1 T1 (0,0))=y∧Below w.heap.size w y∧Hid (aA y (w.heap.size) c0 T0)∧Hid (aA y (w.heap.size+1) c1 T1):=⟨_,rfl,dQ (dQ (Below.refl _ _) _) _,zh (aA.alloc (aA.new _ _ _) _),zh (aA.pV _ _ _ _)⟩
theorem MW (w:World) (c0:Array Value) (T0:TypeId) (c1:Array Value) (T1:TypeId) (c2:Array Value) (T2:TypeId):∃ y,((w.alloc (.cells c0 T0 (0,0))).alloc (.cells c1 T1 (0,0))).alloc (.cells c2 T2 (0,0))=y∧Below w.heap.size w y∧Hid (aA y (w.heap.size) c0 T0)∧Hid (aA y (w.heap.size+1) c1 T1)∧Hid (aA y (w.heap.size+1+1) c2 T2):=⟨_,rfl,dQ (dQ (dQ (Below.refl _ _) _) _) _,zh (aA.alloc (aA.alloc (aA.new _ _ _) _) _),zh (aA.alloc (aA.pV _ _ _ _) _),zh (aA.at2 _ _ _ _ _)⟩
theorem al4 (w:World) (c0:Array Value) (T0:TypeId) (c1:Array Value) (T1:TypeId) (c2:Array Value) (T2:TypeId) (c3:Array Value) (T3:TypeId):∃ y,(((w.alloc (.cells c0 T0 (0,0))).alloc (.cells c1 T1 (0,0))).alloc (.cells c2 T2 (0,0))).alloc (.cells c3 T3 (0,0))=y∧Below w.heap.size w y∧Hid (aA y (w.heap.size) c0 T0)∧Hid (aA y (w.heap.size+1) c1 T1)∧Hid (aA y (w.heap.size+1+1) c2 T2)∧Hid (aA y (w.heap.size+1+1+1) c3 T3):=⟨_,rfl,dQ (dQ (dQ (dQ (Below.refl _ _) _) _) _) _,zh (aA.alloc (aA.alloc (aA.alloc (aA.new _ _ _) _) _) _),zh (aA.alloc (aA.alloc (aA.pV _ _ _ _) _) _),zh (aA.alloc (aA.at2 _ _ _ _ _) _),zh (aA.at3 _ _ _ _ _ _)⟩
theorem _root_.Go.RowKit.Hid.bl {w w':World} {b:Nat} {cs:Array Value} {T:TypeId} (h:Hid (aA w b cs T)) (hb:Below w.heap.size w w'):Hid (aA w' b cs T):=zh (h.out.later hb)
theorem _root_.Go.RowKit.Hid.cl {w:World} {b:Nat} {cs:Array Value} {T:TypeId} (h:Hid (aA w b cs T)):(∀ o,w.cell? ⟨b,o,none⟩=cs[o]?)∧b<w.heap.size:=⟨h.out.cell,h.out.lt⟩
theorem _root_.Go.RowKit.Hid.clf {w:World} {b:Nat} {cs:Array Value} {T:TypeId} (h:Hid (aA w b cs T)):(∀ o,w.cell? ⟨b,o,none⟩=cs[o]?)∧b<w.heap.size∧∀ o,w.frozen? ⟨b,o,none⟩=false:=⟨h.out.cell,h.out.lt,h.out.free⟩
theorem bW.slice {w:World} {v:Value} {n:Nat} (h:bW w v n):∃ pa l ca,v= ah pa l ca:=by
 obtain ⟨a,cap,h1, -⟩:=h;exact ⟨_,_,_,h1⟩
def fD (w:World) (v:Value) (z:Int):Prop:=∃ pa l ca,v= au #[ah pa l ca,ak (decide (z<0))]∧bW w (ah pa l ca) z.natAbs
theorem fD.later {w w':World} {v:Value} {z:Int} (h:fD w v z) (hb:Below w.heap.size w w'):fD w' v z:=by
 obtain ⟨pa,l,ca,h1,h2⟩:=h;exact ⟨pa,l,ca,h1,h2.later hb⟩
theorem fD.mk {w:World} {m:Value} {z:Int} {b:Bool} {n:Nat} (h:bW w m n) (hn:n=z.natAbs) (hb:b=decide (z<0)):fD w (au #[m,ak b]) z:=by
 obtain ⟨pa,l,ca,rfl⟩:=h.slice;exact ⟨pa,l,ca,by rw [hb],hn ▸ h⟩
def dW (z:Int):Value:=O ⟨(Lib.itoa z).toArray⟩
def iV (n:Nat) (b:Bool):Int:=if b then -(n:Int) else n
theorem kG (n:Nat) (b:Bool):(iV n b).natAbs=n:=by unfold iV;split<;>omega
theorem Om (n:Nat) (b:Bool):(b&& !decide (n=0))=decide (iV n b<0):=by
 unfold iV;cases b
 ·simp
 ·simp only [Bool.true_and,if_true];rw [iN];simp
  omega
theorem fD.gG {w:World} {pa:Option Addr} {l ca:Nat} {z:Int} (h:bW w (ah pa l ca) z.natAbs):fD w (au #[ah pa l ca,ak (decide (z<0))]) z:=⟨pa,l,ca,rfl,h⟩
theorem fD.cast {w:World} {v:Value} {y z:Int} (h:fD w v y) (e:y=z):fD w v z:=e ▸ h
theorem Ol (z:Int):iV z.natAbs (!decide (z<0))= -z:=by
 unfold iV
 by_cases h:z<0
 ·simp [h];omega
 ·simp [h];omega
theorem Wv (z:Int) (n:Nat):iV (z.natAbs*n) (decide (z<0))=z*n:=by
 unfold iV
 by_cases h:z<0
 ·simp only [h,decide_true,if_true];have:z= -(z.natAbs:Int):=by omega
  rw [this,Int.natAbs_neg,Int.natAbs_natCast,Int.natCast_mul,Int.neg_mul]
 ·simp only [h,decide_false];have:z=(z.natAbs:Int):=by omega
  rw [this,Int.natAbs_natCast,Int.natCast_mul];rfl
end Go.Mem
namespace Go.Proofs
open Go.Shelf
def Tryz.lays169_ren:Go.Shelf.Ren:=⟨fun|169=>272|n=>n,fun|70=>274|9=>9|0=>0|72=>277|37=>275|127=>299|3=>3|5=>5|n=>n,fun|n=>n⟩
theorem Tryz.lays169:Go.Proofs.Lays.n169 Tryz.prog Tryz.lays169_ren:={
 mixed:=by kernel_rfl
 f169:=Tryz.func272.trans (congrArg some zk)
 t0:=Tryz.underlying0
 a0:=Tryz.isAgg0
 z0:=Tryz.sizeOf0
 v0:=Tryz.zeroValue0
 t3:=Tryz.underlying3
 a3:=Tryz.isAgg3
 z3:=Tryz.sizeOf3
 v3:=Tryz.zeroValue3
 t9:=Tryz.underlying9
 a9:=Tryz.isAgg9
 z9:=Tryz.sizeOf9
 v9:=Tryz.zeroValue9
 t37:=Tryz.underlying275
 a37:=Tryz.isAgg275
 z37:=Tryz.sizeOf275
 v37:=Tryz.zeroValue275
 t70:=Tryz.underlying274
 a70:=Tryz.isAgg274
 z70:=Tryz.sizeOf274
 v70:=Tryz.zeroValue274
 t72:=Tryz.underlying277
 a72:=Tryz.isAgg277
 z72:=Tryz.sizeOf277
 v72:=Tryz.zeroValue277
 t127:=Tryz.underlying299
 a127:=Tryz.isAgg299
 z127:=Tryz.sizeOf299
 v127:=Tryz.zeroValue299 }
theorem Tryz.Builder_Extra_169:Builder.Extra Tryz.prog Tryz.lays169_ren:={
 sizeBuilder:=by kernel_rfl
 liesBuilder:=by kernel_rfl
 t5:=Tryz.underlying5
 a5:=Tryz.isAgg5
 z5:=Tryz.sizeOf5
 v5:=Tryz.zeroValue5
 infoByte:=by kernel_rfl
 cellsByte:=by kernel_rfl
 sizeByte:=by kernel_rfl
 neB5:=by decide }
open Go.RowKit in
theorem Tryz.Builder_String_any (B b:Nat) (l:List UInt8) (w:World) (h:Lib.IsBuilder 277 5 B b (Lib.byteCells l) w) (hBw:B≤w.heap.size) :
  Calls Tryz.prog 272 #[aB (some ⟨b,0,none⟩)] w fun e w'=>e= aj (O ⟨l.toArray⟩)∧Below B w w':=Any.Builder_String_any Tryz.lays169 Tryz.Builder_Extra_169 B b l w h hBw
def Tryz.laysM171_ren:Go.Shelf.Ren:=⟨fun|171=>249|243=>288|246=>324|283=>338|284=>339|285=>340|286=>341|129=>282|317=>347|318=>348|319=>349|320=>350|337=>353|338=>354|n=>n,fun|3=>3|9=>9|2=>2|4=>4|171=>335|0=>0|53=>193|37=>275|5=>5|173=>337|212=>347|51=>61|20=>20|213=>348|46=>240|232=>354|233=>355|n=>n,fun|17=>4|18=>5|19=>6|n=>n⟩
theorem Tryz.laysM171:Go.Proofs.LaysM.n171 Tryz.prog Tryz.laysM171_ren:={
 mixed:=by kernel_rfl
 f129:=Tryz.func282.trans (congrArg some zk)
 f171:=Tryz.func249.trans (congrArg some zk)
 f243:=Tryz.func288.trans (congrArg some zk)
 f246:=Tryz.func324.trans (congrArg some zk)
 f283:=Tryz.func338.trans (congrArg some zk)
 f284:=Tryz.func339.trans (congrArg some zk)
 f285:=Tryz.func340.trans (congrArg some zk)
 f286:=Tryz.func341.trans (congrArg some zk)
 f317:=Tryz.func347.trans (congrArg some zk)
 f318:=Tryz.func348.trans (congrArg some zk)
 f319:=Tryz.func349.trans (congrArg some zk)
 f320:=Tryz.func350.trans (congrArg some zk)
 f337:=Tryz.func353.trans (congrArg some zk)
 f338:=Tryz.func354.trans (congrArg some zk)
 t0:=Tryz.underlying0
 a0:=Tryz.isAgg0
 z0:=Tryz.sizeOf0
 v0:=Tryz.zeroValue0
 t2:=Tryz.underlying2
 a2:=Tryz.isAgg2
 z2:=Tryz.sizeOf2
 v2:=Tryz.zeroValue2
 t3:=Tryz.underlying3
 a3:=Tryz.isAgg3
 z3:=Tryz.sizeOf3
 v3:=Tryz.zeroValue3
 t4:=Tryz.underlying4
 a4:=Tryz.isAgg4
 z4:=Tryz.sizeOf4
 v4:=Tryz.zeroValue4
 t5:=Tryz.underlying5
 a5:=Tryz.isAgg5
 z5:=Tryz.sizeOf5
 v5:=Tryz.zeroValue5
 t9:=Tryz.underlying9
 a9:=Tryz.isAgg9
 z9:=Tryz.sizeOf9
 v9:=Tryz.zeroValue9
 t20:=Tryz.underlying20
 a20:=Tryz.isAgg20
 z20:=Tryz.sizeOf20
 v20:=Tryz.zeroValue20
 t37:=Tryz.underlying275
 a37:=Tryz.isAgg275
 z37:=Tryz.sizeOf275
 v37:=Tryz.zeroValue275
 t46:=Tryz.underlying240
 a46:=Tryz.isAgg240
 z46:=Tryz.sizeOf240
 v46:=Tryz.zeroValue240
 t51:=Tryz.underlying61
 a51:=Tryz.isAgg61
 z51:=Tryz.sizeOf61
 v51:=Tryz.zeroValue61
 t53:=Tryz.underlying193
 a53:=Tryz.isAgg193
 z53:=Tryz.sizeOf193
 v53:=Tryz.zeroValue193
 t171:=Tryz.underlying335
 a171:=Tryz.isAgg335
 z171:=Tryz.sizeOf335
 v171:=Tryz.zeroValue335
 t173:=Tryz.underlying337
 a173:=Tryz.isAgg337
 z173:=Tryz.sizeOf337
 v173:=Tryz.zeroValue337
 t212:=Tryz.underlying347
 a212:=Tryz.isAgg347
 z212:=Tryz.sizeOf347
 v212:=Tryz.zeroValue347
 t213:=Tryz.underlying348
 a213:=Tryz.isAgg348
 z213:=Tryz.sizeOf348
 t232:=Tryz.underlying354
 a232:=Tryz.isAgg354
 z232:=Tryz.sizeOf354
 v232:=Tryz.zeroValue354
 t233:=Tryz.underlying355
 a233:=Tryz.isAgg355
 z233:=Tryz.sizeOf355
 v233:=Tryz.zeroValue355
 g17:=by kernel_rfl
 g18:=by kernel_rfl
 g19:=by kernel_rfl
 i0:=by kernel_rfl
 i2:=by kernel_rfl
 i3:=by kernel_rfl
 i4:=by kernel_rfl
 i5:=by kernel_rfl
 i9:=by kernel_rfl
 i20:=by kernel_rfl
 i37:=by kernel_rfl
 i46:=by kernel_rfl
 i51:=by kernel_rfl
 i53:=by kernel_rfl
 i171:=by kernel_rfl
 i173:=by kernel_rfl
 i212:=by kernel_rfl
 i232:=by kernel_rfl
 i233:=by kernel_rfl
 m17:=by kernel_rfl
 m18:=by kernel_rfl
 m19:=by kernel_rfl }
open Go.RowKit Go.Sort Go.Lib in
theorem Tryz.strconv_Itoa (n : Int) (h0 : -9223372036854775808 ≤ n) (h1 : n ≤ 9223372036854775807) (w : World) (htab : Lib.TabIs Tryz.prog w "internal/strconv.uint64pow10" .u64 Lib.pow10Tab) :
  Calls Tryz.prog 249 #[Z I n] w fun e w'=>e= aj (O ⟨(Lib.itoa n).toArray⟩)∧∃ k os,w'=grow (w.drewN k) os:=Any.strconv_Itoa Tryz.laysM171 n h0 h1 w htab
end Go.Proofs
namespace Go.Proofs.jH
open Go Go.RowKit Go.SW Go.Num Go.Mem Go.Proofs
def Pow (w : World) : Prop := Lib.TabIs Tryz.prog w "internal/strconv.uint64pow10" .u64 Lib.pow10Tab
theorem Pow.later {w w':World} (h:Pow w) (hb:Below w.heap.size w w'):Pow w':=Lib.tabBelow_of_tabIs h w' hb
theorem below_grow (w:World) (k:Nat) (os:Array Obj):Below w.heap.size w (Go.Sort.grow (w.drewN k) os):=by
 unfold Go.Sort.grow;refine ⟨rfl,rfl,rfl,?_,fun i hi=>?_⟩
 ·simp
 ·simp only [World.drewN];rw [Array.getElem?_append_left hi]
theorem infoByte:(Tryz.prog.info? 5).map (fun i=>(i.zero,i.size,i.bytes))=some (some (.int .u8 0),1,1):=by kernel_rfl
theorem OL:(Tryz.prog.info? 277).map (·.size)=some 2:=by kernel_rfl
abbrev Rv (B b:Nat) (bs:List Value) (w:World):Prop:=Lib.IsBuilder 277 5 B b bs w
abbrev AtB (B b:Nat) (bs:List Value) (w:World):Prop:=Lib.BuilderAt 277 5 B b (aB (some ⟨b,0,none⟩)) bs w
theorem D7 {w w':World} (h:Below w.heap.size w w'):w.grownBy w' none:=⟨h.os,h.tape,h.output,h.size,fun i hi _=>h.block i hi⟩
theorem FJ {p:Value} {B b:Nat} {bs:List Value} {w w':World} (h:Lib.BuilderAt 277 5 B b p bs w) (hb:Below w.heap.size w w'):Lib.BuilderAt 277 5 B b p bs w':=by
 have hl:=h.lt;obtain ⟨hB,v,hbk,hown,hne⟩:=h;refine ⟨hB,v,(hb.block _ hl).trans hbk,hown.kept (D7 hb) ?_,hne⟩;cases h:v.ownBlock with
 | none=>exact .inl rfl
 | some k=>exact .inr zi
theorem Rv.later {B b:Nat} {bs:List Value} {w w':World} (h:Rv B b bs w) (hb:Below w.heap.size w w'):Rv B b bs w':=by
 rcases h with h|h
 ·exact .inl (FJ h hb)
 ·exact .inr (FJ h hb)
theorem Ud (n:Nat):Lib.itoa (n:Int)=Lib.decDigits n:=by
 unfold Lib.itoa;rw [if_neg zo,Int.toNat_natCast]
theorem OI (n:Nat) (h:n<1000000000) (w:World) (ht:Pow w) :
  Calls Tryz.prog 249 #[Z I n] w fun e w'=>e= aj (O ⟨(Lib.decDigits n).toArray⟩)∧Below w.heap.size w w':=by
 refine (Tryz.strconv_Itoa n zo zo w ht).mono ?_;rintro e w' ⟨rfl,k,os,rfl⟩;rw [Ud];exact ⟨rfl,below_grow _ _ _⟩
theorem Dg (b:Nat) (w:World) (h0:w.cell? ⟨b,0,none⟩=some (.pointer (some ⟨b,0,none⟩))) :
  Calls Tryz.prog 303 #[aB (some ⟨b,0,none⟩)] w fun e w'=>e= aj (aG #[])∧w'=w:=by
 obtain ⟨j,hj,_⟩:=Option.map_eq_some_iff.1 OL;go_enter Tryz.func303,Tryz.ntmps303
 go_wp2
 rw [Lib.run_neq_ptr_same w _ Tryz.underlying274 hj]
 go_wp2
 go_end0
 exact ⟨rfl,rfl⟩
theorem AB (b:Nat) (w:World) (h0:w.cell? ⟨b,0,none⟩=some (.pointer none)) (hsh:w.shape? b=some (277,2)) (hfz:w.frozen? ⟨b,0,none⟩=false) :
  Calls Tryz.prog 303 #[aB (some ⟨b,0,none⟩)] w fun e w'=>e= aj (aG #[])∧w'=w.setCell ⟨b,0,none⟩ (aB (some ⟨b,0,none⟩)):=by
 obtain ⟨j,hj,hjs⟩:=Option.map_eq_some_iff.1 OL;go_enter Tryz.func303,Tryz.ntmps303
 go_wp2
 rw [Lib.run_to_unsafe w ⟨b,0,none⟩ Tryz.underlying274 Tryz.underlying324 hj (by rw [hjs];decide) hsh (Nat.zero_lt_succ 1)];simp only [Result.andThen];rw [Oper.upon_value]
 go_wp2
 rw [run_callFunc_extern Tryz.func329 zk zk zk (e:=Extern.AbiNoEscape.same) zk];rw [Lib.run_noEscape];simp only [Result.andThen];rw [Oper.upon_value]
 go_wp2
 rw [Lib.run_from_unsafe w ⟨b,0,none⟩ Tryz.underlying324 Tryz.underlying274 hj hsh zk];simp only [Result.andThen];rw [Oper.upon_value]
 go_wp2
 go_end0
 exact ⟨rfl,rfl⟩
theorem yC (B b:Nat) (bs:List Value) (w:World) (h:Rv B b bs w) :
  Calls Tryz.prog 303 #[aB (some ⟨b,0,none⟩)] w fun e w'=>e= aj (aG #[])∧(AtB B b bs w'∧Below B w w'):=by
 rcases h with h|h
 ·refine (AB b w h.cell0 h.shape h.frozen0).mono ?_;rintro e w' ⟨rfl,rfl⟩;exact ⟨rfl,h.used _,(Below.refl B w).setCell (p:=⟨b,0,none⟩) h.1 _⟩
 ·refine (Dg b w h.cell0).mono ?_;rintro e w' ⟨rfl,rfl⟩;exact ⟨rfl,h,Below.refl B _⟩
theorem F8 (B b:Nat) (bs:List Value) (c:Int) (w:World) (h:Rv B b bs w) (hlen:bs.length+1≤140737488355328) (hBw:B≤w.heap.size) :
  Calls Tryz.prog 270 #[aB (some ⟨b,0,none⟩),Z .u8 c] w fun e w'=>e= aj .nilIface∧(AtB B b (bs++[Z .u8 c]) w'∧Below B w w'):=by
 obtain ⟨i0,hi,hz0,hz1,hz2⟩:=info_parts infoByte;go_enter Tryz.func270,Tryz.ntmps270
 go_wp2_with (go_at_call 303;refine (yC B b bs _ h).mono ?_;rintro e w1 ⟨rfl,h1,hb1⟩;refine Hid.out ?_)
 obtain ⟨hB,v,hbk,hown,hne⟩:=h1;have c0:w1.cell? ⟨b,0,none⟩=some (.pointer (some ⟨b,0,none⟩)):=by rw [Lib.cell_of_heap hbk];rfl
 have c1:w1.cell? ⟨b,1,none⟩=some v:=by rw [Lib.cell_of_heap hbk];rfl
 refine zh ?_;go_wp2_with (at_builtin;refine wpList_append_own _ rfl _ _ 275 rfl B 5 i0 (Z .u8 0) 1 1 Tryz.underlying275 hi hz0 hz1 hz2 rfl zd _ _ _ rfl (hown.alloc _) ⟨w1.heap.size,0,none⟩ 1 1 [Z .u8 c] rfl rfl ?c1 ?c2 ?c3 ?c4 ?c5 ?_)
 case c1 =>
  intro j u hj
  match j,hj with
  | 0,hj=>simp at hj;subst hj;simp [Addr.add]
 case c2=>intro u hu;simp at hu;subst hu;rfl
 case c3=>unfold maxLen;omega
 case c4=>omega
 case c5=>have:=hb1.size;simp;omega
 intro v' w2 hown' hgrow _
 have hlt:b<w1.heap.size:=by
  rcases aO b w1.heap.size with h'|h'
  ·exact h'
  ·simp [bZ h'] at hbk
 have hb2:w2.heap[b]? =some (.cells #[aB (some ⟨b,0,none⟩),v] 277 (0,0)):=by
  rw [hgrow.block b (by simp;omega) (fun e=>hne e.symm),Lib.alloc_old w1 _ b hlt];exact hbk
 have d0:w2.cell? ⟨b,0,none⟩=some (.pointer (some ⟨b,0,none⟩)):=by rw [Lib.cell_of_heap hb2];rfl
 have d1:w2.cell? ⟨b,1,none⟩=some v:=by rw [Lib.cell_of_heap hb2];rfl
 have f1:w2.frozen? ⟨b,1,none⟩=false:=Lib.frozen_of_heap hb2 1
 obtain ⟨g,cap,rfl⟩:∃ g cap,v'= ah (some ⟨g,0,none⟩) (bs.length+1) cap:=by
  rcases hown'.2 with ⟨_,h0⟩|⟨g,cap,cur,hv,_⟩
  ·omega
  ·exact ⟨g,cap,hv⟩
 go_wp2
 go_ret
 refine ⟨rfl,?_,?_⟩
 ·exact Lib.BuilderAt.put (T:=277) (e:=5) hB hb2 (bs':=bs++[Z .u8 c]) (by simpa using hown') zd
 ·exact ((hb1.alloc (by have:=hb1.size;omega) _).grown hgrow (by have:=hb1.size;simp;omega) (fun k hk=>(hown.lt k hk).1)).setCell (p:=⟨b,1,none⟩) hB _
theorem Bn (B b:Nat) (bs:List Value) (s:ByteArray) (w:World) (h:Rv B b bs w) (hlen:bs.length+s.size≤140737488355328) (hBw:B≤w.heap.size) :
  Calls Tryz.prog 271 #[aB (some ⟨b,0,none⟩),O s] w fun e w'=>e= aj (aG #[Z I s.size,.nilIface])∧(AtB B b (bs++Lib.strCells s) w'∧Below B w w'):=by
 obtain ⟨i0,hi,hz0,hz1,hz2⟩:=info_parts infoByte;go_enter Tryz.func271,Tryz.ntmps271
 go_wp2_with (go_at_call 303;refine (yC B b bs _ h).mono ?_;rintro e w1 ⟨rfl,h1,hb1⟩;refine Hid.out ?_)
 obtain ⟨hB,v,hbk,hown,hne⟩:=h1;have c0:w1.cell? ⟨b,0,none⟩=some (.pointer (some ⟨b,0,none⟩)):=by rw [Lib.cell_of_heap hbk];rfl
 have c1:w1.cell? ⟨b,1,none⟩=some v:=by rw [Lib.cell_of_heap hbk];rfl
 refine zh ?_;go_wp2_with (at_builtin;refine Lib.wpList_append_own_string _ rfl _ _ 275 9 rfl B 5 i0 Tryz.underlying275 Tryz.underlying9 hi hz0 hz1 hz2 _ _ _ rfl hown s rfl ?c3 ?c4 ?c5 ?_)
 case c3=>unfold maxLen;omega
 case c4=>omega
 case c5=>have:=hb1.size;omega
 intro v' w2 hown' hgrow _
 have hlt:b<w1.heap.size:=by
  rcases aO b w1.heap.size with h'|h'
  ·exact h'
  ·simp [bZ h'] at hbk
 have hb2:w2.heap[b]? =some (.cells #[aB (some ⟨b,0,none⟩),v] 277 (0,0)):=by
  rw [hgrow.block b hlt (fun e=>hne e.symm)];exact hbk
 have d0:w2.cell? ⟨b,0,none⟩=some (.pointer (some ⟨b,0,none⟩)):=by rw [Lib.cell_of_heap hb2];rfl
 have d1:w2.cell? ⟨b,1,none⟩=some v:=by rw [Lib.cell_of_heap hb2];rfl
 have f1:w2.frozen? ⟨b,1,none⟩=false:=Lib.frozen_of_heap hb2 1
 obtain ⟨ao,n',cap,rfl⟩:∃ ao n' cap,v'= ah ao n' cap:=by
  rcases hown'.2 with ⟨hv,_⟩|⟨g,cap,cur,hv,_⟩
  ·exact ⟨_,_,_,hv⟩
  ·exact ⟨_,_,_,hv⟩
 go_wp2
 go_ret2
 refine ⟨rfl,?_,?_⟩
 ·exact Lib.BuilderAt.put (T:=277) (e:=5) hB hb2 (bs':=bs++Lib.strCells s) (by simpa [Lib.strCells_length] using hown') zd
 ·exact (hb1.grown hgrow (by have:=hb1.size;omega) (fun k hk=>(hown.lt k hk).1)).setCell (p:=⟨b,1,none⟩) hB _
end Go.Proofs.jH
namespace Go.Mem
open Go Go.RowKit Go.SW Go.Num Go.Dec
def DC (w:World) (b:Nat) (T:TypeId):Prop:=∃ cs,aA w b cs T
theorem aA.isT {w:World} {b:Nat} {cs:Array Value} {T:TypeId} (h:aA w b cs T):DC w b T:=⟨cs,h⟩
theorem DC.setCell {w:World} {b:Nat} {T:TypeId} {a:Addr} {u:Value} (h:DC w b T):DC (w.setCell a u) b T:=by
 obtain ⟨cs,h⟩:=h;obtain ⟨c,o,sp⟩:=a
 by_cases hb:b=c
 ·subst hb;have hl:=h.lt;unfold aA at h;have e:w.heap[b]= .cells cs T (0,0):=by simpa [hl] using h
  cases sp with
  | none =>
   refine ⟨cs.setIfInBounds o u,?_⟩;unfold aA;simp [World.setCell,hl,Array.getElem_modify,e]
  | some s =>
   refine ⟨cs,?_⟩;unfold aA;simp [World.setCell,hl,Array.getElem_modify,e]
 ·exact ⟨cs,h.setOther u hb⟩
theorem DC.later {w w':World} {b:Nat} {T:TypeId} (h:DC w b T) (hb:Below w.heap.size w w'):DC w' b T:=by
 obtain ⟨cs,h⟩:=h;exact ⟨cs,h.later hb⟩
theorem DC.alloc {w:World} {b:Nat} {T:TypeId} {o:Obj} (h:DC w b T):DC (w.alloc o) b T:=h.later ((Below.refl _ _).alloc (aD _) _)
theorem DC.drew {w:World} {b:Nat} {T:TypeId} (h:DC w b T):DC w.drew b T:=h.later (Below.drew (Below.refl _ _))
theorem DC.new (w:World) (cs:Array Value) (T:TypeId):DC (w.alloc (.cells cs T (0,0))) w.heap.size T:=⟨cs,aA.new _ _ _⟩
theorem bW.av6 {w:World} {v:Value} {n:Nat} {b o:Nat} {T':TypeId} {u:Value} (h:bW w v n) (hx:DC w b T') (hT:61≠T'):bW (w.setCell ⟨b,o,none⟩ u) v n:=by
 obtain ⟨cs,hx⟩:=hx;exact h.setOther hx hT o u
theorem Oo {z y:Int} {b:Bool} (h:decide (z<0)=b) (k:decide (y<0)=b):iV (z.natAbs+y.natAbs) b=z+y:=by
 unfold iV;cases b
 ·simp at h k ⊢;omega
 ·simp at h k ⊢;omega
theorem Oj {z y:Int} {b:Bool} (h:decide (z<0)=b) (k:decide (y<0)= !b):iV (z.natAbs - y.natAbs) b=if y.natAbs≤z.natAbs then z+y else iV (z.natAbs - y.natAbs) b:=by
 split
 ·unfold iV;cases b
  ·simp at h k ⊢;omega
  ·simp at h k ⊢;omega
 ·rfl
theorem xE (z y:Int):iV (z.natAbs*y.natAbs) (decide (z<0) != decide (y<0))=z*y:=by
 unfold iV
 by_cases h:z<0<;>by_cases k:y<0
 ·simp only [h,k,decide_true,decide_false,bne_self_eq_false,Bool.true_bne,Bool.false_bne,Bool.not_false,Bool.not_true,if_true,if_false];obtain ⟨a,rfl⟩:∃ a:Nat,z= -(a:Int):=⟨z.natAbs,by omega⟩;obtain ⟨b,rfl⟩:∃ b:Nat,y= -(b:Int):=⟨y.natAbs,by omega⟩;simp
  try grind
 ·simp only [h,k,decide_true,decide_false,bne_self_eq_false,Bool.true_bne,Bool.false_bne,Bool.not_false,Bool.not_true,if_true,if_false];obtain ⟨a,rfl⟩:∃ a:Nat,z= -(a:Int):=⟨z.natAbs,by omega⟩;obtain ⟨b,rfl⟩:∃ b:Nat,y=(b:Int):=⟨y.natAbs,by omega⟩;simp
  try grind
 ·simp only [h,k,decide_true,decide_false,bne_self_eq_false,Bool.true_bne,Bool.false_bne,Bool.not_false,Bool.not_true,if_true,if_false];obtain ⟨a,rfl⟩:∃ a:Nat,z=(a:Int):=⟨z.natAbs,by omega⟩;obtain ⟨b,rfl⟩:∃ b:Nat,y= -(b:Int):=⟨y.natAbs,by omega⟩;simp
  try grind
 ·simp only [h,k,decide_true,decide_false,bne_self_eq_false,Bool.true_bne,Bool.false_bne,Bool.not_false,Bool.not_true,if_true,if_false];obtain ⟨a,rfl⟩:∃ a:Nat,z=(a:Int):=⟨z.natAbs,by omega⟩;obtain ⟨b,rfl⟩:∃ b:Nat,y=(b:Int):=⟨y.natAbs,by omega⟩;simp
theorem IY {z y:Int} (h:y ∣ z):iV (z.natAbs / y.natAbs) (decide (z<0) != decide (y<0))=z / y:=by
 obtain ⟨c,rfl⟩:=h
 rcases Int.lt_trichotomy y 0 with hy|hy|hy
 ·rw [Int.natAbs_mul,Nat.mul_div_cancel_left _ zo,Int.mul_ediv_cancel_left _ zo];unfold iV
  rcases Int.lt_trichotomy c 0 with hc|hc|hc
  ·have:¬ y*c<0:=by have:=Int.mul_pos_of_neg_of_neg hy hc;omega
   simp [this,hy];omega
  ·subst hc;simp
  ·have:y*c<0:=Int.mul_neg_of_neg_of_pos hy hc;simp [this,hy];omega
 ·subst hy;simp [iV]
 ·rw [Int.natAbs_mul,Nat.mul_div_cancel_left _ zo,Int.mul_ediv_cancel_left _ zo];unfold iV;have hy2:¬ y<0:=by omega
  rcases Int.lt_trichotomy c 0 with hc|hc|hc
  ·have:y*c<0:=Int.mul_neg_of_pos_of_neg hy hc;simp [this,hy2];omega
  ·subst hc;simp
  ·have:¬ y*c<0:=by have:=Int.mul_pos hy hc;omega
   simp [this,hy2];omega
theorem aW {w:World} {v:Value} {n:Nat} (h:bW w v n:=by repeat (first|(with_reducible exact Hid.out (by with_reducible assumption))|((with_reducible apply bW.av6);rotate_left;(focus (repeat (first|(with_reducible exact aA.isT (by with_reducible assumption))|(with_reducible apply DC.setCell)|(with_reducible exact DC.new _ _ _)|(with_reducible apply DC.alloc)|(with_reducible apply DC.drew)|((with_reducible refine DC.later (w:=?_) ?_ ?_);rotate_right;with_reducible assumption))));(focus decide))|(with_reducible apply bW.alloc)|(with_reducible apply bW.drew)|((with_reducible refine bW.later (w:=?_) ?_ ?_);rotate_right;with_reducible assumption))):bW w v n:=h
end Go.Mem
