/- Lemmas for the proof. No condition. -/
import Derived.Test.YtfhappbmgghgdaaGreatDoorWB01
import Derived.Test.YtfhappbmgghgdaaGreatDoorProg
import Derived.Laws.MakeOwn
import Derived.RangeFuncBox
import Derived.Shelf.Strings.Builder1
import Derived.Shelf.LaysM
import Derived.Shelf.Strconv.Itoa3
import Derived.Shelf.Strconv.Clone
import Derived.Shelf.Strconv.SyntaxError
import Derived.Shelf.LaysC
import Derived.Shelf.Strconv.ToError
import Derived.Shelf.Strconv.Lower
import Derived.Shelf.Strconv.RangeError
import Derived.Shelf.Strconv.ToErrorRange
import Derived.Shelf.Strings.Search1
import Derived.Shelf.Strings.Search2
import Derived.Shelf.Strings.Cut
import Derived.Shelf.Strings.Shaped
import Derived.Shelf.Bits.Mul64
import Derived.Shelf.Strings.Repeat
import Derived.Shelf.Small.Bits
import Derived.Shelf.Strconv.Itoa0
import Derived.Shelf.Strconv.ParseUint10
import Derived.Shelf.Strconv.ParseUint10Any
import Derived.Shelf.Strconv.ParseInt10
import Derived.Shelf.Strconv.ParseUint10b64
import Derived.Shelf.Strconv.ParseUint10At
import Derived.Shelf.Strconv.ParseInt10At64
import Derived.Shelf.Strconv.ParseInt10All
import Derived.Shelf.Strconv.ParseIntPublic10
import Derived.Lib.AppendStr
import Derived.Lib.Builder
import Derived.Lib.AppendIntMem
set_option linter.unusedVariables false
set_option linter.unusedSimpArgs false
set_option maxRecDepth 100000
set_option maxHeartbeats 16000000
namespace Go.Mem
open Go Go.RowKit Go.SW Go.Num Go.Dec
theorem au.qE {w:World} {b:Nat} {cs:Array Value} {T:TypeId} (h:b=w.heap.size):au (w.alloc (.cells cs T (0,0))) b cs T:=h ▸ au.new w cs T
theorem au.oN (w:World) (o:Obj) (cs:Array Value) (T:TypeId):au ((w.alloc o).alloc (.cells cs T (0,0))) (w.heap.size+1) cs T:=au.qE zi
theorem au.at2 (w:World) (o o2:Obj) (cs:Array Value) (T:TypeId):au (((w.alloc o).alloc o2).alloc (.cells cs T (0,0))) (w.heap.size+1+1) cs T:=au.qE zi
theorem au.at3 (w:World) (o o2 o3:Obj) (cs:Array Value) (T:TypeId):au ((((w.alloc o).alloc o2).alloc o3).alloc (.cells cs T (0,0))) (w.heap.size+1+1+1) cs T:=au.qE zi
theorem aK.alloc {w:World} {v:Value} {n:Nat} (h:aK w v n) (o:Obj):aK (w.alloc o) v n:=h.later ((Below.refl _ _).alloc (Nat.le_refl _) _)
theorem aK.drew {w:World} {v:Value} {n:Nat} (h:aK w v n):aK w.drew v n:=h.later (Below.drew (Below.refl _ _))
theorem aJ {w W:World} (h:Below w.heap.size w W) (o:Obj):Below w.heap.size w (W.alloc o):=h.alloc h.size o
theorem ah {B:Nat} {w w':World} (h:Below B w w':=by repeat (first|(with_reducible exact Below.refl _ _)|(with_reducible assumption)|(with_reducible refine aJ ?_ _)|((with_reducible refine Below.setCell ?_ ?_ _);rotate_left;focus (first|(simp;done)|(simp;omega)|assumption|(simp only [];omega)))|(with_reducible refine Below.drew ?_)|((with_reducible refine Bt (w1:=?_) ?_ ?_);rotate_right;with_reducible assumption))):Below B w w':=h
theorem aT {w:World} {b:Nat} {cs:Array Value} {T:TypeId} (h:au w b cs T:=by repeat (first|(with_reducible assumption)|(with_reducible apply au.set)|(with_reducible exact au.new _ _ _)|(with_reducible exact au.oN _ _ _ _)|(with_reducible exact au.at2 _ _ _ _ _)|(with_reducible apply au.alloc)|(with_reducible apply au.drew)|((with_reducible refine au.later (w:=?_) ?_ ?_);rotate_right;with_reducible assumption)|((with_reducible apply au.setOther);(case hne=>(first|assumption|(simp;done)|(simp;omega)))))):au w b cs T:=h
theorem oz (w:World) (c0:Array Value) (T0:TypeId):∃ y,w.alloc (.cells c0 T0 (0,0))=y∧Below w.heap.size w y∧Hid (au y (w.heap.size) c0 T0):=⟨_,rfl,aJ (Below.refl _ _) _,zh (au.new _ _ _)⟩
theorem yB (w:World) (c0:Array Value) (T0:TypeId) (c1:Array Value) (T1:TypeId):∃ y,(w.alloc (.cells c0 T0 (0,0))).alloc (.cells c1 T1 (0,0))=y∧Below w.heap.size w y∧Hid (au y (w.heap.size) c0 T0)∧Hid (au y (w.heap.size+1) c1 T1):=⟨_,rfl,aJ (aJ (Below.refl _ _) _) _,zh (au.alloc (au.new _ _ _) _),zh (au.oN _ _ _ _)⟩
theorem I7 (w:World) (c0:Array Value) (T0:TypeId) (c1:Array Value) (T1:TypeId) (c2:Array Value) (T2:TypeId):∃ y,((w.alloc (.cells c0 T0 (0,0))).alloc (.cells c1 T1 (0,0))).alloc (.cells c2 T2 (0,0))=y∧Below w.heap.size w y∧Hid (au y (w.heap.size) c0 T0)∧Hid (au y (w.heap.size+1) c1 T1)∧Hid (au y (w.heap.size+1+1) c2 T2):=⟨_,rfl,aJ (aJ (aJ (Below.refl _ _) _) _) _,zh (au.alloc (au.alloc (au.new _ _ _) _) _),zh (au.alloc (au.oN _ _ _ _) _),zh (au.at2 _ _ _ _ _)⟩
theorem al4 (w:World) (c0:Array Value) (T0:TypeId) (c1:Array Value) (T1:TypeId) (c2:Array Value) (T2:TypeId) (c3:Array Value) (T3:TypeId):∃ y,(((w.alloc (.cells c0 T0 (0,0))).alloc (.cells c1 T1 (0,0))).alloc (.cells c2 T2 (0,0))).alloc (.cells c3 T3 (0,0))=y∧Below w.heap.size w y∧Hid (au y (w.heap.size) c0 T0)∧Hid (au y (w.heap.size+1) c1 T1)∧Hid (au y (w.heap.size+1+1) c2 T2)∧Hid (au y (w.heap.size+1+1+1) c3 T3):=⟨_,rfl,aJ (aJ (aJ (aJ (Below.refl _ _) _) _) _) _,zh (au.alloc (au.alloc (au.alloc (au.new _ _ _) _) _) _),zh (au.alloc (au.alloc (au.oN _ _ _ _) _) _),zh (au.alloc (au.at2 _ _ _ _ _) _),zh (au.at3 _ _ _ _ _ _)⟩
theorem _root_.Go.RowKit.Hid.bl {w w':World} {b:Nat} {cs:Array Value} {T:TypeId} (h:Hid (au w b cs T)) (hb:Below w.heap.size w w'):Hid (au w' b cs T):=zh (h.out.later hb)
theorem _root_.Go.RowKit.Hid.cl {w:World} {b:Nat} {cs:Array Value} {T:TypeId} (h:Hid (au w b cs T)):(∀ o,w.cell? ⟨b,o,none⟩=cs[o]?)∧b<w.heap.size:=⟨h.out.cell,h.out.lt⟩
theorem _root_.Go.RowKit.Hid.clf {w:World} {b:Nat} {cs:Array Value} {T:TypeId} (h:Hid (au w b cs T)):(∀ o,w.cell? ⟨b,o,none⟩=cs[o]?)∧b<w.heap.size∧∀ o,w.frozen? ⟨b,o,none⟩=false:=⟨h.out.cell,h.out.lt,h.out.free⟩
theorem aK.slice {w:World} {v:Value} {n:Nat} (h:aK w v n):∃ pa l ca,v= .slice pa l ca:=by
 obtain ⟨a,cap,h1, -⟩:=h;exact ⟨_,_,_,h1⟩
def aS (w:World) (v:Value) (z:Int):Prop:=∃ pa l ca,v= .agg #[.slice pa l ca,.bool (decide (z<0))]∧aK w (.slice pa l ca) z.natAbs
theorem aS.later {w w':World} {v:Value} {z:Int} (h:aS w v z) (hb:Below w.heap.size w w'):aS w' v z:=by
 obtain ⟨pa,l,ca,h1,h2⟩:=h;exact ⟨pa,l,ca,h1,h2.later hb⟩
theorem aS.mk {w:World} {m:Value} {z:Int} {b:Bool} {n:Nat} (h:aK w m n) (hn:n=z.natAbs) (hb:b=decide (z<0)):aS w (.agg #[m,.bool b]) z:=by
 obtain ⟨pa,l,ca,rfl⟩:=h.slice;exact ⟨pa,l,ca,by rw [hb],hn ▸ h⟩
def mW (z:Int):Value:=.string ⟨(Lib.itoa z).toArray⟩
def gB (n:Nat) (b:Bool):Int:=if b then -(n:Int) else n
theorem fF (n:Nat) (b:Bool):(gB n b).natAbs=n:=by unfold gB;split<;>omega
theorem Ld (n:Nat) (b:Bool):(b&& !decide (n=0))=decide (gB n b<0):=by
 unfold gB;cases b
 ·simp
 ·simp only [Bool.true_and,if_true];rw [Bool.eq_iff_iff];simp
  omega
theorem aS.aO {w:World} {pa:Option Addr} {l ca:Nat} {z:Int} (h:aK w (.slice pa l ca) z.natAbs):aS w (.agg #[.slice pa l ca,.bool (decide (z<0))]) z:=⟨pa,l,ca,rfl,h⟩
theorem aS.cast {w:World} {v:Value} {y z:Int} (h:aS w v y) (e:y=z):aS w v z:=e ▸ h
theorem Lc (z:Int):gB z.natAbs (!decide (z<0))= -z:=by
 unfold gB
 by_cases h:z<0
 ·simp [h];omega
 ·simp [h];omega
theorem U3 (z:Int) (n:Nat):gB (z.natAbs*n) (decide (z<0))=z*n:=by
 unfold gB
 by_cases h:z<0
 ·simp only [h,decide_true,if_true];have:z= -(z.natAbs:Int):=by omega
  rw [this,Int.natAbs_neg,Int.natAbs_natCast,Int.natCast_mul,Int.neg_mul]
 ·simp only [h,decide_false];have:z=(z.natAbs:Int):=by omega
  rw [this,Int.natAbs_natCast,Int.natCast_mul];rfl
def sK (w:World) (b:Nat) (T:TypeId):Prop:=∃ cs,au w b cs T
theorem au.rX {w:World} {b:Nat} {cs:Array Value} {T:TypeId} (h:au w b cs T):sK w b T:=⟨cs,h⟩
theorem sK.setCell {w:World} {b:Nat} {T:TypeId} {a:Addr} {u:Value} (h:sK w b T):sK (w.setCell a u) b T:=by
 obtain ⟨cs,h⟩:=h;obtain ⟨c,o,sp⟩:=a
 by_cases hb:b=c
 ·subst hb;have hl:=h.lt;unfold au at h;have e:w.heap[b]= .cells cs T (0,0):=by simpa [hl] using h
  cases sp with
  | none =>
   refine ⟨cs.setIfInBounds o u,?_⟩;unfold au;simp [World.setCell,hl,Array.getElem_modify,e]
  | some s =>
   refine ⟨cs,?_⟩;unfold au;simp [World.setCell,hl,Array.getElem_modify,e]
 ·exact ⟨cs,h.setOther u hb⟩
theorem sK.later {w w':World} {b:Nat} {T:TypeId} (h:sK w b T) (hb:Below w.heap.size w w'):sK w' b T:=by
 obtain ⟨cs,h⟩:=h;exact ⟨cs,h.later hb⟩
theorem sK.alloc {w:World} {b:Nat} {T:TypeId} {o:Obj} (h:sK w b T):sK (w.alloc o) b T:=h.later ((Below.refl _ _).alloc (Nat.le_refl _) _)
theorem sK.drew {w:World} {b:Nat} {T:TypeId} (h:sK w b T):sK w.drew b T:=h.later (Below.drew (Below.refl _ _))
theorem sK.new (w:World) (cs:Array Value) (T:TypeId):sK (w.alloc (.cells cs T (0,0))) w.heap.size T:=⟨cs,au.new _ _ _⟩
theorem aK.jP {w:World} {v:Value} {n:Nat} {b o:Nat} {T':TypeId} {u:Value} (h:aK w v n) (hx:sK w b T') (hT:65≠T'):aK (w.setCell ⟨b,o,none⟩ u) v n:=by
 obtain ⟨cs,hx⟩:=hx;exact h.setOther hx hT o u
theorem Le {z y:Int} {b:Bool} (h:decide (z<0)=b) (k:decide (y<0)=b):gB (z.natAbs+y.natAbs) b=z+y:=by
 unfold gB;cases b
 ·simp at h k ⊢;omega
 ·simp at h k ⊢;omega
theorem Lb {z y:Int} {b:Bool} (h:decide (z<0)=b) (k:decide (y<0)= !b):gB (z.natAbs - y.natAbs) b=if y.natAbs≤z.natAbs then z+y else gB (z.natAbs - y.natAbs) b:=by
 split
 ·unfold gB;cases b
  ·simp at h k ⊢;omega
  ·simp at h k ⊢;omega
 ·rfl
theorem yZ (z y:Int):gB (z.natAbs*y.natAbs) (decide (z<0) != decide (y<0))=z*y:=by
 unfold gB
 by_cases h:z<0<;>by_cases k:y<0
 ·simp only [h,k,decide_true,decide_false,bne_self_eq_false,Bool.true_bne,Bool.false_bne,Bool.not_false,Bool.not_true,if_true,if_false];obtain ⟨a,rfl⟩:∃ a:Nat,z= -(a:Int):=⟨z.natAbs,by omega⟩;obtain ⟨b,rfl⟩:∃ b:Nat,y= -(b:Int):=⟨y.natAbs,by omega⟩;simp
  try grind
 ·simp only [h,k,decide_true,decide_false,bne_self_eq_false,Bool.true_bne,Bool.false_bne,Bool.not_false,Bool.not_true,if_true,if_false];obtain ⟨a,rfl⟩:∃ a:Nat,z= -(a:Int):=⟨z.natAbs,by omega⟩;obtain ⟨b,rfl⟩:∃ b:Nat,y=(b:Int):=⟨y.natAbs,by omega⟩;simp
  try grind
 ·simp only [h,k,decide_true,decide_false,bne_self_eq_false,Bool.true_bne,Bool.false_bne,Bool.not_false,Bool.not_true,if_true,if_false];obtain ⟨a,rfl⟩:∃ a:Nat,z=(a:Int):=⟨z.natAbs,by omega⟩;obtain ⟨b,rfl⟩:∃ b:Nat,y= -(b:Int):=⟨y.natAbs,by omega⟩;simp
  try grind
 ·simp only [h,k,decide_true,decide_false,bne_self_eq_false,Bool.true_bne,Bool.false_bne,Bool.not_false,Bool.not_true,if_true,if_false];obtain ⟨a,rfl⟩:∃ a:Nat,z=(a:Int):=⟨z.natAbs,by omega⟩;obtain ⟨b,rfl⟩:∃ b:Nat,y=(b:Int):=⟨y.natAbs,by omega⟩;simp
theorem yY {z y:Int} (h:y ∣ z):gB (z.natAbs / y.natAbs) (decide (z<0) != decide (y<0))=z / y:=by
 obtain ⟨c,rfl⟩:=h
 rcases Int.lt_trichotomy y 0 with hy|hy|hy
 ·rw [Int.natAbs_mul,Nat.mul_div_cancel_left _ zo,Int.mul_ediv_cancel_left _ zo];unfold gB
  rcases Int.lt_trichotomy c 0 with hc|hc|hc
  ·have:¬ y*c<0:=by have:=Int.mul_pos_of_neg_of_neg hy hc;omega
   simp [this,hy];omega
  ·subst hc;simp
  ·have:y*c<0:=Int.mul_neg_of_neg_of_pos hy hc;simp [this,hy];omega
 ·subst hy;simp [gB]
 ·rw [Int.natAbs_mul,Nat.mul_div_cancel_left _ zo,Int.mul_ediv_cancel_left _ zo];unfold gB;have hy2:¬ y<0:=by omega
  rcases Int.lt_trichotomy c 0 with hc|hc|hc
  ·have:y*c<0:=Int.mul_neg_of_pos_of_neg hy hc;simp [this,hy2];omega
  ·subst hc;simp
  ·have:¬ y*c<0:=by have:=Int.mul_pos hy hc;omega
   simp [this,hy2];omega
theorem aS.flag {w:World} {pa:Option Addr} {l ca:Nat} {y z:Int} {b:Bool} (h:aK w (.slice pa l ca) y.natAbs) (e:y=z) (hb:b=decide (y<0)):aS w (.agg #[.slice pa l ca,.bool b]) z:=by
 subst e hb;exact ⟨pa,l,ca,rfl,h⟩
theorem aI {w:World} {v:Value} {n:Nat} (h:aK w v n:=by repeat (first|(with_reducible exact Hid.out (by with_reducible assumption))|((with_reducible apply aK.jP);rotate_left;(focus (repeat (first|(with_reducible exact au.rX (by with_reducible assumption))|(with_reducible apply sK.setCell)|(with_reducible exact sK.new _ _ _)|(with_reducible apply sK.alloc)|(with_reducible apply sK.drew)|((with_reducible refine sK.later (w:=?_) ?_ ?_);rotate_right;with_reducible assumption))));(focus decide))|(with_reducible apply aK.alloc)|(with_reducible apply aK.drew)|((with_reducible refine aK.later (w:=?_) ?_ ?_);rotate_right;with_reducible assumption))):aK w v n:=h
end Go.Mem
namespace Go.cK
open Go Go.Num Go.Dec Lib
theorem OG (p q:Rat):let g:=p.den.gcd q.den
  let top:=p.num*((q.den / g:Nat):Int)+q.num*((p.den / g:Nat):Int)
  let h:=top.natAbs.gcd g
  (p+q).num=top / h∧(p+q).den=p.den / g*(q.den / h):=by
 intro g top h;have e:p+q=Rat.add p q:=rfl;rw [e];unfold Rat.add;simp only;have hgd:g ∣ q.den:=Nat.gcd_dvd_right _ _;have hhg:h ∣ g:=Nat.gcd_dvd_right _ _;have hh:(p.den / g*q.den) / h=p.den / g*(q.den / h):=Nat.mul_div_assoc _ (Nat.dvd_trans hhg hgd);split
 ·rename_i hg;have hg':g=1:=hg;have h1:h=1:=Nat.dvd_one.1 (hg' ▸ hhg);simp only [hg',h1,Nat.div_one,top,Int.natCast_one,Int.ediv_one,and_self]
 ·rw [Rat.maybeNormalize_eq];simp only;exact ⟨rfl,hh⟩
theorem NI (p q:Rat):let g:=p.num.natAbs.gcd q.den
  let h:=q.num.natAbs.gcd p.den
  (p*q).num=(p.num / g)*(q.num / h)∧(p*q).den=(p.den / h)*(q.den / g):=by
 intro g h;have e:p*q=Rat.mul p q:=rfl;rw [e];unfold Rat.mul;simp only [Int.divExact_eq_ediv,Nat.divExact_eq_div];exact ⟨rfl,rfl⟩
structure Fr where
 n:ByteArray
 d:ByteArray
deriving DecidableEq
def Fr.v (a:Fr):Value:=.agg #[.string a.n,.string a.d]
def Fr.of (q:Rat):Fr:=⟨⟨(Lib.itoa q.num).toArray⟩,⟨(Lib.itoa q.den).toArray⟩⟩
def Fr.no:Fr:=⟨⟨#[]⟩,⟨#[]⟩⟩
def iE (k:Nat):Nat:=10^k
def DI (n:Nat):Bool:=decide (n<iE 600)
def iR (q:Rat):Bool:=DI q.num.natAbs&&DI q.den
theorem Na {n k:Nat} (hk:0<k):n<iE k↔(decDigits n).length≤k :=
 ⟨fun h=>iM k n hk h,fun h=>Nat.lt_of_lt_of_le (J9 n) (Nat.pow_le_pow_right zo h)⟩
theorem dP {n:Nat}:DI n=true↔(decDigits n).length≤600:=by
 unfold DI;rw [decide_eq_true_iff];exact Na zo
def rd (a:Fr):Option Rat :=
 match whole a.n.data.toList,whole a.d.data.toList with
 | some n,some d=>if h:0<d∧n.natAbs.Coprime d.natAbs then some ⟨n,d.natAbs,by omega,h.2⟩ else none
 | _,_=>none
theorem AQ {a b:ByteArray} (h:a.data.toList=b.data.toList):a=b:=by
 cases a;cases b
 simp only [ByteArray.mk.injEq];exact Array.toList_inj.1 h
theorem Ql {q:Rat} (h:iR q=true):rd (Fr.of q)=some q:=by
 unfold iR at h;rw [Bool.and_eq_true,dP,dP] at h;have e1:whole (Fr.of q).n.data.toList=some q.num:=dD h.1;have h2:(decDigits ((q.den:Nat):Int).natAbs).length≤600:=(Int.natAbs_natCast q.den).symm ▸ h.2;have e2:whole (Fr.of q).d.data.toList=some ((q.den:Nat):Int):=dD (z:=((q.den:Nat):Int)) h2;unfold rd;rw [e1,e2];have hd:=q.den_pos;simp only [Int.natAbs_natCast];rw [dif_pos ⟨by omega,q.reduced⟩]
theorem Ci {a:Fr} {q:Rat} (h:rd a=some q):a=Fr.of q∧iR q=true:=by
 unfold rd at h;split at h
 ·rename_i n d e1 e2;split at h
  ·rename_i hk;simp only [Option.some.injEq] at h;subst h;obtain ⟨h1,h2⟩:=j3 e1;obtain ⟨h3,h4⟩:=j3 e2;refine ⟨?_,?_⟩
   ·cases a
    unfold Fr.of;simp only [Fr.mk.injEq] at *;refine ⟨AQ h1,AQ ?_⟩;rw [h3,show ((d.natAbs:Nat):Int)=d by omega]
   ·unfold iR;rw [Bool.and_eq_true,dP,dP];exact ⟨h2,h4⟩
  ·cases h
 ·cases h
theorem Gl {n:Int} {g:Nat} (h:g ∣ n.natAbs):Mem.gB (n.natAbs / g) (decide (n<0))=n / (g:Int):=by
 have h2:((g:Nat):Int) ∣ n:=by rwa [← Int.dvd_natAbs,Int.ofNat_dvd]
 have:=Mem.yY h2;rw [Int.natAbs_natCast,decide_eq_false (show ¬ ((g:Nat):Int)<0 by omega),Bool.bne_false] at this;exact this
theorem qI (n:Int) {d:Nat} (hd:0<d):(mkRat n d).num=Mem.gB (n.natAbs / n.natAbs.gcd d) (decide (n<0))∧(mkRat n d).den=d / n.natAbs.gcd d:=by
 rw [Rat.num_mkRat,Rat.den_mkRat,if_neg zo,if_neg zo,Nat.gcd_comm d];exact ⟨(Gl (Nat.gcd_dvd_left _ _)).symm,rfl⟩
theorem DF {n:Nat} (h:600<(decDigits n).length):DI n=false:=by
 cases hk:DI n with
 | false=>rfl
 | true=>have:=dP.1 hk;omega
def wr (q:Rat):Fr × Int:=if iR q then (Fr.of q,0) else (Fr.no,6)
def Fr.res (x:Fr × Int):Value:=.tuple #[x.1.v,.int .i64 x.2]
theorem qb {q:Rat} (h:iR q=false):Fr.res (wr q)= .tuple #[.agg #[.string ⟨#[]⟩,.string ⟨#[]⟩],.int .i64 6]:=by unfold wr;rw [if_neg (by simp [h])];rfl
theorem Xq {q:Rat} (h:iR q=true):Fr.res (wr q)= .tuple #[.agg #[Mem.mW q.num,Mem.mW q.den],.int .i64 0]:=by unfold wr;rw [if_pos h];rfl
def Aw (p q:Rat):Int:=if p<q then -1 else if q<p then 1 else 0
def sV (z:Int):Int:=if z=0 then 0 else if z<0 then -1 else 1
theorem Gi (p q:Rat):sV (p.num*(q.den:Int)+ -(q.num*(p.den:Int)))=Aw p q:=by
 unfold sV Aw
 by_cases h1:p<q
 ·rw [if_pos h1];have:=(Rat.lt_iff p q).1 h1;rw [if_neg zo,if_pos zo]
 ·rw [if_neg h1];rw [Rat.lt_iff] at h1
  by_cases h2:q<p
  ·rw [if_pos h2];have:=(Rat.lt_iff q p).1 h2;rw [if_neg zo,if_neg zo]
  ·rw [if_neg h2];rw [Rat.lt_iff] at h2;rw [if_pos zo]
def pQ (w:World) (v:Value) (q:Rat):Prop:=∃ pa l ca pb m cb,v= .agg #[.slice pa l ca,.bool (decide (q.num<0)),.slice pb m cb]∧Mem.aK w (.slice pa l ca) q.num.natAbs∧Mem.aK w (.slice pb m cb) q.den
open RowKit Mem in
theorem pQ.later {w w':World} {v:Value} {q:Rat} (h:pQ w v q) (hb:Below w.heap.size w w'):pQ w' v q:=by
 obtain ⟨pa,l,ca,pb,m,cb,h1,h2,h3⟩:=h;exact ⟨pa,l,ca,pb,m,cb,h1,h2.later hb,h3.later hb⟩
open Mem in
theorem pQ.mk (n d:Nat) {w:World} {pa pb:Option Addr} {l ca m cb:Nat} {b:Bool} {q:Rat} (h:aK w (.slice pa l ca) n) (k:aK w (.slice pb m cb) d) (hn:n=q.num.natAbs) (hd:d=q.den) (hb:b=decide (q.num<0)):pQ w (.agg #[.slice pa l ca,.bool b,.slice pb m cb]) q:=by
 subst hn hd hb;exact ⟨pa,l,ca,pb,m,cb,rfl,h,k⟩
open RowKit Mem in
theorem _root_.Go.Mem.aK.carry {w0 w w':World} {v:Value} {n:Nat} (_:aK w0 v n) (k:aK w v n) (hb:Below w.heap.size w w'):aK w' v n:=k.later hb
theorem pQ.of {w:World} {pa pb:Option Addr} {l ca m cb:Nat} {q:Rat} (h:Mem.aK w (.slice pa l ca) q.num.natAbs) (k:Mem.aK w (.slice pb m cb) q.den):pQ w (.agg #[.slice pa l ca,.bool (decide (q.num<0)),.slice pb m cb]) q:=⟨pa,l,ca,pb,m,cb,rfl,h,k⟩
def kL (k:Nat) (q:Rat):Prop:=sz 1000000000 q.num.natAbs≤k∧sz 1000000000 q.den≤k
theorem ab4:iE 600≤1000000000^67:=by decide+kernel
theorem tq {n:Nat} (h:DI n=true):sz 1000000000 n≤67:=by
 unfold DI at h;rw [decide_eq_true_iff] at h;exact aW zo 67 n (Nat.lt_of_lt_of_le h ab4)
theorem qC {q:Rat} (h:iR q=true):kL 67 q:=by
 unfold iR at h;rw [Bool.and_eq_true] at h;exact ⟨tq h.1,tq h.2⟩
theorem kL.mono {k m:Nat} {q:Rat} (h:kL k q) (hk:k≤m):kL m q:=⟨Nat.le_trans h.1 hk,Nat.le_trans h.2 hk⟩
theorem iG {a b:Nat}:sz 1000000000 (a / b)≤sz 1000000000 a:=dM zo (Nat.div_le_self a b)
theorem mh (z:Int) (n:Nat):sz 1000000000 (z*n).natAbs≤sz 1000000000 z.natAbs+sz 1000000000 n:=by
 rw [Int.natAbs_mul,Int.natAbs_natCast];exact jC zo _ _
theorem iH (z y:Int):sz 1000000000 (z*y).natAbs≤sz 1000000000 z.natAbs+sz 1000000000 y.natAbs:=by
 rw [Int.natAbs_mul];exact jC zo _ _
theorem rA (z y:Int):sz 1000000000 (z+y).natAbs≤max (sz 1000000000 z.natAbs) (sz 1000000000 y.natAbs)+1 :=
 Nat.le_trans (dM zo (Int.natAbs_add_le z y)) (Dl zo _ _)
theorem uo {k:Nat} {p q:Rat} (h:kL k p) (i:kL k q):kL (2*k+1) (p+q):=by
 obtain ⟨h1,h2⟩:=OG p q;have hp:=p.den_pos;have hq:=q.den_pos;have a1:=mh p.num (q.den / p.den.gcd q.den);have a2:=mh q.num (p.den / p.den.gcd q.den);have a3:=rA (p.num*((q.den / p.den.gcd q.den:Nat):Int)) (q.num*((p.den / p.den.gcd q.den:Nat):Int));have b1:= @iG q.den (p.den.gcd q.den);have b2:= @iG p.den (p.den.gcd q.den);obtain ⟨i1,i2⟩:=i;obtain ⟨j1,j2⟩:=h
 constructor
 ·rw [h1,Int.natAbs_ediv_of_dvd (by rw [← Int.dvd_natAbs,Int.ofNat_dvd];exact Nat.gcd_dvd_left _ _),Int.natAbs_natCast];refine Nat.le_trans iG ?_;omega
 ·rw [h2];refine Nat.le_trans (jC zo _ _) ?_;have b3:= @iG q.den ((p.num*((q.den / p.den.gcd q.den:Nat):Int)+q.num*((p.den / p.den.gcd q.den:Nat):Int)).natAbs.gcd (p.den.gcd q.den));omega
theorem oP {k:Nat} {p q:Rat} (h:kL k p) (i:kL k q):kL (2*k) (p*q):=by
 obtain ⟨h1,h2⟩:=NI p q;obtain ⟨i1,i2⟩:=i;obtain ⟨j1,j2⟩:=h
 constructor
 ·rw [h1];refine Nat.le_trans (iH _ _) ?_;rw [Int.natAbs_ediv_of_dvd (by rw [← Int.dvd_natAbs,Int.ofNat_dvd];exact Nat.gcd_dvd_left _ _),Int.natAbs_ediv_of_dvd (by rw [← Int.dvd_natAbs,Int.ofNat_dvd];exact Nat.gcd_dvd_left _ _),Int.natAbs_natCast,Int.natAbs_natCast];have:= @iG p.num.natAbs (p.num.natAbs.gcd q.den);have:= @iG q.num.natAbs (q.num.natAbs.gcd p.den);omega
 ·rw [h2];refine Nat.le_trans (jC zo _ _) ?_;have:= @iG p.den (q.num.natAbs.gcd p.den);have:= @iG q.den (p.num.natAbs.gcd q.den);omega
theorem Dj {k:Nat} {q:Rat} (h:kL k q):kL k (-q):=by
 unfold kL at *;rw [Rat.neg_num,Rat.neg_den,Int.natAbs_neg];exact h
end Go.cK
namespace Go.cK
open Go Go.Num Go.Dec Lib
abbrev FrI:=Fr × Int
def Pn (a:Fr):Int:=if (rd a).isSome then 0 else 20
def Ou (a b:Fr):Int × Int:=match rd a,rd b with
 | some p,some q=>(Aw p q,0)
 | _,_=>(0,20)
def bin (f:Rat→Rat→Fr × Int) (a b:Fr):Fr × Int:=match rd a,rd b with
 | some p,some q=>f p q
 | _,_=>(Fr.no,20)
def aC9 (a b:Fr):Fr × Int:=bin (fun p q=>wr (p+q)) a b
def aw6 (a b:Fr):Fr × Int:=bin (fun p q=>wr (p - q)) a b
def ax6 (a b:Fr):Fr × Int:=bin (fun p q=>wr (p*q)) a b
def Vk (n d:Int):Fr × Int:=if d=0 then (Fr.no,7) else wr (n / d)
theorem LA (n d:Int) (h:d≠0):mkRat (Mem.gB n.natAbs (!(decide (n<0) == decide (d<0)))) d.natAbs=(n:Rat) / (d:Rat):=by
 rw [← Rat.divInt_eq_div]
 rcases Int.lt_trichotomy d 0 with hd|hd|hd
 ·rw [← Rat.neg_divInt_neg];obtain ⟨k,rfl⟩:∃ k:Nat,d= -(k:Int):=⟨d.natAbs,by omega⟩;rw [Int.neg_neg,Rat.divInt_ofNat,Int.natAbs_neg,Int.natAbs_natCast]
  congr 1
  unfold Mem.gB
  by_cases hn:n<0
  ·simp [hn,hd];omega
  ·simp [hn,hd];omega
 ·exact absurd hd h
 ·obtain ⟨k,rfl⟩:∃ k:Nat,d=(k:Int):=⟨d.natAbs,by omega⟩;rw [Rat.divInt_ofNat,Int.natAbs_natCast]
  congr 1
  have hd2:¬ (k:Int)<0:=by omega
  unfold Mem.gB
  by_cases hn:n<0
  ·simp [hn,hd2];omega
  ·simp [hn,hd2];omega
theorem Dv (s t:ByteArray) (e:Int):Fr.res (⟨s,t⟩,e)= .tuple #[.agg #[.string s,.string t],.int .i64 e]:=rfl
end Go.cK
namespace Go.cK
open Go Go.RowKit Go.Num Go.Mem
def gX (w:World) (T:TypeId) (v:Value) (l:List Fr):Prop :=
 ∃ a cap,v= .slice a l.length cap∧l.length≤cap∧cap≤9223372036854775807∧(a=none→cap=0) ∧
  ∀ ad,a=some ad→ad.spot=none∧∃ arr,au w ad.block arr T∧∀ i (h:i<l.length),arr[ad.off+i*2]? =some (.string l[i].n)∧arr[ad.off+i*2+1]? =some (.string l[i].d)
theorem gX.later {w w':World} {T:TypeId} {v:Value} {l:List Fr} (h:gX w T v l) (hb:Below w.heap.size w w'):gX w' T v l:=by
 obtain ⟨a,cap,h1,h2,h3,h4,h5⟩:=h;refine ⟨a,cap,h1,h2,h3,h4,fun ad had=>?_⟩;obtain ⟨h6,arr,h7,h8⟩:=h5 ad had;exact ⟨h6,arr,h7.later hb,h8⟩
theorem gX.read {w:World} {T:TypeId} {v:Value} {l:List Fr} (h:gX w T v l) :
  ∃ a cap,v= .slice a l.length cap∧l.length≤cap∧cap≤9223372036854775807∧∀ k (_:k<l.length),∃ b off,a=some ⟨b,off,none⟩∧b<w.heap.size∧w.cell? ⟨b,off+k*2,none⟩=some (.string l[k].n)∧w.cell? ⟨b,off+k*2+1,none⟩=some (.string l[k].d):=by
 obtain ⟨a,cap,h1,h2,h3,h4,h5⟩:=h;refine ⟨a,cap,h1,h2,h3,fun k hk=>?_⟩;cases a with
 | none=>have:=h4 rfl;omega
 | some ad =>
  obtain ⟨h6,arr,h7,h8⟩:=h5 ad rfl;obtain ⟨b,off,sp⟩:=ad;simp only at h6;subst h6;obtain ⟨h9,h10⟩:=h8 k hk;exact ⟨b,off,rfl,h7.lt,(h7.cell _).trans h9,(h7.cell _).trans h10⟩
def gN (l:List Fr):Int:=if l.all (fun a=>(rd a).isSome) then 0 else 20
theorem S9 {a:Fr} (h:(rd a).isSome=true):Pn a=0:=by unfold Pn;rw [h];rfl
theorem aa9 {a:Fr} (h:(rd a).isSome=false):Pn a=20:=by unfold Pn;rw [h];rfl
def aN (w:World) (v:Value) (m:List (List Fr)):Prop :=
 ∃ rs:List Value,Row w 29 v rs∧rs.length=m.length∧∀ i (h:i<rs.length) (h':i<m.length),gX w 59 rs[i] m[i]
theorem aN.later {w w':World} {v:Value} {m:List (List Fr)} (h:aN w v m) (hb:Below w.heap.size w w'):aN w' v m:=by
 obtain ⟨rs,h1,h2,h3⟩:=h;exact ⟨rs,h1.later hb,h2,fun i h h'=>(h3 i h h').later hb⟩
def jQ (m:List (List Fr)):Bool:=decide (1≤m.length)&&decide (m.length≤4)&&decide (1≤(m.headD []).length)&&decide ((m.headD []).length≤4)&&m.all (fun r=>r.length == (m.headD []).length&&gN r == 0)
def gZ (m:List (List Fr)):Int:=if jQ m then 0 else 50
def Fill (w:World) (g:Nat) (T:TypeId) (n k:Nat) (ok:World→Nat→Value→Value→Prop):Prop :=
 ∃ arr,au w g arr T∧arr.size=n*2∧∀ i,i<k→∃ x y,arr[i*2]? =some x∧arr[i*2+1]? =some y∧ok w i x y
theorem Fill.box {w:World} {g:Nat} {T:TypeId} {n k:Nat} {ok:World→Nat→Value→Value→Prop} (h:Fill w g T n k ok):∃ arr,au w g arr T∧arr.size=n*2:=by
 obtain ⟨arr,h1,h2, -⟩:=h;exact ⟨arr,h1,h2⟩
theorem Fill.lt {w:World} {g:Nat} {T:TypeId} {n k:Nat} {ok:World→Nat→Value→Value→Prop} (h:Fill w g T n k ok):g<w.heap.size:=by
 obtain ⟨arr,h1, -⟩:=h;exact h1.lt
theorem Fill.rX {w:World} {g:Nat} {T:TypeId} {n k:Nat} {ok:World→Nat→Value→Value→Prop} (h:Fill w g T n k ok):sK w g T:=by
 obtain ⟨arr,h1, -⟩:=h;exact h1.rX
theorem Fill.later {w w':World} {g:Nat} {T:TypeId} {n k:Nat} {ok:World→Nat→Value→Value→Prop} (h:Fill w g T n k ok) (hb:Below w.heap.size w w') (hok:∀ i x y,ok w i x y→ok w' i x y):Fill w' g T n k ok:=by
 obtain ⟨arr,h1,h2,h3⟩:=h;refine ⟨arr,h1.later hb,h2,fun i hi=>?_⟩;obtain ⟨x,y,k1,k2,k3⟩:=h3 i hi;exact ⟨x,y,k1,k2,hok _ _ _ k3⟩
theorem Fill.cells {w:World} {g:Nat} {T:TypeId} {n k:Nat} {ok:World→Nat→Value→Value→Prop} (h:Fill w g T n k ok) {j:Nat} (hj:j<n) :
  (∃ x,w.cell? ⟨g,j*2,none⟩=some x)∧(∃ y,w.cell? ⟨g,j*2+1,none⟩=some y)∧∀ o,w.frozen? ⟨g,o,none⟩=false:=by
 obtain ⟨arr,h1,h2,h3⟩:=h;refine ⟨⟨arr[j*2]'zo,?_⟩,⟨arr[j*2+1]'zo,?_⟩,h1.free⟩
 ·rw [h1.cell];exact Array.getElem?_eq_getElem _
 ·rw [h1.cell];exact Array.getElem?_eq_getElem _
theorem Fill.step {w:World} {g:Nat} {T:TypeId} {n k:Nat} {ok:World→Nat→Value→Value→Prop} {x y:Value} (h:Fill w g T n k ok) (hk:k<n)
  (hok:∀ i x' y',ok w i x' y'→ok ((w.setCell ⟨g,k*2,none⟩ x).setCell ⟨g,k*2+1,none⟩ y) i x' y')
  (hx:ok ((w.setCell ⟨g,k*2,none⟩ x).setCell ⟨g,k*2+1,none⟩ y) k x y) :
  Fill ((w.setCell ⟨g,k*2,none⟩ x).setCell ⟨g,k*2+1,none⟩ y) g T n (k+1) ok:=by
 obtain ⟨arr,h1,h2,h3⟩:=h;refine ⟨(arr.setIfInBounds (k*2) x).setIfInBounds (k*2+1) y,(h1.set _ _).set _ _,by simp [h2],fun i hi=>?_⟩
 rcases Nat.lt_or_ge i k with h|h
 ·obtain ⟨x',y',k1,k2,k3⟩:=h3 i h;refine ⟨x',y',?_,?_,hok _ _ _ k3⟩
  ·rw [Array.getElem?_setIfInBounds,if_neg zo,Array.getElem?_setIfInBounds,if_neg zo,k1]
  ·rw [Array.getElem?_setIfInBounds,if_neg zo,Array.getElem?_setIfInBounds,if_neg zo,k2]
 ·obtain rfl:i=k:=by omega
  refine ⟨x,y,?_,?_,hx⟩
  ·rw [Array.getElem?_setIfInBounds,if_neg zo,Array.getElem?_setIfInBounds,if_pos rfl,if_pos zo]
  ·rw [Array.getElem?_setIfInBounds,if_pos rfl,if_pos (by simp;omega)]
theorem Fill.start {w:World} {base g n:Nat} {T:TypeId} {z:Array Value} {ok:World→Nat→Value→Value→Prop} (h:w.ownsRow base T 2 (.slice (some ⟨g,0,none⟩) n n) n (madeCells z (n*2)).toList):Fill w g T n 0 ok:=by
 obtain ⟨h1,h2|⟨g',cap,cur,h3,h4,h5,h6,h7,h8,h9⟩⟩:=h
 ·cases h2.1
 ·simp only [Value.slice.injEq,Option.some.injEq,Addr.mk.injEq,and_true,true_and] at h3;obtain ⟨rfl,rfl⟩:=h3;exact ⟨cur,h5,h8,fun i hi=>by omega⟩
def gq (f:Nat→Int) (w:World) (i:Nat) (x y:Value):Prop:=∃ pa l ca,x= .slice pa l ca∧y= .bool (decide (f i<0))∧aK w (.slice pa l ca) (f i).natAbs
theorem gq.later {f:Nat→Int} {w w':World} (hb:Below w.heap.size w w') (i:Nat) (x y:Value) (h:gq f w i x y):gq f w' i x y:=by
 obtain ⟨pa,l,ca,h1,h2,h3⟩:=h;exact ⟨pa,l,ca,h1,h2,h3.later hb⟩
theorem gq.jP {f:Nat→Int} {w:World} {b o:Nat} {T':TypeId} {u:Value} (hx:sK w b T') (hT:65≠T') (i:Nat) (x y:Value) (h:gq f w i x y):gq f (w.setCell ⟨b,o,none⟩ u) i x y:=by
 obtain ⟨pa,l,ca,h1,h2,h3⟩:=h;exact ⟨pa,l,ca,h1,h2,h3.jP hx hT⟩
def bN (w:World) (v:Value) (l:List Int):Prop :=
 ∃ a cap,v= .slice a l.length cap∧l.length≤cap∧cap≤9223372036854775807∧(a=none→cap=0) ∧
  ∀ ad,a=some ad→ad.spot=none∧∃ arr,au w ad.block arr 112∧∀ i (h:i<l.length),∃ x y,arr[ad.off+i*2]? =some x∧arr[ad.off+i*2+1]? =some y∧gq (fun i=>l.getD i 0) w i x y
theorem bN.later {w w':World} {v:Value} {l:List Int} (h:bN w v l) (hb:Below w.heap.size w w'):bN w' v l:=by
 obtain ⟨a,cap,h1,h2,h3,h4,h5⟩:=h;refine ⟨a,cap,h1,h2,h3,h4,fun ad had=>?_⟩;obtain ⟨h6,arr,h7,h8⟩:=h5 ad had;refine ⟨h6,arr,h7.later hb,fun i hi=>?_⟩;obtain ⟨x,y,k1,k2,k3⟩:=h8 i hi;exact ⟨x,y,k1,k2,gq.later hb _ _ _ k3⟩
theorem bN.rG {w:World} {g:Nat} {l:List Int} (h:Fill w g 112 l.length l.length (gq fun i=>l.getD i 0)) (hl:l.length≤1000000):bN w (.slice (some ⟨g,0,none⟩) l.length l.length) l:=by
 obtain ⟨arr,h1,h2,h3⟩:=h;refine ⟨_,_,rfl,Nat.le_refl _,by omega,(fun h=>by cases h),fun ad had=>?_⟩;cases had
 refine ⟨rfl,arr,h1,fun i hi=>?_⟩;obtain ⟨x,y,k1,k2,k3⟩:=h3 i hi;exact ⟨x,y,by simpa using k1,by simpa using k2,k3⟩
theorem bN.read {w:World} {v:Value} {l:List Int} (h:bN w v l) :
  ∃ a cap,v= .slice a l.length cap∧l.length≤cap∧cap≤9223372036854775807∧∀ k (_:k<l.length),∃ b off pa n ca,a=some ⟨b,off,none⟩∧b<w.heap.size∧w.cell? ⟨b,off+k*2,none⟩=some (.slice pa n ca)∧w.cell? ⟨b,off+k*2+1,none⟩=some (.bool (decide (l.getD k 0<0)))∧aK w (.slice pa n ca) (l.getD k 0).natAbs:=by
 obtain ⟨a,cap,h1,h2,h3,h4,h5⟩:=h;refine ⟨a,cap,h1,h2,h3,fun k hk=>?_⟩;cases a with
 | none=>have:=h4 rfl;omega
 | some ad =>
  obtain ⟨h6,arr,h7,h8⟩:=h5 ad rfl;obtain ⟨b,off,sp⟩:=ad;simp only at h6;subst h6;obtain ⟨x,y,h9,h10,pa,n,ca,rfl,rfl,hm⟩:=h8 k hk;exact ⟨b,off,pa,n,ca,rfl,h7.lt,(h7.cell _).trans h9,(h7.cell _).trans h10,hm⟩
def vN (f:Nat→Fr) (_:World) (i:Nat) (x y:Value):Prop:=x= .string (f i).n∧y= .string (f i).d
theorem gX.rG {w:World} {g:Nat} {T:TypeId} {l:List Fr} (h:Fill w g T l.length l.length (vN fun i=>l.getD i Fr.no)) (hl:l.length≤1000000):gX w T (.slice (some ⟨g,0,none⟩) l.length l.length) l:=by
 obtain ⟨arr,h1,h2,h3⟩:=h;refine ⟨_,_,rfl,Nat.le_refl _,by omega,(fun h=>by cases h),fun ad had=>?_⟩;cases had
 refine ⟨rfl,arr,h1,fun i hi=>?_⟩;obtain ⟨x,y,k1,k2,k3,k4⟩:=h3 i hi;have e:l.getD i Fr.no=l[i]:=by simp [hi]
 have k3':x= .string (l.getD i Fr.no).n:=k3;have k4':y= .string (l.getD i Fr.no).d:=k4;rw [e] at k3' k4';exact ⟨by simpa [k3'] using k1,by simpa [k4'] using k2⟩
def Keep (l:List TypeId) (w w':World):Prop:=∀ b cs T,T∉l→au w b cs T→au w' b cs T
theorem Keep.of_below {w w':World} {l:List TypeId} (h:Below w.heap.size w w'):Keep l w w':=fun _ _ _ _ hx=>hx.later h
theorem Keep.trans {a b c:World} {l:List TypeId} (h:Keep l a b) (k:Keep l b c):Keep l a c:=fun x cs T hT hx=>k x cs T hT (h x cs T hT hx)
theorem Keep.mono {a b:World} {l m:List TypeId} (h:Keep l a b) (k:∀ T,T∈l→T∈m):Keep m a b:=fun x cs T hT hx=>h x cs T (fun e=>hT (k T e)) hx
theorem Keep.setCell {w:World} {b:Nat} {T:TypeId} {o:Nat} {u:Value} (h:sK w b T):Keep [T] w (w.setCell ⟨b,o,none⟩ u):=fun x cs T' hT hx=>by
 obtain ⟨cs',hb⟩:=h;exact hx.setOther u (hx.ne hb (fun e=>hT (by simp [e])))
theorem Keep.others {w w':World} {row:Option Nat} (hg:w.grownBy w' row) (hr:∀ r,row=some r→∃ o:Obj,w.heap[r]? =some o∧o.isCells=false):Keep [] w w':=fun b cs T _ h=>by
 unfold au at *;rw [hg.block b (Array.getElem?_eq_some_iff.1 h).1 ?_]
 ·exact h
 ·intro e;obtain ⟨o,ho,hc⟩:=hr b e.symm;rw [h] at ho;cases ho
  cases hc
theorem Keep.grown {w w':World} {base k:Nat} {e:TypeId} {s:Nat} {v:Value} {xs:List Value} (hown:w.ownsRow base e s v k xs) (hg:w.grownBy w' v.ownBlock):Keep [e] w w':=fun b cs T hT h=>by
 unfold au at *;rw [hg.block b (Array.getElem?_eq_some_iff.1 h).1 ?_]
 ·exact h
 ·intro he;obtain ⟨-, ⟨rfl, -⟩|⟨g,cap,cur,rfl, -, hgg, -⟩⟩:=hown
  ·cases he
  ·simp only [Value.ownBlock,Option.some.injEq] at he;subst he;rw [h] at hgg;cases hgg
   exact hT zi
theorem Row.kept {l:List TypeId} {w w':World} {T:TypeId} {v:Value} {xs:List Value} (h:Row w T v xs) (k:Keep l w w') (hT:T∉l):Row w' T v xs:=by
 obtain ⟨a,cap,h1,h2,h3,h4,h5⟩:=h;refine ⟨a,cap,h1,h2,h3,h4,fun ad had=>?_⟩;obtain ⟨h6,arr,h7,h8⟩:=h5 ad had;exact ⟨h6,arr,k _ _ _ hT h7,h8⟩
theorem aK.kept {l:List TypeId} {w w':World} {v:Value} {n:Nat} (h:aK w v n) (k:Keep l w w') (hT:65∉l):aK w' v n:=Row.kept h k hT
theorem aS.kept {l:List TypeId} {w w':World} {v:Value} {n:Int} (h:aS w v n) (k:Keep l w w') (hT:65∉l):aS w' v n:=by
 obtain ⟨pa,l,ca,h1,h2⟩:=h;exact ⟨pa,l,ca,h1,aK.kept h2 k hT⟩
theorem gq.kept {l:List TypeId} {f:Nat→Int} {w w':World} (k:Keep l w w') (hT:65∉l) (i:Nat) (x y:Value) (h:gq f w i x y):gq f w' i x y:=by
 obtain ⟨pa,l,ca,h1,h2,h3⟩:=h;exact ⟨pa,l,ca,h1,h2,aK.kept h3 k hT⟩
theorem bN.kept {l:List TypeId} {w w':World} {v:Value} {xs:List Int} (h:bN w v xs) (k:Keep l w w') (hT:65∉l) (XV:112∉l):bN w' v xs:=by
 obtain ⟨a,cap,h1,h2,h3,h4,h5⟩:=h;refine ⟨a,cap,h1,h2,h3,h4,fun ad had=>?_⟩;obtain ⟨h6,arr,h7,h8⟩:=h5 ad had;refine ⟨h6,arr,k _ _ _ XV h7,fun i hi=>?_⟩;obtain ⟨x,y,k1,k2,k3⟩:=h8 i hi;exact ⟨x,y,k1,k2,gq.kept k hT _ _ _ k3⟩
theorem gX.kept {l:List TypeId} {w w':World} {T:TypeId} {v:Value} {xs:List Fr} (h:gX w T v xs) (k:Keep l w w') (hT:T∉l):gX w' T v xs:=by
 obtain ⟨a,cap,h1,h2,h3,h4,h5⟩:=h;refine ⟨a,cap,h1,h2,h3,h4,fun ad had=>?_⟩;obtain ⟨h6,arr,h7,h8⟩:=h5 ad had;exact ⟨h6,arr,k _ _ _ hT h7,h8⟩
theorem iq {l:List TypeId} {w w':World} {base k s:Nat} {e:TypeId} {v:Value} {xs:List Value} (h:w.ownsRow base e s v k xs) (hk:Keep l w w') (hT:e∉l):w'.ownsRow base e s v k xs:=by
 refine ⟨h.1,?_⟩
 rcases h.2 with hn|⟨g,cap,cur,rfl,hb,hgg,rest⟩
 ·exact .inl hn
 ·exact .inr ⟨g,cap,cur,rfl,hb,hk g cur e hT hgg,rest⟩
theorem sZ {w w':World} {base k s:Nat} {e:TypeId} {v:Value} {xs:List Value} (h:w.ownsRow base e s v k xs) (hb:Below w.heap.size w w'):w'.ownsRow base e s v k xs:=iq (l:=[]) h (Keep.of_below hb) zi
def ni {α β:Type} (R:α→β→Prop) (xs:List α) (ys:List β):Prop:=ys.length=xs.length∧∀ i (h:i<xs.length) (h':i<ys.length),R xs[i] ys[i]
theorem ni.nil {α β:Type} {R:α→β→Prop}:ni R [] []:=⟨rfl,fun i h=>by cases h⟩
theorem ni.snoc {α β:Type} {R:α→β→Prop} {xs:List α} {ys:List β} {x:α} {y:β} (h:ni R xs ys) (hr:R x y):ni R (xs++[x]) (ys++[y]):=by
 obtain ⟨h1,h2⟩:=h;refine ⟨by simp [h1],fun i h h'=>?_⟩
 by_cases hi:i<xs.length
 ·rw [List.getElem_append_left hi,List.getElem_append_left zo];exact h2 i hi zo
 ·have e:i=xs.length:=by simp at h;omega
  subst e;rw [List.getElem_append_right (Nat.le_refl _),List.getElem_append_right zo]
  simpa using hr
theorem ni.mono {α β:Type} {R S:α→β→Prop} {xs:List α} {ys:List β} (h:ni R xs ys) (k:∀ x y,R x y→S x y):ni S xs ys:=⟨h.1,fun i a b=>k _ _ (h.2 i a b)⟩
def xK (w:World) (v:Value) (xss:List (List Int)):Prop:=∃ rs,Row w 114 v rs∧ni (fun xs r=>bN w r xs) xss rs
def vM (w:World) (v:Value) (ds:List Nat):Prop:=∃ rs,Row w 108 v rs∧ni (fun d r=>aK w r d) ds rs
theorem xK.later {w w':World} {v:Value} {xss:List (List Int)} (h:xK w v xss) (hb:Below w.heap.size w w'):xK w' v xss:=by
 obtain ⟨rs,h1,h2⟩:=h;exact ⟨rs,h1.later hb,h2.mono fun _ _ h=>h.later hb⟩
theorem vM.later {w w':World} {v:Value} {ds:List Nat} (h:vM w v ds) (hb:Below w.heap.size w w'):vM w' v ds:=by
 obtain ⟨rs,h1,h2⟩:=h;exact ⟨rs,h1.later hb,h2.mono fun _ _ h=>h.later hb⟩
end Go.cK
namespace Go.cK
open Go Go.Num
def quo (z y:Int):Int:=Mem.gB (z.natAbs / y.natAbs) (decide (z<0) != decide (y<0))
theorem Y7 (z y:Int):sz 1000000000 (quo z y).natAbs≤sz 1000000000 z.natAbs:=by
 have:(quo z y).natAbs=z.natAbs / y.natAbs:=by
  unfold quo Mem.gB;split
  ·rw [Int.natAbs_neg];exact Int.natAbs_natCast _
  ·exact Int.natAbs_natCast _
 rw [this];exact iG
def Cz (xs ys:List Int) (k:Nat) (d:Int) (j:Nat):Int:=quo (ys.getD k 0*xs.getD j 0+ -(xs.getD k 0*ys.getD j 0)) d
def comb (xs ys:List Int) (k:Nat) (d:Int):List Int:=(List.range xs.length).map (Cz xs ys k d)
theorem qR (xs ys:List Int) (k:Nat) (d:Int):(comb xs ys k d).length=xs.length:=by simp [comb]
theorem Cy {xs ys:List Int} {k:Nat} {d:Int} {j:Nat} (h:j<xs.length):(comb xs ys k d).getD j 0=Cz xs ys k d j:=by simp [comb,h]
theorem SN {xs ys:List Int} {S:Nat} (k1:∀ i,sz 1000000000 (xs.getD i 0).natAbs≤S) (k2:∀ i,sz 1000000000 (ys.getD i 0).natAbs≤S) (k:Nat) (d:Int) (j:Nat):sz 1000000000 (Cz xs ys k d j).natAbs≤2*S+1:=by
 unfold Cz;refine Nat.le_trans (Y7 _ _) ?_;have a1:=iH (ys.getD k 0) (xs.getD j 0);have a2:=iH (xs.getD k 0) (ys.getD j 0);have a3:=rA (ys.getD k 0*xs.getD j 0) (-(xs.getD k 0*ys.getD j 0));have b1:=k1 j;have b2:=k2 j;have b3:=k1 k;have b4:=k2 k;rw [Int.natAbs_neg] at a3;omega
theorem Ws {xs ys:List Int} {S:Nat} (k1:∀ i,sz 1000000000 (xs.getD i 0).natAbs≤S) (k2:∀ i,sz 1000000000 (ys.getD i 0).natAbs≤S) (k:Nat) (d:Int) (j:Nat):sz 1000000000 ((comb xs ys k d).getD j 0).natAbs≤2*S+1:=by
 by_cases hj:j<xs.length
 ·rw [Cy hj];exact SN k1 k2 k d j
 ·rw [List.getD_eq_getElem?_getD,List.getElem?_eq_none (by rw [qR];omega)];simp [iB]
abbrev IM:=List (List Int)
def IM.at (rs:IM) (i j:Nat):Int:=(rs.getD i []).getD j 0
def pick (rs:IM) (k:Nat):Option Nat:=(List.range rs.length).find? fun i=>decide (k≤i)&& !decide (rs.at i k=0)
theorem Np {rs:IM} {k i:Nat} (hk:k≤i) (hi:i<rs.length) (h0:∀ j,k≤j→j<i→rs.at j k=0) (h1:rs.at i k≠0):pick rs k=some i:=by
 unfold pick;rw [List.find?_range_eq_some];refine ⟨by simp [hk,h1],by simpa using hi,fun j hj=>?_⟩
 by_cases hkj:k≤j
 ·simp [h0 j hkj hj]
 ·simp [hkj]
theorem Nq {rs:IM} {k:Nat} (h0:∀ j,k≤j→j<rs.length→rs.at j k=0):pick rs k=none:=by
 unfold pick;rw [List.find?_range_eq_none];intro j hj
 by_cases hkj:k≤j
 ·simp [h0 j hkj hj]
 ·simp [hkj]
def mO (rs:IM) (i k:Nat):IM:=(rs.set i (rs.getD k [])).set k (rs.getD i [])
def gY (rs:IM) (k:Nat) (p:Int) (i:Nat):List Int:=if i=k then rs.getD i [] else comb (rs.getD i []) (rs.getD k []) k p
def iO (rs:IM) (k:Nat) (p:Int):IM:=(List.range rs.length).map (gY rs k p)
theorem kR (rs:IM) (k:Nat) (p:Int):(iO rs k p).length=rs.length:=by simp [iO]
theorem jw {rs:IM} {k:Nat} {p:Int} {i:Nat} (h:i<rs.length):(iO rs k p).getD i []=gY rs k p i:=by simp [iO,h]
def elim:Nat→Nat→IM→Int→Bool→Int × Bool × IM
 | 0,_,rs,p,t=>(p,t,rs)
 | m+1,k,rs,p,t=>match pick rs k with
  | none=>(0,false,rs)
  | some i=>elim m (k+1) (iO (if i=k then rs else mO rs i k) k p) ((if i=k then rs else mO rs i k).at k k) (if i=k then t else !t)
def IM.fits (rs:IM) (n c S:Nat):Prop:=rs.length=n∧(∀ i,i<n→(rs.getD i []).length=c)∧∀ i j,sz 1000000000 (rs.at i j).natAbs≤S
theorem oU {rs:IM} {n i k j:Nat} (h1:rs.length=n) (hi:i<n) (hk:k<n) (hj:j<n):(mO rs i k).getD j []=rs.getD (if j=k then i else if j=i then k else j) []:=by
 unfold mO;simp only [List.getD_eq_getElem?_getD,List.getElem?_set,List.length_set]
 by_cases e1:j=k
 ·subst e1;simp [h1,hj]
 ·have e1':¬ k=j:=fun e=>e1 e.symm;rw [if_neg e1',if_neg e1]
  by_cases e2:j=i
  ·subst e2;simp [h1,hj]
  ·have e2':¬ i=j:=fun e=>e2 e.symm;rw [if_neg e2',if_neg e2]
theorem IM.fits.swap {rs:IM} {n c S i k:Nat} (h:rs.fits n c S) (hi:i<n) (hk:k<n):(mO rs i k).fits n c S:=by
 obtain ⟨h1,h2,h3⟩:=h;have key:=fun j hj=>oU (j:=j) h1 hi hk hj;refine ⟨by simp [mO,h1],fun j hj=>?_,fun j l=>?_⟩
 ·rw [key j hj];split
  ·exact h2 i hi
  ·split
   ·exact h2 k hk
   ·exact h2 j hj
 ·by_cases hj:j<n
  ·unfold IM.at;rw [key j hj];exact h3 _ l
  ·unfold IM.at;have e:(mO rs i k).getD j []=[]:=by rw [List.getD_eq_getElem?_getD,List.getElem?_eq_none (by simp [mO,h1];omega)];rfl
   rw [e];simp [iB]
theorem Nb {rs:IM} {n i k:Nat} (h1:rs.length=n) (hi:i<n) (hk:k<n):(mO rs i k).at k k=rs.at i k:=by
 unfold IM.at mO;simp only [List.getD_eq_getElem?_getD,List.getElem?_set,List.length_set];simp [h1,hk]
theorem IM.fits.clear {rs:IM} {n c S k:Nat} (h:rs.fits n c S) (p:Int):(iO rs k p).fits n c (2*S+1):=by
 obtain ⟨h1,h2,h3⟩:=h;refine ⟨by rw [kR,h1],fun j hj=>?_,fun j l=>?_⟩
 ·rw [jw zo];unfold gY;split
  ·exact h2 j hj
  ·rw [qR];exact h2 j hj
 ·by_cases hj:j<n
  ·unfold IM.at;rw [jw zo];unfold gY;split
   ·have:=h3 j l;unfold IM.at at this;omega
   ·exact Ws (fun i=>h3 j i) (fun i=>h3 k i) k p l
  ·unfold IM.at;have e:(iO rs k p).getD j []=[]:=by rw [List.getD_eq_getElem?_getD,List.getElem?_eq_none (by rw [kR];omega)];rfl
   rw [e];simp [iB]
def ext (rs:IM):IM:=(List.range rs.length).map fun i=>(List.range (2*rs.length)).map fun j=>if j<rs.length then rs.at i j else if j=rs.length+i then 1 else 0
theorem IM.fits.mono {rs:IM} {n c S S':Nat} (h:rs.fits n c S) (k:S≤S'):rs.fits n c S':=⟨h.1,h.2.1,fun i j=>Nat.le_trans (h.2.2 i j) k⟩
theorem U8 {rs:IM} {k i:Nat} (h:pick rs k=some i):i<rs.length:=by
 unfold pick at h;rw [List.find?_range_eq_some] at h
 simpa using h.2.1
def Ct (S:Nat):Nat→Nat
 | 0=>S
 | m+1=>Ct (2*S+1) m
theorem GQ:∀ (m S:Nat),S≤Ct S m
 | 0,_=>Nat.le_refl _
 | m+1,S=>Nat.le_trans zo (GQ m (2*S+1))
theorem Hu {S m:Nat} (h:m≤4):Ct S m≤16*S+15:=by
 have:m=0∨m=1∨m=2∨m=3∨m=4:=by omega
 rcases this with rfl|rfl|rfl|rfl|rfl<;>simp [Ct]<;>omega
theorem wK {n c:Nat}:∀ (m k S:Nat) (rs:IM) (p:Int) (t:Bool),rs.fits n c S→sz 1000000000 p.natAbs≤S→k+m≤n→(elim m k rs p t).2.2.fits n c (Ct S m)∧sz 1000000000 (elim m k rs p t).1.natAbs≤Ct S m
 | 0,k,S,rs,p,t,h,hp,_=>⟨h,hp⟩
 | m+1,k,S,rs,p,t,h,hp,hk=>by
  unfold elim;split
  ·exact ⟨h.mono (GQ _ _),by simp [iB]⟩
  ·rename_i i hi;have hin:=U8 hi;rw [h.1] at hin
   have h1:IM.fits (if i=k then rs else mO rs i k) n c S:=by
    split
    ·exact h
    ·exact h.swap hin zo
   exact wK m (k+1) (2*S+1) _ _ _ (h1.clear p) (Nat.le_trans (h1.2.2 k k) zo) zo
theorem Ia {rs:IM} {n S:Nat} (h:rs.fits n n S) (hS:1≤S):(ext rs).fits n (2*n) S:=by
 obtain ⟨h1,h2,h3⟩:=h
 have hrow:∀ i,i<n→(ext rs).getD i []=(List.range (2*n)).map fun j=>if j<n then rs.at i j else if j=n+i then 1 else 0:=fun i hi=>by
  unfold ext;rw [h1];simp [hi]
 refine ⟨by simp [ext,h1],fun i hi=>by rw [hrow i hi];simp,fun i j=>?_⟩;unfold IM.at
 by_cases hi:i<n
 ·rw [hrow i hi]
  by_cases hj:j<2*n
  ·have e:((List.range (2*n)).map fun j=>if j<n then rs.at i j else if j=n+i then (1:Int) else 0).getD j 0=if j<n then rs.at i j else if j=n+i then 1 else 0:=by simp [hj]
   rw [e];split
   ·exact h3 i j
   ·split
    ·have:sz 1000000000 (1:Int).natAbs=1:=by decide+kernel
     omega
    ·simp [iB]
  ·rw [List.getD_eq_getElem?_getD,List.getElem?_eq_none (by simp;omega)];simp [iB]
 ·have e:(ext rs).getD i []=[]:=by rw [List.getD_eq_getElem?_getD,List.getElem?_eq_none (by simp [ext,h1];omega)];rfl
  rw [e];simp [iB]
end Go.cK
namespace Go.cK
open Go Go.RowKit Go.Num Go.Mem
def Off (P:Nat) (v:Value):Prop:=∀ a m c,v= .slice (some a) m c→a.block≠P
def fu (w:World) (P B off n:Nat) (f:Nat→List Int):Prop:=∃ arr,au w B arr 114∧∀ i,i<n→∃ v,arr[off+i]? =some v∧bN w v (f i)∧Off P v
theorem fu.rX {w:World} {P B off n:Nat} {f:Nat→List Int} (h:fu w P B off n f):sK w B 114:=by
 obtain ⟨arr,h1, -⟩:=h;exact h1.rX
theorem fu.lt {w:World} {P B off n:Nat} {f:Nat→List Int} (h:fu w P B off n f):B<w.heap.size:=by
 obtain ⟨arr,h1, -⟩:=h;exact h1.lt
theorem fu.free {w:World} {P B off n:Nat} {f:Nat→List Int} (h:fu w P B off n f) (o:Nat):w.frozen? ⟨B,o,none⟩=false:=by
 obtain ⟨arr,h1, -⟩:=h;exact h1.free o
theorem fu.later {w w':World} {P B off n:Nat} {f:Nat→List Int} (h:fu w P B off n f) (hb:Below w.heap.size w w'):fu w' P B off n f:=by
 obtain ⟨arr,h1,h2⟩:=h;refine ⟨arr,h1.later hb,fun i hi=>?_⟩;obtain ⟨v,k1,k2,k3⟩:=h2 i hi;exact ⟨v,k1,k2.later hb,k3⟩
theorem fu.congr {w:World} {P B off n:Nat} {f g:Nat→List Int} (h:fu w P B off n f) (e:∀ i,i<n→f i=g i):fu w P B off n g:=by
 obtain ⟨arr,h1,h2⟩:=h;refine ⟨arr,h1,fun i hi=>?_⟩;obtain ⟨v,k1,k2,k3⟩:=h2 i hi;exact ⟨v,k1,e i hi ▸ k2,k3⟩
theorem fu.get {w:World} {P B off n:Nat} {f:Nat→List Int} (h:fu w P B off n f) {i:Nat} (hi:i<n) :
  ∃ a c,w.cell? ⟨B,off+i,none⟩=some (.slice a (f i).length c)∧(f i).length≤c∧c≤9223372036854775807∧bN w (.slice a (f i).length c) (f i)∧Off P (.slice a (f i).length c):=by
 obtain ⟨arr,h1,h2⟩:=h;obtain ⟨v,k1,k2,k3⟩:=h2 i hi;obtain ⟨a,c,rfl,k4,k5, -⟩:=k2.read;exact ⟨a,c,(h1.cell _).trans k1,k4,k5,k2,k3⟩
theorem bN.elem {w:World} {P:Nat} {a:Option Addr} {m c:Nat} {l:List Int} (h:bN w (.slice a m c) l) (ho:Off P (.slice a m c)) {j:Nat} (hj:j<l.length) :
  ∃ b o pa n ca,a=some ⟨b,o,none⟩∧b≠P∧b<w.heap.size∧w.cell? ⟨b,o+j*2,none⟩=some (.slice pa n ca)∧w.cell? ⟨b,o+j*2+1,none⟩=some (.bool (decide (l.getD j 0<0)))∧aK w (.slice pa n ca) (l.getD j 0).natAbs:=by
 obtain ⟨a',c',e, -, -, h2⟩:=h.read;simp only [Value.slice.injEq] at e;obtain ⟨rfl,rfl,rfl⟩:=e;obtain ⟨b,o,pa,n,ca,rfl,k1,k2,k3,k4⟩:=h2 j hj;exact ⟨b,o,pa,n,ca,rfl,ho _ _ _ rfl,k1,k2,k3,k4⟩
theorem bN.qo {w:World} {P o:Nat} {v u:Value} {l:List Int} (h:bN w v l) (hv:Off P v) (hP:sK w P 112):bN (w.setCell ⟨P,o,none⟩ u) v l:=by
 obtain ⟨a,cap,h1,h2,h3,h4,h5⟩:=h;refine ⟨a,cap,h1,h2,h3,h4,fun ad had=>?_⟩;subst had;obtain ⟨h6,arr,h7,h8⟩:=h5 ad rfl;refine ⟨h6,arr,h7.setOther u (hv ad _ _ h1),fun i hi=>?_⟩;obtain ⟨x,y,k1,k2,k3⟩:=h8 i hi;exact ⟨x,y,k1,k2,gq.jP hP zd _ _ _ k3⟩
theorem fu.qo {w:World} {P B off n o:Nat} {f:Nat→List Int} {u:Value} (h:fu w P B off n f) (hP:sK w P 112):fu (w.setCell ⟨P,o,none⟩ u) P B off n f:=by
 obtain ⟨arr,h1,h2⟩:=h;obtain ⟨cs,hx⟩:=hP;refine ⟨arr,h1.setOther u (h1.ne hx zd),fun i hi=>?_⟩;obtain ⟨v,k1,k2,k3⟩:=h2 i hi;exact ⟨v,k1,k2.qo k3 ⟨cs,hx⟩,k3⟩
theorem fu.set {w:World} {P B off n i:Nat} {f:Nat→List Int} {v:Value} {xs:List Int} (h:fu w P B off n f) (hi:i<n) (hv:bN w v xs) (ho:Off P v):fu (w.setCell ⟨B,off+i,none⟩ v) P B off n (fun j=>if j=i then xs else f j):=by
 have hB:=h.rX;obtain ⟨arr,h1,h2⟩:=h
 have hs:off+i<arr.size:=by
  obtain ⟨u,k1, -⟩:=h2 i hi;exact (Array.getElem?_eq_some_iff.1 k1).1
 refine ⟨arr.setIfInBounds (off+i) v,h1.set _ _,fun j hj=>?_⟩
 by_cases e:j=i
 ·subst e;refine ⟨v,?_,?_,ho⟩
  ·rw [Array.getElem?_setIfInBounds,if_pos rfl,if_pos hs]
  ·simp only [if_true];exact hv.kept (Keep.setCell hB) zd zd
 ·obtain ⟨u,k1,k2,k3⟩:=h2 j hj;refine ⟨u,?_,?_,k3⟩
  ·rw [Array.getElem?_setIfInBounds,if_neg zo,k1]
  ·simp only [if_neg e];exact k2.kept (Keep.setCell hB) zd zd
def nY (w:World) (B off n:Nat) (f:Nat→List Int):Prop:=∃ arr,au w B arr 114∧∀ i,i<n→∃ v,arr[off+i]? =some v∧bN w v (f i)
theorem fu.Xu {w:World} {P B off n:Nat} {f:Nat→List Int} (h:fu w P B off n f):nY w B off n f:=by
 obtain ⟨arr,h1,h2⟩:=h;refine ⟨arr,h1,fun i hi=>?_⟩;obtain ⟨v,k1,k2, -⟩:=h2 i hi;exact ⟨v,k1,k2⟩
theorem bN.off {w:World} {v:Value} {l:List Int} (h:bN w v l) {P:Nat} (hP:w.heap.size≤P):Off P v:=by
 obtain ⟨a,cap,h1,h2,h3,h4,h5⟩:=h;intro ad m c e;rw [h1] at e;simp only [Value.slice.injEq] at e;obtain ⟨rfl, -, -⟩:=e;obtain ⟨-, arr,h7, -⟩:=h5 ad rfl;have:=h7.lt;omega
theorem nY.Xt {w:World} {B off n:Nat} {f:Nat→List Int} (h:nY w B off n f):fu w w.heap.size B off n f:=by
 obtain ⟨arr,h1,h2⟩:=h;refine ⟨arr,h1,fun i hi=>?_⟩;obtain ⟨v,k1,k2⟩:=h2 i hi;exact ⟨v,k1,k2,k2.off (Nat.le_refl _)⟩
theorem fu.alloc {w:World} {P B off n:Nat} {f:Nat→List Int} (h:fu w P B off n f) (o:Obj):fu (w.alloc o) P B off n f:=h.later ((Below.refl _ _).alloc (Nat.le_refl _) _)
theorem fu.drew {w:World} {P B off n:Nat} {f:Nat→List Int} (h:fu w P B off n f):fu w.drew P B off n f:=h.later (Below.drew (Below.refl _ _))
def fM (w w':World) (B:Nat):Prop:=w.grownBy w' (some B)
theorem fM.refl (w:World) (B:Nat):fM w w B:=Cj w _
theorem fM.below {a w w':World} {B:Nat} (h:fM a w B) (hb:Below w.heap.size w w'):fM a w' B :=
 ⟨hb.os.trans h.os,hb.tape.trans h.tape,hb.output.trans h.output,Nat.le_trans h.size hb.size,fun i hi hne=>(hb.block i (Nat.lt_of_lt_of_le hi h.size)).trans (h.block i hi hne)⟩
theorem fM.set {a w:World} {B:Nat} (h:fM a w B) (o:Nat) (u:Value):fM a (w.setCell ⟨B,o,none⟩ u) B:=qG h o u
theorem fM.gG {a w:World} {B P:Nat} (h:fM a w B) (hP:a.heap.size≤P) (o:Nat) (u:Value):fM a (w.setCell ⟨P,o,none⟩ u) B :=
 ⟨h.os,h.tape,h.output,by simpa [World.setCell] using h.size,fun i hi hne=>(Below.heap_setCell w _ u i (by rintro rfl;exact absurd hi (by simp;omega))).trans (h.block i hi hne)⟩
theorem fM.size {a w:World} {B:Nat} (h:fM a w B):a.heap.size≤w.heap.size:=World.grownBy.size h
theorem fM.toBelow {b a w:World} {B:Nat} (h:fM a w B) (hb:Below b.heap.size b a) (hB:b.heap.size≤B):Below b.heap.size b w :=
 sJ hb h hb.size hB
def fK (w:World) (M n k:Nat) (f:Nat→List Fr):Prop :=
 ∃ arr,au w M arr 29∧arr.size=n∧∀ i,i<k→∃ v,arr[i]? =some v∧gX w 59 v (f i)
theorem fK.lt {w:World} {M n k:Nat} {f:Nat→List Fr} (h:fK w M n k f):M<w.heap.size:=by
 obtain ⟨arr,h1, -⟩:=h;exact h1.lt
theorem fK.rX {w:World} {M n k:Nat} {f:Nat→List Fr} (h:fK w M n k f):sK w M 29:=by
 obtain ⟨arr,h1, -⟩:=h;exact h1.rX
theorem fK.later {w w':World} {M n k:Nat} {f:Nat→List Fr} (h:fK w M n k f) (hb:Below w.heap.size w w'):fK w' M n k f:=by
 obtain ⟨arr,h1,h2,h3⟩:=h;refine ⟨arr,h1.later hb,h2,fun i hi=>?_⟩;obtain ⟨v,k1,k2⟩:=h3 i hi;exact ⟨v,k1,k2.later hb⟩
theorem fK.cell {w:World} {M n k:Nat} {f:Nat→List Fr} (h:fK w M n k f) {j:Nat} (hj:j<n):(∃ x,w.cell? ⟨M,j,none⟩=some x)∧∀ o,w.frozen? ⟨M,o,none⟩=false:=by
 obtain ⟨arr,h1,h2, -⟩:=h;exact ⟨⟨arr[j]'zo,by rw [h1.cell];exact Array.getElem?_eq_getElem _⟩,h1.free⟩
theorem fK.start {w:World} {base g n:Nat} {z:Array Value} {f:Nat→List Fr} (h:w.ownsRow base 29 1 (.slice (some ⟨g,0,none⟩) n n) n (madeCells z n).toList):fK w g n 0 f:=by
 obtain ⟨h1,h2|⟨g',cap,cur,h3,h4,h5,h6,h7,h8,h9⟩⟩:=h
 ·cases h2.1
 ·simp only [Value.slice.injEq,Option.some.injEq,Addr.mk.injEq,and_true,true_and] at h3;obtain ⟨rfl,rfl⟩:=h3;exact ⟨cur,h5,by omega,fun i hi=>by omega⟩
theorem au.uniq {w:World} {b:Nat} {cs cs':Array Value} {T T':TypeId} (h:au w b cs T) (h':au w b cs' T'):cs=cs':=by
 unfold au at *;rw [h] at h'
 injection h' with e
 injection e
theorem fM.box {w w':World} {M b:Nat} {cs:Array Value} {T:TypeId} (h:fM w w' M) (hb:au w b cs T) (hne:b≠M):au w' b cs T:=by
 have hl:=hb.lt;unfold au at *;rw [World.grownBy.block h b hl (by simpa using hne)];exact hb
theorem gX.near {w w':World} {M:Nat} {T T':TypeId} {v:Value} {l:List Fr} (h:gX w T v l) (k:fM w w' M) (hM:sK w M T') (hT:T≠T'):gX w' T v l:=by
 obtain ⟨a,cap,h1,h2,h3,h4,h5⟩:=h;refine ⟨a,cap,h1,h2,h3,h4,fun ad had=>?_⟩;obtain ⟨h6,arr,h7,h8⟩:=h5 ad had;obtain ⟨cs,hM⟩:=hM;exact ⟨h6,arr,k.box h7 (h7.ne hM hT),h8⟩
theorem fK.step {w w':World} {M n k:Nat} {f:Nat→List Fr} {v:Value} (h:fK w M n k f) (hk:k<n) (hn:fM w w' M)
  (hb:∀ arr,au w M arr 29→au w' M (arr.setIfInBounds k v) 29) (hv:gX w' 59 v (f k)):fK w' M n (k+1) f:=by
 have hM:=h.rX;obtain ⟨arr,h1,h2,h3⟩:=h;refine ⟨arr.setIfInBounds k v,hb _ h1,by simp [h2],fun i hi=>?_⟩
 rcases Nat.lt_or_ge i k with h|h
 ·obtain ⟨u,k1,k2⟩:=h3 i h;refine ⟨u,?_,k2.near hn hM zd⟩;rw [Array.getElem?_setIfInBounds,if_neg zo,k1]
 ·obtain rfl:i=k:=by omega
  refine ⟨v,?_,hv⟩;rw [Array.getElem?_setIfInBounds,if_pos rfl,if_pos zo]
theorem fK.JF {w:World} {M:Nat} {m:List (List Fr)} (h:fK w M m.length m.length (fun i=>m.getD i [])) (hm:m.length≤1000000):aN w (.slice (some ⟨M,0,none⟩) m.length m.length) m:=by
 obtain ⟨arr,h1,h2,h3⟩:=h;refine ⟨arr.toList,Row.mk ?_ ?_ zo h1 ?_,?_,?_⟩
 ·simp [h2]
 ·simp [h2]
 ·intro i hi;rw [Nat.zero_add];simp at hi
  simp [hi]
 ·simp [h2]
 ·intro i hi hi';obtain ⟨v,k1,k2⟩:=h3 i hi'
  have e:arr.toList[i]=v:=by
   rw [Array.getElem_toList];exact (Array.getElem?_eq_some_iff.1 k1).2
  rw [e];have e2:m.getD i []=m[i]:=by simp [hi']
  rw [← e2];exact k2
def aV (w:World) (er:Int) (m:List (List Fr)) (e:Ending) (w':World):Prop :=
 Below w.heap.size w w'∧∃ v,e= .returned (.tuple #[v,.int .i64 er])∧(er=0→aN w' v m)∧(er≠0→v= .slice none 0 0)
theorem aV.no {w w':World} {er:Int} {m:List (List Fr)} (hb:Below w.heap.size w w') (he:er≠0):aV w er m (.returned (.tuple #[.slice none 0 0,.int .i64 er])) w' :=
 ⟨hb,_,rfl,fun h=>absurd h he,fun _=>rfl⟩
theorem aV.yes {w w':World} {m:List (List Fr)} {v:Value} (hb:Below w.heap.size w w') (hv:aN w' v m):aV w 0 m (.returned (.tuple #[v,.int .i64 0])) w' :=
 ⟨hb,_,rfl,fun _=>hv,fun h=>absurd rfl h⟩
def Fr.zero:Fr:=⟨⟨#[48]⟩,⟨#[49]⟩⟩
def Fr.one:Fr:=⟨⟨#[49]⟩,⟨#[49]⟩⟩
def lI (l:List Fr) (r:Nat):List Fr:=(List.range l.length).map fun c=>if c=r then l.getD r Fr.no else Fr.zero
def kT (l:List Fr):List (List Fr):=(List.range l.length).map (lI l)
def Ic (l:List Fr):Int:=if l.length<1∨4<l.length then 2 else gN l
def idE (n:Int):Int:=if n<1∨4<n then 2 else 0
theorem Fill.put {w:World} {G n j:Nat} {T:TypeId} {f:Nat→Fr} {x:Fr} (h:Fill w G T n n (vN f)) (hj:j<n) :
  Fill ((w.setCell ⟨G,j*2,none⟩ (.string x.n)).setCell ⟨G,j*2+1,none⟩ (.string x.d)) G T n n (vN fun c=>if c=j then x else f c):=by
 obtain ⟨arr,h1,h2,h3⟩:=h;refine ⟨(arr.setIfInBounds (j*2) (.string x.n)).setIfInBounds (j*2+1) (.string x.d),(h1.set _ _).set _ _,by simp [h2],fun i hi=>?_⟩
 by_cases e:i=j
 ·subst e;refine ⟨.string x.n,.string x.d,?_,?_,?_⟩
  ·rw [Array.getElem?_setIfInBounds,if_neg zo,Array.getElem?_setIfInBounds,if_pos rfl,if_pos zo]
  ·rw [Array.getElem?_setIfInBounds,if_pos rfl,if_pos (by simp;omega)]
  ·unfold vN;simp only [if_true,and_self]
 ·obtain ⟨x',y',k1,k2,k3⟩:=h3 i hi;refine ⟨x',y',?_,?_,?_⟩
  ·rw [Array.getElem?_setIfInBounds,if_neg zo,Array.getElem?_setIfInBounds,if_neg zo,k1]
  ·rw [Array.getElem?_setIfInBounds,if_neg zo,Array.getElem?_setIfInBounds,if_neg zo,k2]
  ·unfold vN at *;simp only [if_neg e];exact k3
theorem Fill.other {w:World} {g:Nat} {T:TypeId} {n k:Nat} {f:Nat→Fr} (h:Fill w g T n k (vN f)) {a:Addr} (u:Value) (hne:g≠a.block):Fill (w.setCell a u) g T n k (vN f):=by
 obtain ⟨arr,h1,h2,h3⟩:=h;exact ⟨arr,h1.setOther u hne,h2,h3⟩
theorem Fill.zI {w w':World} {g:Nat} {T:TypeId} {n k:Nat} {f:Nat→Fr} (h:Fill w g T n k (vN f)) (hb:Below w.heap.size w w'):Fill w' g T n k (vN f):=h.later hb (fun _ _ _ h=>h)
theorem Fill.Sc {w:World} {g:Nat} {T:TypeId} {n:Nat} {l:List Fr} (h:Fill w g T n n (vN fun i=>l.getD i Fr.no)) (hn:l.length=n) (hl:n≤1000000):gX w T (.slice (some ⟨g,0,none⟩) n n) l:=by
 subst hn;exact gX.rG h hl
theorem Fill.Av {w:World} {g:Nat} {T:TypeId} {n k:Nat} {f f':Nat→Fr} (h:Fill w g T n k (vN f)) (e:∀ i,i<k→f i=f' i):Fill w g T n k (vN f'):=by
 obtain ⟨arr,h1,h2,h3⟩:=h;refine ⟨arr,h1,h2,fun i hi=>?_⟩;obtain ⟨x,y,k1,k2,k3⟩:=h3 i hi;refine ⟨x,y,k1,k2,?_⟩;unfold vN at *;rw [← e i hi];exact k3
end Go.cK
namespace Go.Mem
open Go Go.RowKit Go.SW Go.Num Go.cK
abbrev Rl (α:Type):=World→α→List Value→Prop
def r9 {α:Type} (m:List TypeId) (R:Rl α):Prop:=∀ w w' a c,Keep m w w'→R w a c→R w' a c
theorem r9.sub {α:Type} {m l:List TypeId} {R:Rl α} (h:r9 m R) (k:∀ T,T∈l→T∈m):r9 l R:=fun w w' a c hk hr=>h w w' a c (hk.mono k) hr
theorem r9.nil {α:Type} {m:List TypeId} {R:Rl α} (h:r9 m R):r9 [] R:=h.sub (fun _ h=>by cases h)
def dH {α:Type} (w:World) (B:Nat) (T:TypeId) (s:Nat) (R:Rl α) (v:Value) (l:List α):Prop :=
 ∃ xs:List (List Value),w.ownsRow B T s v l.length xs.flatten∧ni (fun a c=>R w a c∧c.length=s) l xs
theorem dH.nil {α:Type} (w:World) (B:Nat) (T:TypeId) (s:Nat) (R:Rl α):dH w B T s R (.slice none 0 0) []:=⟨[],World.ownsRow_nil _ _ _ _,ni.nil⟩
theorem dH.slice {α:Type} {w:World} {B:Nat} {T:TypeId} {s:Nat} {R:Rl α} {v:Value} {l:List α} (h:dH w B T s R v l):∃ a c,v= .slice a l.length c:=by
 obtain ⟨xs,⟨h1,⟨rfl,h2⟩|⟨g,cap,cur,rfl, -⟩⟩, -⟩:=h
 ·exact ⟨_,_,by rw [h2]⟩
 ·exact ⟨_,_,rfl⟩
theorem dH.at {α:Type} {w:World} {B:Nat} {T:TypeId} {s n:Nat} {R:Rl α} {v:Value} {l:List α} (h:dH w B T s R v l) (hn:l.length=n):∃ a c,v= .slice a n c:=hn ▸ h.slice
theorem dH.kept {α:Type} {w w':World} {B:Nat} {T:TypeId} {s:Nat} {R:Rl α} {v:Value} {l:List α} {m:List TypeId} (h:dH w B T s R v l) (k:Keep m w w') (hT:T∉m) (hR:r9 m R):dH w' B T s R v l:=by
 obtain ⟨xs,h1,h2⟩:=h;exact ⟨xs,iq h1 k hT,h2.mono fun _ _ h=>⟨hR _ _ _ _ k h.1,h.2⟩⟩
theorem dH.later {α:Type} {w w':World} {B:Nat} {T:TypeId} {s:Nat} {R:Rl α} {v:Value} {l:List α} (h:dH w B T s R v l) (hb:Below w.heap.size w w') (hR:r9 [] R):dH w' B T s R v l:=h.kept (Keep.of_below hb) zi hR
theorem eZ {P:Program} {ops:Array Oper} {rest:List Oper} {o:Oper} {a:Act} {Q:Exit→Act→World→Prop} {w w0:World} (hgd:o.guard=none) (s x:Operand) (t:TypeId)
  (ho:o.op= .call { callee:=.builtin .append,args:=#[s,x],argTypes:=#[t,t] }) (e:TypeId) (i:TypeInfo) (z:Value) (size bytes:Nat) (ht:P.underlying t=some (.slice e)) (hi:P.info? e=some i) (hz:i.zero=some z)
  (hsize:i.size=size) (hby:i.bytes=bytes) (hzs:z.cells.size=size) (hsz:0<size) {α:Type} (R:Rl α) (v:Value) (l:List α) (hs:a.eval s=v) (hG:dH w w0.heap.size e size R v l) (hb:Below w0.heap.size w0 w)
  (b:Nat) (c:List Value) (y:α) (hx:a.eval x= .slice (some ⟨b,0,none⟩) 1 1) (hbx:au w b c.toArray e) (hc:c.length=size) (h1:∀ u∈c,u.oneCell'=true) (hy:R w y c) (hR:r9 [e] R) (hn:l.length≤1000000) (hbytes:bytes≤1000)
  (h:∀ v' w',dH w' w0.heap.size e size R v' (l++[y])→Below w0.heap.size w0 w'→Keep [e] w w'→wpList P ops Q rest (a.put o.dst v') w'):wpList P ops Q (o::rest) a w:=by
 obtain ⟨xs,hown,hall⟩:=hG;refine wpList_append_own w hgd s x t ho w0.heap.size e i z size bytes ht hi hz hsize hby hzs hsz v l.length xs.flatten hs hown ⟨b,0,none⟩ 1 1 c hx (by rw [hc,Nat.one_mul]) (fun j u hu=>?_) h1 (by unfold maxLen;omega) ?_ hb.size (fun v' w' hown' hg _=>?_)
 ·rw [Addr.add_lit,hbx.cell,Nat.zero_add,List.getElem?_toArray,hu]
 ·have:=Nat.mul_le_mul (show l.length+1≤1000001 by omega) hbytes;omega
 ·have hk:Keep [e] w w':=Keep.grown hown hg;refine h v' w' ⟨xs++[c],?_,(ni.mono hall fun a c h=>⟨hR _ _ _ _ hk h.1,h.2⟩).snoc ⟨hR _ _ _ _ hk hy,hc⟩⟩ (hb.grown hg hb.size fun r hr=>?_) hk
  ·rw [List.length_append,List.flatten_append]
   simpa using hown'
  ·obtain ⟨-, ⟨rfl, -⟩|⟨g,cap,cur,rfl,hg1, -⟩⟩:=hown
   ·cases hr
   ·simp only [Value.ownBlock,Option.some.injEq] at hr;omega
def wP {α:Type} (w:World) (T:TypeId) (s:Nat) (R:Rl α) (v:Value) (l:List α):Prop :=
 ∃ a cap,v= .slice a l.length cap∧l.length≤cap∧cap≤9223372036854775807∧(a=none→cap=0) ∧
  ∀ ad,a=some ad→ad.spot=none∧∃ arr,au w ad.block arr T∧∀ i (h:i<l.length),∃ c,R w l[i] c∧c.length=s∧∀ j,j<s→arr[ad.off+i*s+j]? =c[j]?
theorem wP.kept {α:Type} {w w':World} {T:TypeId} {s:Nat} {R:Rl α} {v:Value} {l:List α} {m:List TypeId} (h:wP w T s R v l) (k:Keep m w w') (hT:T∉m) (hR:r9 m R):wP w' T s R v l:=by
 obtain ⟨a,cap,h1,h2,h3,h4,h5⟩:=h;refine ⟨a,cap,h1,h2,h3,h4,fun ad had=>?_⟩;obtain ⟨h6,arr,h7,h8⟩:=h5 ad had;refine ⟨h6,arr,k _ _ _ hT h7,fun i hi=>?_⟩;obtain ⟨c,k1,k2,k3⟩:=h8 i hi;exact ⟨c,hR _ _ _ _ k k1,k2,k3⟩
theorem wP.later {α:Type} {w w':World} {T:TypeId} {s:Nat} {R:Rl α} {v:Value} {l:List α} (h:wP w T s R v l) (hb:Below w.heap.size w w') (hR:r9 [] R):wP w' T s R v l:=h.kept (Keep.of_below hb) zi hR
theorem wP.slice {α:Type} {w:World} {T:TypeId} {s:Nat} {R:Rl α} {v:Value} {l:List α} (h:wP w T s R v l):∃ a c,v= .slice a l.length c:=by
 obtain ⟨a,c,h1, -⟩:=h;exact ⟨a,c,h1⟩
theorem wP.read {α:Type} {w:World} {T:TypeId} {s:Nat} {R:Rl α} {v:Value} {l:List α} (h:wP w T s R v l) :
  ∃ a cap,v= .slice a l.length cap∧l.length≤cap∧cap≤9223372036854775807∧∀ k (_:k<l.length),∃ b off c,a=some ⟨b,off,none⟩∧b<w.heap.size∧R w l[k] c∧c.length=s∧∀ j,j<s→w.cell? ⟨b,off+k*s+j,none⟩=c[j]? :=by
 obtain ⟨a,cap,h1,h2,h3,h4,h5⟩:=h;refine ⟨a,cap,h1,h2,h3,fun k hk=>?_⟩;cases a with
 | none=>have:=h4 rfl;omega
 | some ad =>
  obtain ⟨h6,arr,h7,h8⟩:=h5 ad rfl;obtain ⟨b,off,sp⟩:=ad;simp only at h6;subst h6;obtain ⟨c,k1,k2,k3⟩:=h8 k hk;exact ⟨b,off,c,rfl,h7.lt,k1,k2,fun j hj=>(h7.cell _).trans (k3 j hj)⟩
theorem LX {xs:List (List Value)} {s:Nat} (h:∀ c∈xs,c.length=s):∀ {i:Nat} (hi:i<xs.length) {j:Nat},j<s→xs.flatten[i*s+j]? =xs[i][j]? :=by
 induction xs with
 | nil=>intro i hi;cases hi
 | cons x t ih =>
  intro i hi j hj;have hx:=h x zi;rw [List.flatten_cons];cases i with
  | zero =>
   rw [Nat.zero_mul,Nat.zero_add,List.getElem?_append_left zo];rfl
  | succ i =>
   rw [List.getElem?_append_right (by rw [hx,Nat.succ_mul];omega),hx];rw [show (i+1)*s+j - s=i*s+j by rw [Nat.succ_mul];omega];exact ih (fun c hc=>h c (by simp [hc])) (by simpa using hi) hj
theorem Tz {α β:Type} {R:α→β→Prop} {S:β→Prop} {xs:List α} {ys:List β} (h:ni R xs ys) (k:∀ a b,R a b→S b):∀ b∈ys,S b:=fun b hb=>by
 obtain ⟨i,hi,rfl⟩:=List.getElem_of_mem hb;exact k _ _ (h.2 i (by have:=h.1;omega) hi)
theorem dH.UZ {α:Type} {w:World} {B:Nat} {T:TypeId} {s:Nat} {R:Rl α} {v:Value} {l:List α} (h:dH w B T s R v l):wP w T s R v l:=by
 obtain ⟨xs,⟨h1,⟨rfl,h2⟩|⟨g,cap,cur,rfl,h3,h4,h5,h6,h7,h8⟩⟩,hall⟩:=h
 ·have:l=[]:=List.length_eq_zero_iff.1 h2;subst this;exact ⟨none,0,rfl,Nat.le_refl _,by omega,fun _=>rfl,fun _ h=>by cases h⟩
 ·unfold maxLen at h6;refine ⟨_,cap,rfl,h5,h6,(fun h=>by cases h),fun ad had=>?_⟩;cases had
  refine ⟨rfl,cur,h4,fun i hi=>?_⟩;have hix:i<xs.length:=by have:=hall.1;omega
  obtain ⟨k1,k2⟩:=hall.2 i hi hix;refine ⟨xs[i],k1,k2,fun j hj=>?_⟩;have e:=LX (Tz (S:=fun c=>c.length=s) hall fun _ _ h=>h.2) hix hj;rw [Nat.zero_add,← Array.getElem?_toList,← e,← h8]
  have hlt:i*s+j<l.length*s:=by
   have:=Nat.mul_le_mul_right s (show i+1≤l.length by omega);rw [Nat.succ_mul] at this;omega
  rw [List.getElem?_take_of_lt hlt]
theorem Sj {xs:List (List Value)} {s:Nat} (h:∀ c∈xs,c.length=s):xs.flatten.length=xs.length*s:=by
 induction xs with
 | nil=>simp
 | cons x t ih =>
  rw [List.flatten_cons,List.length_append,h x zi,ih fun c hc=>h c (by simp [hc]),List.length_cons,Nat.succ_mul];omega
theorem wP.src {α:Type} {w:World} {T:TypeId} {s n c b off:Nat} {R:Rl α} {l:List α} (h:wP w T s R (.slice (some ⟨b,off,none⟩) n c) l) (hl:l.length=n) (hs:0<s) (lo k:Nat) (hk:lo+k≤n) :
  ∃ cs:List (List Value),ni (fun a c=>R w a c∧c.length=s) ((l.drop lo).take k) cs∧∀ j u,cs.flatten[j]? =some u→w.cell? ((⟨b,off+lo*s,none⟩:Addr).add j)=some u:=by
 obtain ⟨a',cap',e, -, -, hat⟩:=h.read;simp only [Value.slice.injEq] at e;obtain ⟨rfl, -, -⟩:=e
 have hx:∀ i:Fin k,∃ c:List Value,R w (l[lo+i.1]'zo) c∧c.length=s∧∀ j,j<s→w.cell? ⟨b,off+(lo+i.1)*s+j,none⟩=c[j]? :=fun i=>by
  obtain ⟨b',off',c,e, -, k1,k2,k3⟩:=hat (lo+i.1) zo;simp only [Option.some.injEq,Addr.mk.injEq,and_true] at e;obtain ⟨rfl,rfl⟩:=e;exact ⟨c,k1,k2,k3⟩
 refine ⟨List.ofFn fun i=>(hx i).choose,⟨by simp;omega,fun i hi hi'=>?_⟩,fun j u hu=>?_⟩
 ·have hik:i<k:=by simpa using hi'
  have:=(hx ⟨i,hik⟩).choose_spec;simp only [List.getElem_take,List.getElem_drop,List.getElem_ofFn];exact ⟨this.1,this.2.1⟩
 ·have hlen:∀ c∈(List.ofFn fun i=>(hx i).choose),c.length=s:=fun c hc=>by
   obtain ⟨i,rfl⟩:=List.mem_ofFn.1 hc;exact (hx i).choose_spec.2.1
  have hj:j<k*s:=by
   have:=(List.getElem?_eq_some_iff.1 hu).1;rw [Sj hlen,List.length_ofFn] at this;exact this
  have hi:j / s<k:=by rw [Nat.div_lt_iff_lt_mul hs];exact hj
  have hr:j%s<s:=Nat.mod_lt _ hs;have hjd:j / s*s+j%s=j:=by rw [Nat.mul_comm];exact Nat.div_add_mod j s
  rw [← hjd,LX hlen (by simpa using hi) hr] at hu;have hsp:=(hx ⟨j / s,hi⟩).choose_spec.2.2 (j%s) hr;simp only [List.getElem_ofFn] at hu;have hj2:off+lo*s+j=off+(lo+j / s)*s+j%s:=by rw [Nat.add_mul];omega
  rw [Addr.add_lit,hj2];exact hsp.trans hu
def xL:Rl Fr:=fun _ f c=>c=[.string f.n,.string f.d]
theorem xL.stay (m:List TypeId):r9 m xL:=fun _ _ _ _ _ h=>h
theorem wP.Sc {w:World} {T:TypeId} {v:Value} {l:List Fr} (h:wP w T 2 xL v l):gX w T v l:=by
 obtain ⟨a,cap,h1,h2,h3,h4,h5⟩:=h;refine ⟨a,cap,h1,h2,h3,h4,fun ad had=>?_⟩;obtain ⟨h6,arr,h7,h8⟩:=h5 ad had;refine ⟨h6,arr,h7,fun i hi=>?_⟩;obtain ⟨c,rfl,k2,k3⟩:=h8 i hi;exact ⟨k3 0 zo,k3 1 zo⟩
def ab8 {α:Type} (S:World→Value→List α→Prop):Rl (List α):=fun w l c=>∃ v,c=[v]∧S w v l
theorem wP.JF {w:World} {v:Value} {m:List (List Fr)} (h:wP w 29 1 (ab8 fun w v l=>gX w 59 v l) v m):aN w v m:=by
 obtain ⟨a,cap,h1,h2,h3,h4,h5⟩:=h;cases a with
 | none =>
  have hm:m=[]:=List.length_eq_zero_iff.1 (by have:=h4 rfl;omega);subst hm;have:=h4 rfl;subst this h1;exact ⟨[],Row.nil _ _,rfl,fun i hi=>by cases hi⟩
 | some ad =>
  obtain ⟨h6,arr,h7,h8⟩:=h5 ad rfl;obtain ⟨b,off,sp⟩:=ad;simp only at h6;subst h6
  have hx:∀ i:Fin m.length,∃ x,arr[off+i.1]? =some x∧gX w 59 x m[i.1]:=fun i=>by
   obtain ⟨c,⟨x,rfl,k1⟩,k2,k3⟩:=h8 i.1 i.2;have:=k3 0 zo;rw [Nat.mul_one,Nat.add_zero] at this;exact ⟨x,this,k1⟩
  refine ⟨List.ofFn fun i=>(hx i).choose,?_,by simp,fun i hi hi'=>?_⟩
  ·rw [h1];refine Row.mk zi (by simpa using h2) h3 h7 fun i hi=>?_;have hi':i<m.length:=by simpa using hi
   rw [(hx ⟨i,hi'⟩).choose_spec.1];simp
  ·have:=(hx ⟨i,hi'⟩).choose_spec.2
   simpa using this
end Go.Mem
namespace Go.Proofs
open Go.Shelf
def Tryz.lays169_ren:Go.Shelf.Ren:=⟨fun|169=>108|n=>n,fun|70=>171|9=>9|0=>0|72=>174|37=>172|127=>235|3=>3|5=>5|n=>n,fun|n=>n⟩
theorem Tryz.lays169:Go.Proofs.Lays.n169 Tryz.prog Tryz.lays169_ren:={
 mixed:=by kernel_rfl
 f169:=Tryz.func108.trans (congrArg some zk)
 t0:=Tryz.underlying0
 a0:=Tryz.isAgg0
 z0:=Tryz.sizeOf0
 v0:=Tryz.zeroValue0
 t3:=Tryz.underlying3
 a3:=Tryz.isAgg3
 z3:=Tryz.sizeOf3
 v3:=Tryz.zeroValue3
 t9:=Tryz.underlying9
 a9:=Tryz.isAgg9
 z9:=Tryz.sizeOf9
 v9:=Tryz.zeroValue9
 t37:=Tryz.underlying172
 a37:=Tryz.isAgg172
 z37:=Tryz.sizeOf172
 v37:=Tryz.zeroValue172
 t70:=Tryz.underlying171
 a70:=Tryz.isAgg171
 z70:=Tryz.sizeOf171
 v70:=Tryz.zeroValue171
 t72:=Tryz.underlying174
 a72:=Tryz.isAgg174
 z72:=Tryz.sizeOf174
 v72:=Tryz.zeroValue174
 t127:=Tryz.underlying235
 a127:=Tryz.isAgg235
 z127:=Tryz.sizeOf235
 v127:=Tryz.zeroValue235 }
theorem Tryz.Builder_Extra_169:Builder.Extra Tryz.prog Tryz.lays169_ren:={
 sizeBuilder:=by kernel_rfl
 liesBuilder:=by kernel_rfl
 t5:=Tryz.underlying5
 a5:=Tryz.isAgg5
 z5:=Tryz.sizeOf5
 v5:=Tryz.zeroValue5
 infoByte:=by kernel_rfl
 cellsByte:=by kernel_rfl
 sizeByte:=by kernel_rfl
 neB5:=by decide }
open Go.RowKit in
theorem Tryz.Builder_String_any (B b:Nat) (l:List UInt8) (w:World) (h:Lib.IsBuilder 174 5 B b (Lib.byteCells l) w) (hBw:B≤w.heap.size) :
  Calls Tryz.prog 108 #[.pointer (some ⟨b,0,none⟩)] w fun e w'=>e= .returned (.string ⟨l.toArray⟩)∧Below B w w':=Any.Builder_String_any Tryz.lays169 Tryz.Builder_Extra_169 B b l w h hBw
def Tryz.laysM171_ren:Go.Shelf.Ren:=⟨fun|171=>175|243=>222|246=>250|283=>258|284=>259|285=>260|286=>261|129=>253|317=>268|318=>269|319=>270|320=>271|337=>276|338=>277|n=>n,fun|3=>3|9=>9|2=>2|4=>4|171=>312|0=>0|53=>192|37=>172|5=>5|173=>314|212=>324|51=>65|20=>20|213=>325|46=>31|232=>337|233=>338|n=>n,fun|17=>3|18=>6|19=>7|n=>n⟩
theorem Tryz.laysM171:Go.Proofs.LaysM.n171 Tryz.prog Tryz.laysM171_ren:={
 mixed:=by kernel_rfl
 f129:=Tryz.func253.trans (congrArg some zk)
 f171:=Tryz.func175.trans (congrArg some zk)
 f243:=Tryz.func222.trans (congrArg some zk)
 f246:=Tryz.func250.trans (congrArg some zk)
 f283:=Tryz.func258.trans (congrArg some zk)
 f284:=Tryz.func259.trans (congrArg some zk)
 f285:=Tryz.func260.trans (congrArg some zk)
 f286:=Tryz.func261.trans (congrArg some zk)
 f317:=Tryz.func268.trans (congrArg some zk)
 f318:=Tryz.func269.trans (congrArg some zk)
 f319:=Tryz.func270.trans (congrArg some zk)
 f320:=Tryz.func271.trans (congrArg some zk)
 f337:=Tryz.func276.trans (congrArg some zk)
 f338:=Tryz.func277.trans (congrArg some zk)
 t0:=Tryz.underlying0
 a0:=Tryz.isAgg0
 z0:=Tryz.sizeOf0
 v0:=Tryz.zeroValue0
 t2:=Tryz.underlying2
 a2:=Tryz.isAgg2
 z2:=Tryz.sizeOf2
 v2:=Tryz.zeroValue2
 t3:=Tryz.underlying3
 a3:=Tryz.isAgg3
 z3:=Tryz.sizeOf3
 v3:=Tryz.zeroValue3
 t4:=Tryz.underlying4
 a4:=Tryz.isAgg4
 z4:=Tryz.sizeOf4
 v4:=Tryz.zeroValue4
 t5:=Tryz.underlying5
 a5:=Tryz.isAgg5
 z5:=Tryz.sizeOf5
 v5:=Tryz.zeroValue5
 t9:=Tryz.underlying9
 a9:=Tryz.isAgg9
 z9:=Tryz.sizeOf9
 v9:=Tryz.zeroValue9
 t20:=Tryz.underlying20
 a20:=Tryz.isAgg20
 z20:=Tryz.sizeOf20
 v20:=Tryz.zeroValue20
 t37:=Tryz.underlying172
 a37:=Tryz.isAgg172
 z37:=Tryz.sizeOf172
 v37:=Tryz.zeroValue172
 t46:=Tryz.underlying31
 a46:=Tryz.isAgg31
 z46:=Tryz.sizeOf31
 v46:=Tryz.zeroValue31
 t51:=Tryz.underlying65
 a51:=Tryz.isAgg65
 z51:=Tryz.sizeOf65
 v51:=Tryz.zeroValue65
 t53:=Tryz.underlying192
 a53:=Tryz.isAgg192
 z53:=Tryz.sizeOf192
 v53:=Tryz.zeroValue192
 t171:=Tryz.underlying312
 a171:=Tryz.isAgg312
 z171:=Tryz.sizeOf312
 v171:=Tryz.zeroValue312
 t173:=Tryz.underlying314
 a173:=Tryz.isAgg314
 z173:=Tryz.sizeOf314
 v173:=Tryz.zeroValue314
 t212:=Tryz.underlying324
 a212:=Tryz.isAgg324
 z212:=Tryz.sizeOf324
 v212:=Tryz.zeroValue324
 t213:=Tryz.underlying325
 a213:=Tryz.isAgg325
 z213:=Tryz.sizeOf325
 t232:=Tryz.underlying337
 a232:=Tryz.isAgg337
 z232:=Tryz.sizeOf337
 v232:=Tryz.zeroValue337
 t233:=Tryz.underlying338
 a233:=Tryz.isAgg338
 z233:=Tryz.sizeOf338
 v233:=Tryz.zeroValue338
 g17:=by kernel_rfl
 g18:=by kernel_rfl
 g19:=by kernel_rfl
 i0:=by kernel_rfl
 i2:=by kernel_rfl
 i3:=by kernel_rfl
 i4:=by kernel_rfl
 i5:=by kernel_rfl
 i9:=by kernel_rfl
 i20:=by kernel_rfl
 i37:=by kernel_rfl
 i46:=by kernel_rfl
 i51:=by kernel_rfl
 i53:=by kernel_rfl
 i171:=by kernel_rfl
 i173:=by kernel_rfl
 i212:=by kernel_rfl
 i232:=by kernel_rfl
 i233:=by kernel_rfl
 m17:=by kernel_rfl
 m18:=by kernel_rfl
 m19:=by kernel_rfl }
open Go.RowKit Go.Sort Go.Lib in
theorem Tryz.strconv_Itoa (n : Int) (h0 : -9223372036854775808 ≤ n) (h1 : n ≤ 9223372036854775807) (w : World) (htab : Lib.TabIs Tryz.prog w "internal/strconv.uint64pow10" .u64 Lib.pow10Tab) :
  Calls Tryz.prog 175 #[.int .i64 n] w fun e w'=>e= .returned (.string ⟨(Lib.itoa n).toArray⟩)∧∃ k os,w'=grow (w.drewN k) os:=Any.strconv_Itoa Tryz.laysM171 n h0 h1 w htab
end Go.Proofs
namespace Go.Proofs
open Go.Shelf
def Tryz.lays134_ren:Go.Shelf.Ren:=⟨fun|134=>234|129=>253|n=>n,fun|53=>192|3=>3|4=>4|46=>31|5=>5|9=>9|n=>n,fun|n=>n⟩
theorem Tryz.lays134:Go.Proofs.Lays.n134 Tryz.prog Tryz.lays134_ren:={
 mixed:=by kernel_rfl
 f129:=Tryz.func253.trans (congrArg some zk)
 f134:=Tryz.func234.trans (congrArg some zk)
 t3:=Tryz.underlying3
 a3:=Tryz.isAgg3
 z3:=Tryz.sizeOf3
 v3:=Tryz.zeroValue3
 t4:=Tryz.underlying4
 a4:=Tryz.isAgg4
 z4:=Tryz.sizeOf4
 v4:=Tryz.zeroValue4
 t5:=Tryz.underlying5
 a5:=Tryz.isAgg5
 z5:=Tryz.sizeOf5
 v5:=Tryz.zeroValue5
 t9:=Tryz.underlying9
 a9:=Tryz.isAgg9
 z9:=Tryz.sizeOf9
 v9:=Tryz.zeroValue9
 t46:=Tryz.underlying31
 a46:=Tryz.isAgg31
 z46:=Tryz.sizeOf31
 v46:=Tryz.zeroValue31
 t53:=Tryz.underlying192
 a53:=Tryz.isAgg192
 z53:=Tryz.sizeOf192
 v53:=Tryz.zeroValue192 }
theorem Tryz.bits_LeadingZeros64 (x:Int) (w:World) (h0:0≤x) (h1:x≤18446744073709551615) :
  Calls Tryz.prog 234 #[.int .u64 x] w fun e w'=>e= .returned (.int .i64 (64 - (Lib.bitLen x.toNat:Int)))∧w'=w:=Any.bits_LeadingZeros64 Tryz.lays134 x w h0 h1
def Tryz.laysC174_ren:Go.Shelf.Ren:=⟨fun|174=>229|247=>251|245=>252|287=>262|279=>263|280=>264|281=>265|282=>266|321=>272|322=>273|316=>274|171=>175|205=>275|243=>222|246=>250|283=>258|284=>259|285=>260|286=>261|129=>253|317=>268|318=>269|319=>270|320=>271|337=>276|338=>277|n=>n,fun|9=>9|3=>3|2=>2|75=>177|85=>287|4=>4|167=>316|5=>5|53=>192|175=>317|46=>31|168=>319|37=>172|0=>0|210=>331|21=>21|127=>235|145=>336|143=>334|171=>312|173=>314|212=>324|51=>65|20=>20|213=>325|232=>337|233=>338|80=>181|n=>n,fun|15=>4|16=>5|17=>3|18=>6|19=>7|n=>n⟩
theorem Tryz.laysC174:Go.Proofs.LaysC.n174 Tryz.prog Tryz.laysC174_ren:={
 mixed:=by kernel_rfl
 f129:=Tryz.func253.trans (congrArg some zk)
 f171:=Tryz.func175.trans (congrArg some zk)
 f174:=Tryz.func229.trans (congrArg some zk)
 f205:=Tryz.func275.trans (congrArg some zk)
 f243:=Tryz.func222.trans (congrArg some zk)
 f245:=Tryz.func252.trans (congrArg some zk)
 f246:=Tryz.func250.trans (congrArg some zk)
 f247:=Tryz.func251.trans (congrArg some zk)
 f279:=Tryz.func263.trans (congrArg some zk)
 f280:=Tryz.func264.trans (congrArg some zk)
 f281:=Tryz.func265.trans (congrArg some zk)
 f282:=Tryz.func266.trans (congrArg some zk)
 f283:=Tryz.func258.trans (congrArg some zk)
 f284:=Tryz.func259.trans (congrArg some zk)
 f285:=Tryz.func260.trans (congrArg some zk)
 f286:=Tryz.func261.trans (congrArg some zk)
 f287:=Tryz.func262.trans (congrArg some zk)
 f316:=Tryz.func274.trans (congrArg some zk)
 f317:=Tryz.func268.trans (congrArg some zk)
 f318:=Tryz.func269.trans (congrArg some zk)
 f319:=Tryz.func270.trans (congrArg some zk)
 f320:=Tryz.func271.trans (congrArg some zk)
 f321:=Tryz.func272.trans (congrArg some zk)
 f322:=Tryz.func273.trans (congrArg some zk)
 f337:=Tryz.func276.trans (congrArg some zk)
 f338:=Tryz.func277.trans (congrArg some zk)
 t0:=Tryz.underlying0
 a0:=Tryz.isAgg0
 z0:=Tryz.sizeOf0
 v0:=Tryz.zeroValue0
 t2:=Tryz.underlying2
 a2:=Tryz.isAgg2
 z2:=Tryz.sizeOf2
 v2:=Tryz.zeroValue2
 t3:=Tryz.underlying3
 a3:=Tryz.isAgg3
 z3:=Tryz.sizeOf3
 v3:=Tryz.zeroValue3
 t4:=Tryz.underlying4
 a4:=Tryz.isAgg4
 z4:=Tryz.sizeOf4
 v4:=Tryz.zeroValue4
 t5:=Tryz.underlying5
 a5:=Tryz.isAgg5
 z5:=Tryz.sizeOf5
 v5:=Tryz.zeroValue5
 t9:=Tryz.underlying9
 a9:=Tryz.isAgg9
 z9:=Tryz.sizeOf9
 v9:=Tryz.zeroValue9
 t20:=Tryz.underlying20
 a20:=Tryz.isAgg20
 z20:=Tryz.sizeOf20
 v20:=Tryz.zeroValue20
 t21:=Tryz.underlying21
 a21:=Tryz.isAgg21
 z21:=Tryz.sizeOf21
 v21:=Tryz.zeroValue21
 t37:=Tryz.underlying172
 a37:=Tryz.isAgg172
 z37:=Tryz.sizeOf172
 v37:=Tryz.zeroValue172
 t46:=Tryz.underlying31
 a46:=Tryz.isAgg31
 z46:=Tryz.sizeOf31
 v46:=Tryz.zeroValue31
 t51:=Tryz.underlying65
 a51:=Tryz.isAgg65
 z51:=Tryz.sizeOf65
 v51:=Tryz.zeroValue65
 t53:=Tryz.underlying192
 a53:=Tryz.isAgg192
 z53:=Tryz.sizeOf192
 v53:=Tryz.zeroValue192
 t75:=Tryz.underlying177
 a75:=Tryz.isAgg177
 z75:=Tryz.sizeOf177
 v75:=Tryz.zeroValue177
 t85:=Tryz.underlying287
 a85:=Tryz.isAgg287
 z85:=Tryz.sizeOf287
 v85:=Tryz.zeroValue287
 t127:=Tryz.underlying235
 a127:=Tryz.isAgg235
 z127:=Tryz.sizeOf235
 v127:=Tryz.zeroValue235
 t143:=Tryz.underlying334
 a143:=Tryz.isAgg334
 z143:=Tryz.sizeOf334
 v143:=Tryz.zeroValue334
 t145:=Tryz.underlying336
 a145:=Tryz.isAgg336
 z145:=Tryz.sizeOf336
 v145:=Tryz.zeroValue336
 t167:=Tryz.underlying316
 a167:=Tryz.isAgg316
 z167:=Tryz.sizeOf316
 v167:=Tryz.zeroValue316
 t168:=Tryz.underlying319
 a168:=Tryz.isAgg319
 z168:=Tryz.sizeOf319
 v168:=Tryz.zeroValue319
 t171:=Tryz.underlying312
 a171:=Tryz.isAgg312
 z171:=Tryz.sizeOf312
 v171:=Tryz.zeroValue312
 t173:=Tryz.underlying314
 a173:=Tryz.isAgg314
 z173:=Tryz.sizeOf314
 v173:=Tryz.zeroValue314
 t175:=Tryz.underlying317
 a175:=Tryz.isAgg317
 z175:=Tryz.sizeOf317
 v175:=Tryz.zeroValue317
 t210:=Tryz.underlying331
 a210:=Tryz.isAgg331
 z210:=Tryz.sizeOf331
 v210:=Tryz.zeroValue331
 t212:=Tryz.underlying324
 a212:=Tryz.isAgg324
 z212:=Tryz.sizeOf324
 v212:=Tryz.zeroValue324
 t213:=Tryz.underlying325
 a213:=Tryz.isAgg325
 z213:=Tryz.sizeOf325
 t232:=Tryz.underlying337
 a232:=Tryz.isAgg337
 z232:=Tryz.sizeOf337
 v232:=Tryz.zeroValue337
 t233:=Tryz.underlying338
 a233:=Tryz.isAgg338
 z233:=Tryz.sizeOf338
 v233:=Tryz.zeroValue338
 g15:=by kernel_rfl
 g16:=by kernel_rfl
 g17:=by kernel_rfl
 g18:=by kernel_rfl
 g19:=by kernel_rfl
 t80:=Tryz.underlying181
 a80:=Tryz.isAgg181
 z80:=Tryz.sizeOf181
 v80:=Tryz.zeroValue181
 i0:=by kernel_rfl
 i2:=by kernel_rfl
 i3:=by kernel_rfl
 i4:=by kernel_rfl
 i5:=by kernel_rfl
 i9:=by kernel_rfl
 i20:=by kernel_rfl
 i21:=by kernel_rfl
 i37:=by kernel_rfl
 i46:=by kernel_rfl
 i51:=by kernel_rfl
 i53:=by kernel_rfl
 i75:=by kernel_rfl
 i80:=by kernel_rfl
 i85:=by kernel_rfl
 i127:=by kernel_rfl
 i143:=by kernel_rfl
 i145:=by kernel_rfl
 i167:=by kernel_rfl
 i168:=by kernel_rfl
 i171:=by kernel_rfl
 i173:=by kernel_rfl
 i175:=by kernel_rfl
 i210:=by kernel_rfl
 i212:=by kernel_rfl
 i232:=by kernel_rfl
 i233:=by kernel_rfl
 m15:=by kernel_rfl
 m16:=by kernel_rfl
 m17:=by kernel_rfl
 m18:=by kernel_rfl
 m19:=by kernel_rfl
 c0:=by kernel_rfl
 c2:=by kernel_rfl
 c3:=by kernel_rfl
 c4:=by kernel_rfl
 c5:=by kernel_rfl
 c9:=by kernel_rfl
 c20:=by kernel_rfl
 c21:=by kernel_rfl
 c37:=by kernel_rfl
 c46:=by kernel_rfl
 c51:=by kernel_rfl
 c53:=by kernel_rfl
 c75:=by kernel_rfl
 c80:=by kernel_rfl
 c85:=by kernel_rfl
 c127:=by kernel_rfl
 c143:=by kernel_rfl
 c145:=by kernel_rfl
 c167:=by kernel_rfl
 c168:=by kernel_rfl
 c171:=by kernel_rfl
 c173:=by kernel_rfl
 c175:=by kernel_rfl
 c210:=by kernel_rfl
 c212:=by kernel_rfl
 c213:=by kernel_rfl
 c232:=by kernel_rfl
 c233:=by kernel_rfl }
open Go.RowKit in
theorem Tryz.strconv_ParseInt_10_at64_ok (s:ByteArray) (hmax:s.size≤9223372036854775806) (v:Int) (h:Lib.parseIntB 64 s.data.toList= .ok v) (w:World) :
  Calls Tryz.prog 229 #[.string s,.int .i64 10,.int .i64 64] w fun e w'=>e= .returned (.tuple #[.int .i64 v,.nilIface])∧(w'=w∨∃ t,w'=Lib.bytesWorld w 5 t):=Any.strconv_ParseInt_10_at64_ok Tryz.laysC174 s hmax v h w
open Go.RowKit in
theorem Tryz.strconv_ParseInt_10_at64_range (s:ByteArray) (hlim:s.size≤281474976710656) (h:Lib.parseIntB 64 s.data.toList= .range) (ev:Value) (w:World) (hv:w.cell? ⟨5,0,none⟩=some ev) (hev:ev= .nilIface∨∃ te pe,ev= .iface te pe) :
  Calls Tryz.prog 229 #[.string s,.int .i64 10,.int .i64 64] w fun e w'=>∃ N,e= .returned (.tuple #[.int .i64 (Lib.intSat 64 s.data.toList),.iface 319 (.pointer (some ⟨N,0,none⟩))])∧w.heap.size≤N∧w'.heap[N]? =some (.cells #[.string ⟨#[80,97,114,115,101,73,110,116]⟩,.string s,ev] 331 (0,0))∧Below w.heap.size w w':=Any.strconv_ParseInt_10_at64_range Tryz.laysC174 s hlim h ev w hv hev
def Tryz.lays217_ren:Go.Shelf.Ren:=⟨fun|217=>243|266=>256|n=>n,fun|9=>9|5=>5|3=>3|n=>n,fun|n=>n⟩
theorem Tryz.lays217:Go.Proofs.Lays.n217 Tryz.prog Tryz.lays217_ren:={
 mixed:=by kernel_rfl
 f217:=Tryz.func243.trans (congrArg some zk)
 f266:=Tryz.func256.trans (congrArg some zk)
 t3:=Tryz.underlying3
 a3:=Tryz.isAgg3
 z3:=Tryz.sizeOf3
 v3:=Tryz.zeroValue3
 t5:=Tryz.underlying5
 a5:=Tryz.isAgg5
 z5:=Tryz.sizeOf5
 v5:=Tryz.zeroValue5
 t9:=Tryz.underlying9
 a9:=Tryz.isAgg9
 z9:=Tryz.sizeOf9
 v9:=Tryz.zeroValue9 }
open Go.RowKit Go.Lib in
theorem Tryz.stringslite_IndexByte (s:ByteArray) (c:Int) (w:World) :
  Calls Tryz.prog 243 #[.string s,.int .u8 c] w fun e w'=>e= .returned (.int .i64 (Lib.indexByte s.data.toList c.toNat.toUInt8))∧w'=w:=Any.stringslite_IndexByte Tryz.lays217 s c w
def Tryz.lays264_ren:Go.Shelf.Ren:=⟨fun|264=>161|n=>n,fun|53=>192|46=>31|n=>n,fun|n=>n⟩
theorem Tryz.lays264:Go.Proofs.Lays.n264 Tryz.prog Tryz.lays264_ren:={
 mixed:=by kernel_rfl
 f264:=Tryz.func161.trans (congrArg some zk)
 t46:=Tryz.underlying31
 a46:=Tryz.isAgg31
 z46:=Tryz.sizeOf31
 v46:=Tryz.zeroValue31
 t53:=Tryz.underlying192
 a53:=Tryz.isAgg192
 z53:=Tryz.sizeOf192
 v53:=Tryz.zeroValue192 }
open Go.RowKit Go.Lib in
theorem Tryz.bits_Mul64 (x y:Nat) (hx:x<18446744073709551616) (hy:y<18446744073709551616) (w:World) :
  Calls Tryz.prog 161 #[.int .u64 x,.int .u64 y] w fun e w'=>e= .returned (.tuple #[.int .u64 ((x*y / 18446744073709551616:Nat):Int),.int .u64 ((x*y%18446744073709551616:Nat):Int)])∧w'=w:=Any.bits_Mul64 Tryz.lays264 x y hx hy w
end Go.Proofs
namespace Go.SW
open Go Go.RowKit
variable {P:Program} {ops:Array Oper} {Q:Exit→Act→World→Prop} {o:Oper} {i:Nat} {is:List (K × Nat)} {a:Act} {w:World} {N:Nat} {A:List Nat}
theorem yI (ho:ops[i]? =some o) (hw:Region.wanted o (yielded ops a.tmps)=true) (h:∀ J:Act→Prop,(∀ a,walk P ops Q N is A a w→J a)→∃ v,(∀ w',(execOp a.eval o).run P w'= .ok (.value v) w')∧J (a.put o.dst v)):walk P ops Q N ((.pure,i)::is) A a w:=by
 refine MU ho fun J hJ=>?_;rw [if_pos hw];exact h J hJ
theorem yK {T:TypeId} {x:Operand} {p:Addr} (ho:ops[i]? =some o) (hw:Region.wanted o (yielded ops a.tmps)=true) (hop:o.op= .load T x) (hx:a.eval x= .pointer (some p))
  (h:∀ J:Value→Prop,(∀ v,walk P ops Q N is A (a.put o.dst v) w→J v)→(w.cell? p).isSome=true∧∃ v,(loadVar T p).run P w= .ok v w∧J v):walk P ops Q N ((.read,i)::is) A a w:=by
 unfold walk;simp only [ho,hw,if_true];obtain ⟨h1,v,h2,h3⟩:=h (fun v=>walk P ops Q N is A (a.put o.dst v) w) fun _ h=>h;refine ⟨v,fun w' hb=>?_,h3⟩;simp only [execOp,hop,hx,Instr.loadAt,Instr.sureAddr,Sem.run_bind,Sem.run_pure,Result.andThen_ok,oh hb h1 h2]
theorem MV (ho:ops[i]? =some o) (hw:Region.wanted o (yielded ops a.tmps)=true) (h:∀ w',Below w.heap.size w w'→∀ J:Act→World→Prop,(∀ a' w'',Below w'.heap.size w' w''→walk P ops Q N is A a' w''→J a' w'')→o.wp P a w' J Q):walk P ops Q N ((.ext,i)::is) A a w:=by
 unfold walk;simp only [ho,hw,if_true];exact fun w' hb=>h w' hb _ fun a' w'' h1 h2=>⟨h1,h2⟩
def K.soft:K→Bool
 | .pure=>true
 | .read=>true
 | .ext=>true
 | _=>false
theorem MS {k:K} (hk:k.soft=true) (ho:ops[i]? =some o) (hw:Region.wanted o (yielded ops a.tmps)=false) (h:∀ J:Act→Prop,(∀ a,walk P ops Q N is A a w→J a)→J (a.put o.dst undef)):walk P ops Q N ((k,i)::is) A a w:=by
 have h':=h (fun a=>walk P ops Q N is A a w) fun _ h=>h;cases k with
 | pure=>unfold walk;simp only [ho,hw];exact h'
 | read=>unfold walk;simp only [ho,hw];exact h'
 | ext=>unfold walk;simp only [ho,hw];exact h'
 | alloc _ _=>cases hk
 | fin=>cases hk
end Go.SW
namespace Go.SW
open Go Go.RowKit
structure Wk (P:Program) (ops:Array Oper) (Q:Exit→Act→World→Prop) (N:Nat) (is:List (K × Nat)) (A:List Nat) (a:Act) (w:World):Prop where
 out:walk P ops Q N is A a w
variable {P:Program} {ops:Array Oper} {Q:Exit→Act→World→Prop} {o:Oper} {i:Nat} {is:List (K × Nat)} {a:Act} {w:World} {N:Nat} {A:List Nat}
theorem je (h:∀ w',Below w.heap.size w w'→Q .normal a w'):Wk P ops Q N [] A a w:=⟨walk_nil h⟩
theorem KW {k:K} (hk:k.soft=true) (ho:ops[i]? =some o) (hw:Region.wanted o (yielded ops a.tmps)=false) (h:∀ J:Act→Prop,(∀ a,Wk P ops Q N is A a w→J a)→J (a.put o.dst undef)):Wk P ops Q N ((k,i)::is) A a w :=
 ⟨MS hk ho hw fun J hJ=>h J fun a ha=>hJ a ha.out⟩
theorem Da (ho:ops[i]? =some o) (hw:Region.wanted o (yielded ops a.tmps)=true) (h:∀ J:Act→Prop,(∀ a,Wk P ops Q N is A a w→J a)→∃ v,(∀ w',(execOp a.eval o).run P w'= .ok (.value v) w')∧J (a.put o.dst v)):Wk P ops Q N ((.pure,i)::is) A a w :=
 ⟨yI ho hw fun J hJ=>h J fun a ha=>hJ a ha.out⟩
theorem K5 {T:TypeId} {x:Operand} {p:Addr} (ho:ops[i]? =some o) (hw:Region.wanted o (yielded ops a.tmps)=true) (hop:o.op= .load T x) (hx:a.eval x= .pointer (some p))
  (h:∀ J:Value→Prop,(∀ v,Wk P ops Q N is A (a.put o.dst v) w→J v)→(w.cell? p).isSome=true∧∃ v,(loadVar T p).run P w= .ok v w∧J v):Wk P ops Q N ((.read,i)::is) A a w :=
 ⟨yK ho hw hop hx fun J hJ=>h J fun v hv=>hJ v hv.out⟩
theorem bW (ho:ops[i]? =some o) (hw:Region.wanted o (yielded ops a.tmps)=true) (h:∀ w',Below w.heap.size w w'→∀ J:Act→World→Prop,(∀ a' w'',Below w'.heap.size w' w''→Wk P ops Q N is A a' w''→J a' w'')→o.wp P a w' J Q):Wk P ops Q N ((.ext,i)::is) A a w :=
 ⟨MV ho hw fun w' hb J hJ=>h w' hb J fun a' w'' hb' hk=>hJ a' w'' hb' hk.out⟩
theorem mJ (l:List Oper) (hl:(i::is.map (·.2)).map (ops[·]?)=l.map some) (h:∀ w',Below w.heap.size w w'→wpList P ops Q l a w'):Wk P ops Q N ((.fin,i)::is) A a w:=⟨aL l hl h⟩
theorem qc {cs:Array Value} {T:TypeId} (ho:ops[i]? =some o) (h:∀ b w',Below w.heap.size w w'→N≤b→b<w'.heap.size→b∉A→w'.heap[b]? =some (.cells cs T (0,0))→Wk P ops Q N is (b::A) (a.put o.dst (.pointer (some ⟨b,0,none⟩))) w'):Wk P ops Q N ((.alloc cs T,i)::is) A a w :=
 ⟨aX ho fun b w' h1 h2 h3 h4 h5=>(h b w' h1 h2 h3 h4 h5).out⟩
theorem PE {t:TypeId} {x:Operand} {p:Option Addr} {n c:Nat} (ho:ops[i]? =some o) (hw:Region.wanted o (yielded ops a.tmps)=true) (hop:o.op= .call { callee:=.builtin .len,args:=#[x],argTypes:=#[t] }) (hx:a.eval x= .slice p n c) (ht:P.underlying t=some (.slice (P.elem t)))
  (h:∀ J:Act→Prop,(∀ a,Wk P ops Q N is A a w→J a)→J (a.put o.dst (.int .i64 n))):Wk P ops Q N ((.pure,i)::is) A a w :=
 Da ho hw fun J hJ=>⟨.int .i64 n,fun w'=>by simp [execOp,hop,hx,resolve,invoke,builtin,Sem.run_bind,run_len_slice w' _ _ _ _ _ ht,goInt],h J hJ⟩
end Go.SW
namespace Go.Proofs.verdigrislaw05
open Go Go.RowKit Go.SW Go.Num Go.Mem Go.Proofs Go.Dec Go.cK
def UY (s:ByteArray):Int:=Lib.indexByte s.data.toList 47
theorem G5:∀ (l:List UInt8),Lib.indexByte l 47= -1∨(0≤Lib.indexByte l 47∧Lib.indexByte l 47<l.length)
 | []=>.inl rfl
 | b::l=>by
  have:=G5 l;unfold Lib.indexByte;split
  ·right;simp
  ·split
   ·left;rfl
   ·rename_i h
    right
    have h2:¬ Lib.indexByte l 47= -1:=by simpa using h
    simp only [List.length_cons];omega
def pW (s:ByteArray):ByteArray × ByteArray × Bool:=if UY s<0 then (s,⟨#[]⟩,false) else (s.extract 0 (UY s).toNat,s.extract ((UY s).toNat+1) s.size,true)
def jf (s:ByteArray):Fr:=⟨(pW s).1,if (pW s).2.2 then (pW s).2.1 else ⟨#[49]⟩⟩
theorem Ru (s:ByteArray) (hs:(([47]:List UInt8) == s.toList)=false) (w:World) :
  Calls Tryz.prog 215 #[.string s,.string ⟨#[47]⟩] w (fun e w'=>e= .returned (.int .i64 (UY s))∧w'=w):=by
 have H:=zh (fun W=>Tryz.stringslite_IndexByte s 47 W);go_enter Tryz.func215,Tryz.ntmps215
 go_wp2_with fail
 refine (H.out _).mono ?_;rintro e w1 ⟨rfl,rfl⟩;go_wp2_with fail
 go_ret
 exact ⟨rfl,rfl⟩
theorem JH (s:ByteArray) (hs:(([47]:List UInt8) == s.toList)=false) (hz:s.size≤1000000) (w:World) :
  Calls Tryz.prog 159 #[.string s,.string ⟨#[47]⟩] w (fun e w'=>e= .returned (.tuple #[.string (pW s).1,.string (pW s).2.1,.bool (pW s).2.2])∧Below w.heap.size w w'):=by
 have H:=zh (fun W=>Ru s hs W);unfold pW;have hl:=G5 s.data.toList;have hsz:s.data.toList.length=s.size:=by rw [Array.length_toList];rfl
 rw [hsz] at hl
 change UY s= -1∨(0≤UY s∧UY s<s.size) at hl
 rcases hl with hl|⟨h0,h1⟩
 ·rw [hl] at H ⊢;rw [if_pos zo];go_enter Tryz.func159,Tryz.ntmps159
  go_wp2_with fail
  refine (H.out _).mono ?_;rintro e w1 ⟨rfl,rfl⟩;go_wp2_with fail
  refine bodyPost_ret (v:=.tuple #[.string s,.string ⟨#[]⟩,.bool false]) (by simp [results,Tryz.results159,go_sem]) rfl ⟨rfl,Below.refl _ _⟩
 ·obtain ⟨k,hk⟩:∃ k:Nat,UY s=(k:Int):=⟨(UY s).toNat,by omega⟩;rw [hk] at H h1 ⊢;rw [if_neg zo];simp only [Int.toNat_natCast];have hk2:k≤s.size:=by omega
  obtain ⟨k1,hk1⟩:∃ y:Nat,y=k+1:=⟨_,rfl⟩;have hk3:k1≤s.size:=by omega
  have EK:Hid ((k:Int)+1=(k1:Int)):=zh zo;rw [← hk1];have w1:IntKind.i64.wrap ((k:Int)+1)=((k+1:Nat):Int):=by unfold IntKind.wrap;simp [IntKind.bits,IntKind.signed];omega
  clear hk h0 h1 hk1;go_enter Tryz.func159,Tryz.ntmps159
  go_wp2_with fail
  refine (H.out _).mono ?_;rintro e w1 ⟨rfl,rfl⟩;go_wp2_with fail
  refine aD [(.pure,0),(.pure,1),(.pure,2),(.pure,3),(.pure,4),(.pure,5),(.pure,6),(.pure,7),(.pure,8),(.fin,9),(.fin,10),(.fin,11)] zk zk zR zP ?_;refine Wk.out ?_
  (iterate 8 refine zU ?_)
  rw [EK.out]
  (iterate 1 refine zU ?_)
  refine mJ [_,_,_] rfl (fun wf hbf=>?_);go_wp2_with fail
  refine bodyPost_ret (v:=.tuple #[.string (s.extract 0 k),.string (s.extract k1 s.size),.bool true]) (by simp [results,Tryz.results159,go_sem]) rfl ⟨rfl,ah⟩
theorem pI (s:ByteArray) (hs:(([47]:List UInt8) == s.toList)=false) (hz:s.size≤1000000) (w:World) :
  Calls Tryz.prog 101 #[.string s,.string ⟨#[47]⟩] w (fun e w'=>e= .returned (.tuple #[.string (pW s).1,.string (pW s).2.1,.bool (pW s).2.2])∧Below w.heap.size w w'):=by
 have H:=zh (fun W=>JH s hs hz W);generalize pW s=c at *;obtain ⟨c1,c2,c3⟩:=c;go_enter Tryz.func101,Tryz.ntmps101
 go_wp2_with fail
 refine (H.out _).mono ?_;rintro e w1 ⟨rfl,hb⟩;go_wp2_with fail
 refine bodyPost_ret (v:=.tuple #[.string c1,.string c2,.bool c3]) (by simp [results,Tryz.results101,go_sem]) rfl ⟨rfl,hb⟩
theorem ZA:(Tryz.prog.info? 59).map (fun i=>(i.zero,i.size,i.bytes))=some (some (.agg #[.string ⟨#[]⟩,.string ⟨#[]⟩]),2,32):=by kernel_rfl
def Txt (s:ByteArray):Prop:=(([47]:List UInt8) == s.toList)=false∧s.size≤1000000
theorem Y8 (v:Value) (l:List ByteArray) (w:World) (h:Row w 9 v (l.map Value.string)) (hl:l.length≤1000) (ht:∀ s∈l,Txt s) :
  Calls Tryz.prog 48 #[v] w (fun e w'=>∃ v',e= .returned v'∧Below w.heap.size w w'∧gX w' 59 v' (l.map jf)):=by
 obtain ⟨i0,hi,hz0,hz1,hz2⟩:=info_parts ZA;have HC:Hid (∀ k (hk:k<l.length) W,Calls Tryz.prog 101 #[.string l[k],.string ⟨#[47]⟩] W (fun e w'=>e= .returned (.tuple #[.string (pW l[k]).1,.string (pW l[k]).2.1,.bool (pW l[k]).2.2])∧Below W.heap.size W w')):=zh fun k hk W=>pI _ (ht _ (List.getElem_mem _)).1 (ht _ (List.getElem_mem _)).2 W
 have H:Hid (∃ a cap,v= .slice a l.length cap∧∀ k (hk:k<l.length),∃ b off,a=some ⟨b,off,none⟩∧b<w.heap.size∧w.cell? ⟨b,off+k,none⟩=some (.string l[k])):=zh (by
  rcases h.cases with ⟨rfl,h0⟩|⟨b,off,cap,arr,rfl,k1,k2,k3,k4⟩
  ·have:l=[]:=by simpa using h0
   subst this;exact ⟨none,0,rfl,fun k hk=>by cases hk⟩
  ·exact ⟨_,cap,by simp,fun k hk=>⟨b,off,rfl,k3.lt,by
    have:=(k3.cell (off+k)).trans (k4 k (by simpa using hk))
    simpa using this⟩⟩)
 obtain ⟨a,cap,rfl,hread⟩:=H.out;have HR:=zh hread;clear h ht hread H;go_enter Tryz.func48,Tryz.ntmps48
 go_wp2_with fail
 go_loopw [3,11] (fun ov iv wr=>∃ k:Nat,iv= .int .i64 (k:Int)∧k≤l.length∧Hid (dH wr w.heap.size 59 2 xL ov ((l.map jf).take k))∧Below w.heap.size w wr) (fun _ iv _=>l.length - (intOf iv).toNat)
 case atStart=>exact ⟨0,rfl,by omega,zh (dH.nil _ _ _ _ _),Below.refl _ _⟩
 case round =>
  obtain ⟨k,rfl,hk,HG,hb⟩:=hrel
  rcases Nat.lt_or_ge k l.length with hlt|hge
  ·obtain ⟨ov,cv,rfl⟩:=HG.out.at (n:=k) (by simp;omega);obtain ⟨b,off,rfl,hbl,hx⟩:=HR.out k hlt;have hc3:=(hb.cell (p:=⟨b,off+k,none⟩) hbl).trans hx;have HCk:=zh (HC.out k hlt);have HQ:Hid ((l.map jf).take (k+1)=(l.map jf).take k++[⟨(pW l[k]).1,if (pW l[k]).2.2 then (pW l[k]).2.1 else ⟨#[49]⟩⟩]):=zh (by rw [List.take_succ_eq_append_getElem (by simpa using hlt),List.getElem_map];rfl);have HB:=zh hb;clear hx hb;generalize pW l[k]=c at *;generalize l[k]=s at *;obtain ⟨c1,c2,c3⟩:=c;simp only at HQ;cases c3 with
   | true =>
    simp only [if_true] at HQ;go_wp2_with fail
    refine (HCk.out _).mono ?_;rintro e w2 ⟨rfl,hb2⟩;have HB2:=zh (Bt HB.out hb2);replace HG:=zh (HG.out.later hb2 (xL.stay _));clear hb2;go_wp2_with (at_builtin;refine eZ (w0:=w) rfl (.tmp 23) (.tmp 27) 29 rfl 59 i0 (.agg #[.string ⟨#[]⟩,.string ⟨#[]⟩]) 2 32 Tryz.underlying29 hi hz0 hz1 hz2 rfl zd xL _ ((l.map jf).take k) rfl (HG.out.later ah (xL.stay _)) (Bt HB2.out ah) _ [.string c1,.string c2] ⟨c1,c2⟩ rfl (au.new _ _ _) rfl ?c1 rfl (xL.stay _) ?c2 zo ?_)
    case c1=>intro u hu;simp only [List.mem_cons,List.not_mem_nil,or_false] at hu;rcases hu with rfl|rfl<;>rfl
    case c2=>simp;omega
    intro v' w3 hg hb3 _;have HG2:Hid (dH w3 w.heap.size 59 2 xL v' ((l.map jf).take (k+1))):=zh (by rw [HQ.out];exact hg);clear hg HG HB2;go_wp2_with fail
    go_roundw
    case rel=>exact ⟨k+1,by go_num,by omega,HG2,hb3⟩
    case measure=>exact zM
   | false =>
    simp only [Bool.false_eq_true,if_false] at HQ;go_wp2_with fail
    refine (HCk.out _).mono ?_;rintro e w2 ⟨rfl,hb2⟩;have HB2:=zh (Bt HB.out hb2);replace HG:=zh (HG.out.later hb2 (xL.stay _));clear hb2;go_wp2_with (at_builtin;refine eZ (w0:=w) rfl (.tmp 23) (.tmp 27) 29 rfl 59 i0 (.agg #[.string ⟨#[]⟩,.string ⟨#[]⟩]) 2 32 Tryz.underlying29 hi hz0 hz1 hz2 rfl zd xL _ ((l.map jf).take k) rfl (HG.out.later ah (xL.stay _)) (Bt HB2.out ah) _ [.string c1,.string ⟨#[49]⟩] ⟨c1,⟨#[49]⟩⟩ rfl (au.new _ _ _) rfl ?c1 rfl (xL.stay _) ?c2 zo ?_)
    case c1=>intro u hu;simp only [List.mem_cons,List.not_mem_nil,or_false] at hu;rcases hu with rfl|rfl<;>rfl
    case c2=>simp;omega
    intro v' w3 hg hb3 _;have HG2:Hid (dH w3 w.heap.size 59 2 xL v' ((l.map jf).take (k+1))):=zh (by rw [HQ.out];exact hg);clear hg HG HB2;go_wp2_with fail
    go_roundw
    case rel=>exact ⟨k+1,by go_num,by omega,HG2,hb3⟩
    case measure=>exact zM
  ·obtain rfl:k=l.length:=by omega
   obtain ⟨rv,rc,rfl⟩:=HG.out.at (n:=l.length) zi;have HF:Hid (gX wr 59 (.slice rv l.length rc) (l.map jf)):=zh (by have:=HG.out.UZ.Sc;rwa [List.take_of_length_le zi] at this);go_wp2_with fail
   go_ret
   exact ⟨_,rfl,hb,HF.out⟩
end Go.Proofs.verdigrislaw05
namespace Go.Proofs.oO
open Go Go.RowKit Go.SW Go.Num Go.Mem Go.Proofs
def Pow (w : World) : Prop := Lib.TabIs Tryz.prog w "internal/strconv.uint64pow10" .u64 Lib.pow10Tab
theorem Pow.later {w w':World} (h:Pow w) (hb:Below w.heap.size w w'):Pow w':=Lib.tabBelow_of_tabIs h w' hb
theorem below_grow (w:World) (k:Nat) (os:Array Obj):Below w.heap.size w (Go.Sort.grow (w.drewN k) os):=by
 unfold Go.Sort.grow;refine ⟨rfl,rfl,rfl,?_,fun i hi=>?_⟩
 ·simp
 ·simp only [World.drewN];rw [Array.getElem?_append_left hi]
theorem infoByte:(Tryz.prog.info? 5).map (fun i=>(i.zero,i.size,i.bytes))=some (some (.int .u8 0),1,1):=by kernel_rfl
theorem LJ:(Tryz.prog.info? 174).map (·.size)=some 2:=by kernel_rfl
abbrev OQ (B b:Nat) (bs:List Value) (w:World):Prop:=Lib.IsBuilder 174 5 B b bs w
abbrev AtB (B b:Nat) (bs:List Value) (w:World):Prop:=Lib.BuilderAt 174 5 B b (.pointer (some ⟨b,0,none⟩)) bs w
theorem Bz {w w':World} (h:Below w.heap.size w w'):w.grownBy w' none:=⟨h.os,h.tape,h.output,h.size,fun i hi _=>h.block i hi⟩
theorem CJ {p:Value} {B b:Nat} {bs:List Value} {w w':World} (h:Lib.BuilderAt 174 5 B b p bs w) (hb:Below w.heap.size w w'):Lib.BuilderAt 174 5 B b p bs w':=by
 have hl:=h.lt;obtain ⟨hB,v,hbk,hown,hne⟩:=h;refine ⟨hB,v,(hb.block _ hl).trans hbk,hown.kept (Bz hb) ?_,hne⟩;cases h:v.ownBlock with
 | none=>exact .inl rfl
 | some k=>exact .inr zi
theorem OQ.later {B b:Nat} {bs:List Value} {w w':World} (h:OQ B b bs w) (hb:Below w.heap.size w w'):OQ B b bs w':=by
 rcases h with h|h
 ·exact .inl (CJ h hb)
 ·exact .inr (CJ h hb)
theorem Rp (n:Nat):Lib.itoa (n:Int)=Lib.decDigits n:=by
 unfold Lib.itoa;rw [if_neg zo,Int.toNat_natCast]
theorem LC (n:Nat) (h:n<1000000000) (w:World) (ht:Pow w) :
  Calls Tryz.prog 175 #[.int .i64 n] w fun e w'=>e= .returned (.string ⟨(Lib.decDigits n).toArray⟩)∧Below w.heap.size w w':=by
 refine (Tryz.strconv_Itoa n zo zo w ht).mono ?_;rintro e w' ⟨rfl,k,os,rfl⟩;rw [Rp];exact ⟨rfl,below_grow _ _ _⟩
theorem Au (b:Nat) (w:World) (h0:w.cell? ⟨b,0,none⟩=some (.pointer (some ⟨b,0,none⟩))) :
  Calls Tryz.prog 163 #[.pointer (some ⟨b,0,none⟩)] w fun e w'=>e= .returned (.tuple #[])∧w'=w:=by
 obtain ⟨j,hj,_⟩:=Option.map_eq_some_iff.1 LJ;go_enter Tryz.func163,Tryz.ntmps163
 go_wp2
 rw [Lib.run_neq_ptr_same w _ Tryz.underlying171 hj]
 go_wp2
 go_end0
 exact ⟨rfl,rfl⟩
theorem xY (b:Nat) (w:World) (h0:w.cell? ⟨b,0,none⟩=some (.pointer none)) (hsh:w.shape? b=some (174,2)) (hfz:w.frozen? ⟨b,0,none⟩=false) :
  Calls Tryz.prog 163 #[.pointer (some ⟨b,0,none⟩)] w fun e w'=>e= .returned (.tuple #[])∧w'=w.setCell ⟨b,0,none⟩ (.pointer (some ⟨b,0,none⟩)):=by
 obtain ⟨j,hj,hjs⟩:=Option.map_eq_some_iff.1 LJ;go_enter Tryz.func163,Tryz.ntmps163
 go_wp2
 rw [Lib.run_to_unsafe w ⟨b,0,none⟩ Tryz.underlying171 Tryz.underlying278 hj (by rw [hjs];decide) hsh (Nat.zero_lt_succ 1)];simp only [Result.andThen];rw [Oper.upon_value]
 go_wp2
 rw [run_callFunc_extern Tryz.func216 zk zk zk (e:=Extern.AbiNoEscape.same) zk];rw [Lib.run_noEscape];simp only [Result.andThen];rw [Oper.upon_value]
 go_wp2
 rw [Lib.run_from_unsafe w ⟨b,0,none⟩ Tryz.underlying278 Tryz.underlying171 hj hsh zk];simp only [Result.andThen];rw [Oper.upon_value]
 go_wp2
 go_end0
 exact ⟨rfl,rfl⟩
theorem uY (B b:Nat) (bs:List Value) (w:World) (h:OQ B b bs w) :
  Calls Tryz.prog 163 #[.pointer (some ⟨b,0,none⟩)] w fun e w'=>e= .returned (.tuple #[])∧(AtB B b bs w'∧Below B w w'):=by
 rcases h with h|h
 ·refine (xY b w h.cell0 h.shape h.frozen0).mono ?_;rintro e w' ⟨rfl,rfl⟩;exact ⟨rfl,h.used _,(Below.refl B w).setCell (p:=⟨b,0,none⟩) h.1 _⟩
 ·refine (Au b w h.cell0).mono ?_;rintro e w' ⟨rfl,rfl⟩;exact ⟨rfl,h,Below.refl B _⟩
theorem CY (B b:Nat) (bs:List Value) (c:Int) (w:World) (h:OQ B b bs w) (hlen:bs.length+1≤140737488355328) (hBw:B≤w.heap.size) :
  Calls Tryz.prog 177 #[.pointer (some ⟨b,0,none⟩),.int .u8 c] w fun e w'=>e= .returned .nilIface∧(AtB B b (bs++[.int .u8 c]) w'∧Below B w w'):=by
 obtain ⟨i0,hi,hz0,hz1,hz2⟩:=info_parts infoByte;go_enter Tryz.func177,Tryz.ntmps177
 go_wp2_with (go_at_call 163;refine (uY B b bs _ h).mono ?_;rintro e w1 ⟨rfl,h1,hb1⟩;refine Hid.out ?_)
 obtain ⟨hB,v,hbk,hown,hne⟩:=h1;have c0:w1.cell? ⟨b,0,none⟩=some (.pointer (some ⟨b,0,none⟩)):=by rw [Lib.cell_of_heap hbk];rfl
 have c1:w1.cell? ⟨b,1,none⟩=some v:=by rw [Lib.cell_of_heap hbk];rfl
 refine zh ?_;go_wp2_with (at_builtin;refine wpList_append_own _ rfl _ _ 172 rfl B 5 i0 (.int .u8 0) 1 1 Tryz.underlying172 hi hz0 hz1 hz2 rfl zd _ _ _ rfl (hown.alloc _) ⟨w1.heap.size,0,none⟩ 1 1 [.int .u8 c] rfl rfl ?c1 ?c2 ?c3 ?c4 ?c5 ?_)
 case c1 =>
  intro j u hj
  match j,hj with
  | 0,hj=>simp at hj;subst hj;simp [Addr.add]
 case c2=>intro u hu;simp at hu;subst hu;rfl
 case c3=>unfold maxLen;omega
 case c4=>omega
 case c5=>have:=hb1.size;simp;omega
 intro v' w2 hown' hgrow _
 have hlt:b<w1.heap.size:=by
  rcases Nat.lt_or_ge b w1.heap.size with h'|h'
  ·exact h'
  ·simp [Array.getElem?_eq_none h'] at hbk
 have hb2:w2.heap[b]? =some (.cells #[.pointer (some ⟨b,0,none⟩),v] 174 (0,0)):=by
  rw [hgrow.block b (by simp;omega) (fun e=>hne e.symm),Lib.alloc_old w1 _ b hlt];exact hbk
 have d0:w2.cell? ⟨b,0,none⟩=some (.pointer (some ⟨b,0,none⟩)):=by rw [Lib.cell_of_heap hb2];rfl
 have d1:w2.cell? ⟨b,1,none⟩=some v:=by rw [Lib.cell_of_heap hb2];rfl
 have f1:w2.frozen? ⟨b,1,none⟩=false:=Lib.frozen_of_heap hb2 1
 obtain ⟨g,cap,rfl⟩:∃ g cap,v'= .slice (some ⟨g,0,none⟩) (bs.length+1) cap:=by
  rcases hown'.2 with ⟨_,h0⟩|⟨g,cap,cur,hv,_⟩
  ·omega
  ·exact ⟨g,cap,hv⟩
 go_wp2
 go_ret
 refine ⟨rfl,?_,?_⟩
 ·exact Lib.BuilderAt.put (T:=174) (e:=5) hB hb2 (bs':=bs++[.int .u8 c]) (by simpa using hown') zd
 ·exact ((hb1.alloc (by have:=hb1.size;omega) _).grown hgrow (by have:=hb1.size;simp;omega) (fun k hk=>(hown.lt k hk).1)).setCell (p:=⟨b,1,none⟩) hB _
theorem yF (B b:Nat) (bs:List Value) (s:ByteArray) (w:World) (h:OQ B b bs w) (hlen:bs.length+s.size≤140737488355328) (hBw:B≤w.heap.size) :
  Calls Tryz.prog 106 #[.pointer (some ⟨b,0,none⟩),.string s] w fun e w'=>e= .returned (.tuple #[.int .i64 s.size,.nilIface])∧(AtB B b (bs++Lib.strCells s) w'∧Below B w w'):=by
 obtain ⟨i0,hi,hz0,hz1,hz2⟩:=info_parts infoByte;go_enter Tryz.func106,Tryz.ntmps106
 go_wp2_with (go_at_call 163;refine (uY B b bs _ h).mono ?_;rintro e w1 ⟨rfl,h1,hb1⟩;refine Hid.out ?_)
 obtain ⟨hB,v,hbk,hown,hne⟩:=h1;have c0:w1.cell? ⟨b,0,none⟩=some (.pointer (some ⟨b,0,none⟩)):=by rw [Lib.cell_of_heap hbk];rfl
 have c1:w1.cell? ⟨b,1,none⟩=some v:=by rw [Lib.cell_of_heap hbk];rfl
 refine zh ?_;go_wp2_with (at_builtin;refine Lib.wpList_append_own_string _ rfl _ _ 172 9 rfl B 5 i0 Tryz.underlying172 Tryz.underlying9 hi hz0 hz1 hz2 _ _ _ rfl hown s rfl ?c3 ?c4 ?c5 ?_)
 case c3=>unfold maxLen;omega
 case c4=>omega
 case c5=>have:=hb1.size;omega
 intro v' w2 hown' hgrow _
 have hlt:b<w1.heap.size:=by
  rcases Nat.lt_or_ge b w1.heap.size with h'|h'
  ·exact h'
  ·simp [Array.getElem?_eq_none h'] at hbk
 have hb2:w2.heap[b]? =some (.cells #[.pointer (some ⟨b,0,none⟩),v] 174 (0,0)):=by
  rw [hgrow.block b hlt (fun e=>hne e.symm)];exact hbk
 have d0:w2.cell? ⟨b,0,none⟩=some (.pointer (some ⟨b,0,none⟩)):=by rw [Lib.cell_of_heap hb2];rfl
 have d1:w2.cell? ⟨b,1,none⟩=some v:=by rw [Lib.cell_of_heap hb2];rfl
 have f1:w2.frozen? ⟨b,1,none⟩=false:=Lib.frozen_of_heap hb2 1
 obtain ⟨ao,n',cap,rfl⟩:∃ ao n' cap,v'= .slice ao n' cap:=by
  rcases hown'.2 with ⟨hv,_⟩|⟨g,cap,cur,hv,_⟩
  ·exact ⟨_,_,_,hv⟩
  ·exact ⟨_,_,_,hv⟩
 go_wp2
 go_ret2
 refine ⟨rfl,?_,?_⟩
 ·exact Lib.BuilderAt.put (T:=174) (e:=5) hB hb2 (bs':=bs++Lib.strCells s) (by simpa [Lib.strCells_length] using hown') zd
 ·exact (hb1.grown hgrow (by have:=hb1.size;omega) (fun k hk=>(hown.lt k hk).1)).setCell (p:=⟨b,1,none⟩) hB _
end Go.Proofs.oO
