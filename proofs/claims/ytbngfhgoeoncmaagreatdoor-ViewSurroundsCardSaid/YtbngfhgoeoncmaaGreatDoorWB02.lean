/- Lemmas for the proof. No condition. -/
import Derived.Test.YtbngfhgoeoncmaaGreatDoorWB01
import Derived.Test.YtbngfhgoeoncmaaGreatDoorProg
import Derived.Shelf.Strings.Builder1
import Derived.Shelf.LaysM
import Derived.Shelf.Strconv.Itoa3
import Derived.Shelf.Strconv.Clone
import Derived.Shelf.Strconv.SyntaxError
import Derived.Shelf.LaysC
import Derived.Shelf.Strconv.ToError
import Derived.Shelf.Strconv.Lower
import Derived.Shelf.Strconv.RangeError
import Derived.Shelf.Strconv.ToErrorRange
import Derived.Shelf.Bits.Mul64
import Derived.Lib.AppendStr
import Derived.Lib.Builder
import Derived.Lib.AppendIntMem
set_option linter.unusedVariables false
set_option linter.unusedSimpArgs false
set_option maxRecDepth 100000
set_option maxHeartbeats 16000000
open Array renaming getElem?_eq_none → bQ
open Bool renaming and_eq_true → aF, eq_iff_iff → iZ
open Go.Ending renaming returned → aj
open Go.IntKind renaming i64 → I
open Go.Value renaming agg → aB, bool → ak, int → Z, pointer → ay, slice → ah, string → O, tuple → aD
open Nat renaming le_refl → aC, le_trans → au, lt_of_lt_of_le → aP, lt_or_ge → aH, one_mul → iL, pow_le_pow_right → bW
namespace Go.Mem
open Go Go.RowKit Go.SW Go.Num Go.Dec
theorem aA.yO {w:World} {b:Nat} {cs:Array Value} {T:TypeId} (h:b=w.heap.size):aA (w.alloc (.cells cs T (0,0))) b cs T:=h ▸ aA.new w cs T
theorem aA.qW (w:World) (o:Obj) (cs:Array Value) (T:TypeId):aA ((w.alloc o).alloc (.cells cs T (0,0))) (w.heap.size+1) cs T:=aA.yO zi
theorem aA.at2 (w:World) (o o2:Obj) (cs:Array Value) (T:TypeId):aA (((w.alloc o).alloc o2).alloc (.cells cs T (0,0))) (w.heap.size+1+1) cs T:=aA.yO zi
theorem aA.at3 (w:World) (o o2 o3:Obj) (cs:Array Value) (T:TypeId):aA ((((w.alloc o).alloc o2).alloc o3).alloc (.cells cs T (0,0))) (w.heap.size+1+1+1) cs T:=aA.yO zi
theorem aZ.alloc {w:World} {v:Value} {n:Nat} (h:aZ w v n) (o:Obj):aZ (w.alloc o) v n:=h.later ((Below.refl _ _).alloc (aC _) _)
theorem aZ.drew {w:World} {v:Value} {n:Nat} (h:aZ w v n):aZ w.drew v n:=h.later (Below.drew (Below.refl _ _))
theorem bL {w W:World} (h:Bw w W) (o:Obj):Below w.heap.size w (W.alloc o):=h.alloc h.size o
theorem aI {B:Nat} {w w':World} (h:Below B w w':=by repeat (first|(with_reducible exact Below.refl _ _)|(with_reducible assumption)|(with_reducible refine bL ?_ _)|((with_reducible refine Below.setCell ?_ ?_ _);rotate_left;focus (first|(simp;done)|(simp;omega)|assumption|(simp only [];omega)))|(with_reducible refine Below.drew ?_)|((with_reducible refine Bt (w1:=?_) ?_ ?_);rotate_right;with_reducible assumption))):Below B w w':=h
theorem bq {w:World} {b:Nat} {cs:Array Value} {T:TypeId} (h:aA w b cs T:=by repeat (first|(with_reducible assumption)|(with_reducible apply aA.set)|(with_reducible exact aA.new _ _ _)|(with_reducible exact aA.qW _ _ _ _)|(with_reducible exact aA.at2 _ _ _ _ _)|(with_reducible apply aA.alloc)|(with_reducible apply aA.drew)|((with_reducible refine aA.later (w:=?_) ?_ ?_);rotate_right;with_reducible assumption)|((with_reducible apply aA.setOther);(case hne=>(first|assumption|(simp;done)|(simp;omega)))))):aA w b cs T:=h
theorem Gc (w:World) (c0:Array Value) (T0:TypeId):∃ y,w.alloc (.cells c0 T0 (0,0))=y∧Bw w y∧Hid (aA y (w.heap.size) c0 T0):=⟨_,rfl,bL (Below.refl _ _) _,zh (aA.new _ _ _)⟩
theorem Ud (w:World) (c0:Array Value) (T0:TypeId) (c1:Array Value) (T1:TypeId):∃ y,(w.alloc (.cells c0 T0 (0,0))).alloc (.cells c1 T1 (0,0))=y∧Bw w y∧Hid (aA y (w.heap.size) c0 T0)∧Hid (aA y (w.heap.size+1) c1 T1):=⟨_,rfl,bL (bL (Below.refl _ _) _) _,zh (aA.alloc (aA.new _ _ _) _),zh (aA.qW _ _ _ _)⟩
theorem Uc (w:World) (c0:Array Value) (T0:TypeId) (c1:Array Value) (T1:TypeId) (c2:Array Value) (T2:TypeId):∃ y,((w.alloc (.cells c0 T0 (0,0))).alloc (.cells c1 T1 (0,0))).alloc (.cells c2 T2 (0,0))=y∧Bw w y∧Hid (aA y (w.heap.size) c0 T0)∧Hid (aA y (w.heap.size+1) c1 T1)∧Hid (aA y (w.heap.size+1+1) c2 T2):=⟨_,rfl,bL (bL (bL (Below.refl _ _) _) _) _,zh (aA.alloc (aA.alloc (aA.new _ _ _) _) _),zh (aA.alloc (aA.qW _ _ _ _) _),zh (aA.at2 _ _ _ _ _)⟩
theorem al4 (w:World) (c0:Array Value) (T0:TypeId) (c1:Array Value) (T1:TypeId) (c2:Array Value) (T2:TypeId) (c3:Array Value) (T3:TypeId):∃ y,(((w.alloc (.cells c0 T0 (0,0))).alloc (.cells c1 T1 (0,0))).alloc (.cells c2 T2 (0,0))).alloc (.cells c3 T3 (0,0))=y∧Bw w y∧Hid (aA y (w.heap.size) c0 T0)∧Hid (aA y (w.heap.size+1) c1 T1)∧Hid (aA y (w.heap.size+1+1) c2 T2)∧Hid (aA y (w.heap.size+1+1+1) c3 T3):=⟨_,rfl,bL (bL (bL (bL (Below.refl _ _) _) _) _) _,zh (aA.alloc (aA.alloc (aA.alloc (aA.new _ _ _) _) _) _),zh (aA.alloc (aA.alloc (aA.qW _ _ _ _) _) _),zh (aA.alloc (aA.at2 _ _ _ _ _) _),zh (aA.at3 _ _ _ _ _ _)⟩
theorem _root_.Go.RowKit.Hid.bl {w w':World} {b:Nat} {cs:Array Value} {T:TypeId} (h:Hid (aA w b cs T)) (hb:Bw w w'):Hid (aA w' b cs T):=zh (h.out.later hb)
theorem _root_.Go.RowKit.Hid.cl {w:World} {b:Nat} {cs:Array Value} {T:TypeId} (h:Hid (aA w b cs T)):(∀ o,w.cell? ⟨b,o,none⟩=cs[o]?)∧b<w.heap.size:=⟨h.out.cell,h.out.lt⟩
theorem _root_.Go.RowKit.Hid.clf {w:World} {b:Nat} {cs:Array Value} {T:TypeId} (h:Hid (aA w b cs T)):(∀ o,w.cell? ⟨b,o,none⟩=cs[o]?)∧b<w.heap.size∧∀ o,w.frozen? ⟨b,o,none⟩=false:=⟨h.out.cell,h.out.lt,h.out.free⟩
theorem aZ.slice {w:World} {v:Value} {n:Nat} (h:aZ w v n):∃ pa l ca,v= ah pa l ca:=by
 obtain ⟨a,cap,h1, -⟩:=h;exact ⟨_,_,_,h1⟩
def dS (w:World) (v:Value) (z:Int):Prop:=∃ pa l ca,v= aB #[ah pa l ca,ak (decide (z<0))]∧aZ w (ah pa l ca) z.natAbs
theorem dS.later {w w':World} {v:Value} {z:Int} (h:dS w v z) (hb:Bw w w'):dS w' v z:=by
 obtain ⟨pa,l,ca,h1,h2⟩:=h;exact ⟨pa,l,ca,h1,h2.later hb⟩
theorem dS.mk {w:World} {m:Value} {z:Int} {b:Bool} {n:Nat} (h:aZ w m n) (hn:n=z.natAbs) (hb:b=decide (z<0)):dS w (aB #[m,ak b]) z:=by
 obtain ⟨pa,l,ca,rfl⟩:=h.slice;exact ⟨pa,l,ca,by rw [hb],hn ▸ h⟩
def fO (z:Int):Value:=O ⟨(Lib.itoa z).toArray⟩
def iR (n:Nat) (b:Bool):Int:=if b then -(n:Int) else n
theorem jD (n:Nat) (b:Bool):(iR n b).natAbs=n:=by unfold iR;split<;>omega
theorem Qu (n:Nat) (b:Bool):(b&& !decide (n=0))=decide (iR n b<0):=by
 unfold iR;cases b
 ·simp
 ·simp only [Bool.true_and,if_true];rw [iZ];simp
  omega
theorem dS.dV {w:World} {pa:Option Addr} {l ca:Nat} {z:Int} (h:aZ w (ah pa l ca) z.natAbs):dS w (aB #[ah pa l ca,ak (decide (z<0))]) z:=⟨pa,l,ca,rfl,h⟩
theorem dS.cast {w:World} {v:Value} {y z:Int} (h:dS w v y) (e:y=z):dS w v z:=e ▸ h
theorem Qt (z:Int):iR z.natAbs (!decide (z<0))= -z:=by
 unfold iR
 by_cases h:z<0
 ·simp [h];omega
 ·simp [h];omega
theorem YN (z:Int) (n:Nat):iR (z.natAbs*n) (decide (z<0))=z*n:=by
 unfold iR
 by_cases h:z<0
 ·simp only [h,decide_true,if_true];have:z= -(z.natAbs:Int):=by omega
  rw [this,Int.natAbs_neg,Int.natAbs_natCast,Int.natCast_mul,Int.neg_mul]
 ·simp only [h,decide_false];have:z=(z.natAbs:Int):=by omega
  rw [this,Int.natAbs_natCast,Int.natCast_mul];rfl
def BH (w:World) (b:Nat) (T:TypeId):Prop:=∃ cs,aA w b cs T
theorem aA.GH {w:World} {b:Nat} {cs:Array Value} {T:TypeId} (h:aA w b cs T):BH w b T:=⟨cs,h⟩
theorem BH.setCell {w:World} {b:Nat} {T:TypeId} {a:Addr} {u:Value} (h:BH w b T):BH (w.setCell a u) b T:=by
 obtain ⟨cs,h⟩:=h;obtain ⟨c,o,sp⟩:=a
 by_cases hb:b=c
 ·subst hb;have hl:=h.lt;unfold aA at h;have e:w.heap[b]= .cells cs T (0,0):=by simpa [hl] using h
  cases sp with
  | none =>
   refine ⟨cs.setIfInBounds o u,?_⟩;unfold aA;simp [World.setCell,hl,Array.getElem_modify,e]
  | some s =>
   refine ⟨cs,?_⟩;unfold aA;simp [World.setCell,hl,Array.getElem_modify,e]
 ·exact ⟨cs,h.setOther u hb⟩
theorem BH.later {w w':World} {b:Nat} {T:TypeId} (h:BH w b T) (hb:Bw w w'):BH w' b T:=by
 obtain ⟨cs,h⟩:=h;exact ⟨cs,h.later hb⟩
theorem BH.alloc {w:World} {b:Nat} {T:TypeId} {o:Obj} (h:BH w b T):BH (w.alloc o) b T:=h.later ((Below.refl _ _).alloc (aC _) _)
theorem BH.drew {w:World} {b:Nat} {T:TypeId} (h:BH w b T):BH w.drew b T:=h.later (Below.drew (Below.refl _ _))
theorem BH.new (w:World) (cs:Array Value) (T:TypeId):BH (w.alloc (.cells cs T (0,0))) w.heap.size T:=⟨cs,aA.new _ _ _⟩
theorem aZ.Ba {w:World} {v:Value} {n:Nat} {b o:Nat} {T':TypeId} {u:Value} (h:aZ w v n) (hx:BH w b T') (hT:22≠T'):aZ (w.setCell ⟨b,o,none⟩ u) v n:=by
 obtain ⟨cs,hx⟩:=hx;exact h.setOther hx hT o u
theorem Qv {z y:Int} {b:Bool} (h:decide (z<0)=b) (k:decide (y<0)=b):iR (z.natAbs+y.natAbs) b=z+y:=by
 unfold iR;cases b
 ·simp at h k ⊢;omega
 ·simp at h k ⊢;omega
theorem Qs {z y:Int} {b:Bool} (h:decide (z<0)=b) (k:decide (y<0)= !b):iR (z.natAbs - y.natAbs) b=if y.natAbs≤z.natAbs then z+y else iR (z.natAbs - y.natAbs) b:=by
 split
 ·unfold iR;cases b
  ·simp at h k ⊢;omega
  ·simp at h k ⊢;omega
 ·rfl
theorem zC (z y:Int):iR (z.natAbs*y.natAbs) (decide (z<0) != decide (y<0))=z*y:=by
 unfold iR
 by_cases h:z<0<;>by_cases k:y<0
 ·simp only [h,k,decide_true,decide_false,bne_self_eq_false,Bool.true_bne,Bool.false_bne,Bool.not_false,Bool.not_true,if_true,if_false];obtain ⟨a,rfl⟩:∃ a:Nat,z= -(a:Int):=⟨z.natAbs,by omega⟩;obtain ⟨b,rfl⟩:∃ b:Nat,y= -(b:Int):=⟨y.natAbs,by omega⟩;simp
  try grind
 ·simp only [h,k,decide_true,decide_false,bne_self_eq_false,Bool.true_bne,Bool.false_bne,Bool.not_false,Bool.not_true,if_true,if_false];obtain ⟨a,rfl⟩:∃ a:Nat,z= -(a:Int):=⟨z.natAbs,by omega⟩;obtain ⟨b,rfl⟩:∃ b:Nat,y=(b:Int):=⟨y.natAbs,by omega⟩;simp
  try grind
 ·simp only [h,k,decide_true,decide_false,bne_self_eq_false,Bool.true_bne,Bool.false_bne,Bool.not_false,Bool.not_true,if_true,if_false];obtain ⟨a,rfl⟩:∃ a:Nat,z=(a:Int):=⟨z.natAbs,by omega⟩;obtain ⟨b,rfl⟩:∃ b:Nat,y= -(b:Int):=⟨y.natAbs,by omega⟩;simp
  try grind
 ·simp only [h,k,decide_true,decide_false,bne_self_eq_false,Bool.true_bne,Bool.false_bne,Bool.not_false,Bool.not_true,if_true,if_false];obtain ⟨a,rfl⟩:∃ a:Nat,z=(a:Int):=⟨z.natAbs,by omega⟩;obtain ⟨b,rfl⟩:∃ b:Nat,y=(b:Int):=⟨y.natAbs,by omega⟩;simp
theorem Lm {z y:Int} (h:y ∣ z):iR (z.natAbs / y.natAbs) (decide (z<0) != decide (y<0))=z / y:=by
 obtain ⟨c,rfl⟩:=h
 rcases Int.lt_trichotomy y 0 with hy|hy|hy
 ·rw [Int.natAbs_mul,Nat.mul_div_cancel_left _ zo,Int.mul_ediv_cancel_left _ zo];unfold iR
  rcases Int.lt_trichotomy c 0 with hc|hc|hc
  ·have:¬ y*c<0:=by have:=Int.mul_pos_of_neg_of_neg hy hc;omega
   simp [this,hy];omega
  ·subst hc;simp
  ·have:y*c<0:=Int.mul_neg_of_neg_of_pos hy hc;simp [this,hy];omega
 ·subst hy;simp [iR]
 ·rw [Int.natAbs_mul,Nat.mul_div_cancel_left _ zo,Int.mul_ediv_cancel_left _ zo];unfold iR;have hy2:¬ y<0:=by omega
  rcases Int.lt_trichotomy c 0 with hc|hc|hc
  ·have:y*c<0:=Int.mul_neg_of_pos_of_neg hy hc;simp [this,hy2];omega
  ·subst hc;simp
  ·have:¬ y*c<0:=by have:=Int.mul_pos hy hc;omega
   simp [this,hy2];omega
theorem aR {w:World} {v:Value} {n:Nat} (h:aZ w v n:=by repeat (first|(with_reducible exact Hid.out (by with_reducible assumption))|((with_reducible apply aZ.Ba);rotate_left;(focus (repeat (first|(with_reducible exact aA.GH (by with_reducible assumption))|(with_reducible apply BH.setCell)|(with_reducible exact BH.new _ _ _)|(with_reducible apply BH.alloc)|(with_reducible apply BH.drew)|((with_reducible refine BH.later (w:=?_) ?_ ?_);rotate_right;with_reducible assumption))));(focus decide))|(with_reducible apply aZ.alloc)|(with_reducible apply aZ.drew)|((with_reducible refine aZ.later (w:=?_) ?_ ?_);rotate_right;with_reducible assumption))):aZ w v n:=h
end Go.Mem
namespace Go.fG
open Go Go.Num Go.Dec Lib
theorem Jc (p q:Rat):let g:=p.den.gcd q.den
  let top:=p.num*((q.den / g:Nat):Int)+q.num*((p.den / g:Nat):Int)
  let h:=top.natAbs.gcd g
  (p+q).num=top / h∧(p+q).den=p.den / g*(q.den / h):=by
 intro g top h;have e:p+q=Rat.add p q:=rfl;rw [e];unfold Rat.add;simp only;have hgd:g ∣ q.den:=Nat.gcd_dvd_right _ _;have hhg:h ∣ g:=Nat.gcd_dvd_right _ _;have hh:(p.den / g*q.den) / h=p.den / g*(q.den / h):=Nat.mul_div_assoc _ (Nat.dvd_trans hhg hgd);split
 ·rename_i hg;have hg':g=1:=hg;have h1:h=1:=Nat.dvd_one.1 (hg' ▸ hhg);simp only [hg',h1,Nat.div_one,top,Int.natCast_one,Int.ediv_one,and_self]
 ·rw [Rat.maybeNormalize_eq];simp only;exact ⟨rfl,hh⟩
theorem IJ (p q:Rat):let g:=p.num.natAbs.gcd q.den
  let h:=q.num.natAbs.gcd p.den
  (p*q).num=(p.num / g)*(q.num / h)∧(p*q).den=(p.den / h)*(q.den / g):=by
 intro g h;have e:p*q=Rat.mul p q:=rfl;rw [e];unfold Rat.mul;simp only [Int.divExact_eq_ediv,Nat.divExact_eq_div];exact ⟨rfl,rfl⟩
structure Fr where
 n:ByteArray
 d:ByteArray
deriving DecidableEq
def Fr.v (a:Fr):Value:=aB #[O a.n,O a.d]
def Fr.of (q:Rat):Fr:=⟨⟨(Lib.itoa q.num).toArray⟩,⟨(Lib.itoa q.den).toArray⟩⟩
def Fr.no:Fr:=⟨⟨#[]⟩,⟨#[]⟩⟩
def kL (k:Nat):Nat:=10^k
def ou (n:Nat):Bool:=decide (n<kL 600)
def jk (q:Rat):Bool:=ou q.num.natAbs&&ou q.den
theorem R4 {n k:Nat} (hk:0<k):n<kL k↔(decDigits n).length≤k :=
 ⟨fun h=>nD k n hk h,fun h=>aP (FV n) (bW zo h)⟩
theorem fJ {n:Nat}:ou n=true↔(decDigits n).length≤600:=by
 unfold ou;rw [decide_eq_true_iff];exact R4 zo
def rd (a:Fr):Option Rat :=
 match whole a.n.data.toList,whole a.d.data.toList with
 | some n,some d=>if h:0<d∧n.natAbs.Coprime d.natAbs then some ⟨n,d.natAbs,by omega,h.2⟩ else none
 | _,_=>none
theorem F6 {a b:ByteArray} (h:a.data.toList=b.data.toList):a=b:=by
 cases a;cases b
 simp only [ByteArray.mk.injEq];exact Array.toList_inj.1 h
theorem je {q:Rat} (h:jk q=true):rd (Fr.of q)=some q:=by
 unfold jk at h;rw [aF,fJ,fJ] at h;have e1:whole (Fr.of q).n.data.toList=some q.num:=gF h.1;have h2:(decDigits ((q.den:Nat):Int).natAbs).length≤600:=(Int.natAbs_natCast q.den).symm ▸ h.2;have e2:whole (Fr.of q).d.data.toList=some ((q.den:Nat):Int):=gF (z:=((q.den:Nat):Int)) h2;unfold rd;rw [e1,e2];have hd:=q.den_pos;simp only [Int.natAbs_natCast];rw [dif_pos ⟨by omega,q.reduced⟩]
theorem ow {a:Fr} {q:Rat} (h:rd a=some q):a=Fr.of q∧jk q=true:=by
 unfold rd at h;split at h
 ·rename_i n d e1 e2;split at h
  ·rename_i hk;simp only [Option.some.injEq] at h;subst h;obtain ⟨h1,h2⟩:=oz e1;obtain ⟨h3,h4⟩:=oz e2;refine ⟨?_,?_⟩
   ·cases a
    unfold Fr.of;simp only [Fr.mk.injEq] at *;refine ⟨F6 h1,F6 ?_⟩;rw [h3,show ((d.natAbs:Nat):Int)=d by omega]
   ·unfold jk;rw [aF,fJ,fJ];exact ⟨h2,h4⟩
  ·cases h
 ·cases h
theorem SV {q:Rat} (h:q≠0):q⁻¹.num=Mem.iR q.den (decide (q.num<0))∧q⁻¹.den=q.num.natAbs:=by
 have hn:q.num≠0:=fun e=>h (Rat.num_eq_zero.1 e);rw [Rat.num_inv,Rat.den_inv,if_neg hn];refine ⟨?_,rfl⟩;unfold Mem.iR
 rcases Int.lt_trichotomy q.num 0 with h1|h1|h1
 ·rw [Int.sign_eq_neg_one_of_neg h1];simp [h1]
 ·exact absurd h1 hn
 ·rw [Int.sign_eq_one_of_pos h1];have:¬ q.num<0:=by omega
  simp [this]
theorem DT {n:Int} {g:Nat} (h:g ∣ n.natAbs):Mem.iR (n.natAbs / g) (decide (n<0))=n / (g:Int):=by
 have h2:((g:Nat):Int) ∣ n:=by rwa [← Int.dvd_natAbs,Int.ofNat_dvd]
 have:=Mem.Lm h2;rw [Int.natAbs_natCast,decide_eq_false (show ¬ ((g:Nat):Int)<0 by omega),Bool.bne_false] at this;exact this
theorem PX (p q:Rat):(p+q).num=Mem.iR ((p.num*((q.den / p.den.gcd q.den:Nat):Int)+q.num*((p.den / p.den.gcd q.den:Nat):Int)).natAbs / (p.num*((q.den / p.den.gcd q.den:Nat):Int)+q.num*((p.den / p.den.gcd q.den:Nat):Int)).natAbs.gcd (p.den.gcd q.den)) (decide ((p.num*((q.den / p.den.gcd q.den:Nat):Int)+q.num*((p.den / p.den.gcd q.den:Nat):Int))<0))∧(p+q).den=p.den / p.den.gcd q.den*(q.den / (p.num*((q.den / p.den.gcd q.den:Nat):Int)+q.num*((p.den / p.den.gcd q.den:Nat):Int)).natAbs.gcd (p.den.gcd q.den)):=by
 obtain ⟨h1,h2⟩:=Jc p q;refine ⟨?_,h2⟩;rw [h1];exact (DT (Nat.gcd_dvd_left _ _)).symm
theorem OY (p q:Rat):(p*q).num=Mem.iR (p.num.natAbs / p.num.natAbs.gcd q.den*(q.num.natAbs / q.num.natAbs.gcd p.den)) (decide (p.num<0) != decide (q.num<0))∧(p*q).den=p.den / q.num.natAbs.gcd p.den*(q.den / p.num.natAbs.gcd q.den):=by
 obtain ⟨h1,h2⟩:=IJ p q;refine ⟨?_,h2⟩;rw [h1];have d1:((p.num.natAbs.gcd q.den:Nat):Int) ∣ p.num:=by rw [← Int.dvd_natAbs,Int.ofNat_dvd];exact Nat.gcd_dvd_left _ _
 have d2:((q.num.natAbs.gcd p.den:Nat):Int) ∣ q.num:=by rw [← Int.dvd_natAbs,Int.ofNat_dvd];exact Nat.gcd_dvd_left _ _
 have hg:0<p.num.natAbs.gcd q.den:=Nat.gcd_pos_of_pos_right _ q.den_pos;have hh:0<q.num.natAbs.gcd p.den:=Nat.gcd_pos_of_pos_right _ p.den_pos
 have key:∀ (z:Int) (g:Nat),0<g→((g:Nat):Int) ∣ z→(z / (g:Int)).natAbs=z.natAbs / g∧(z≠0→decide (z / (g:Int)<0)=decide (z<0)):=fun z g hg hd=>by
  obtain ⟨c,rfl⟩:=hd;rw [Int.mul_ediv_cancel_left _ zo,Int.natAbs_mul,Int.natAbs_natCast,Nat.mul_div_cancel_left _ hg];refine ⟨rfl,fun _=>?_⟩;rw [iZ,decide_eq_true_iff,decide_eq_true_iff]
  constructor
  ·exact fun h=>Int.mul_neg_of_pos_of_neg zo h
  ·intro h
   rcases Int.lt_trichotomy c 0 with h1|h1|h1
   ·exact h1
   ·subst h1;simp at h
   ·have:=Int.mul_pos (show (0:Int)<(g:Int) by omega) h1;omega
 obtain ⟨a1,a2⟩:=key p.num _ hg d1;obtain ⟨b1,b2⟩:=key q.num _ hh d2;rw [← Mem.zC (p.num / ((p.num.natAbs.gcd q.den:Nat):Int)),a1,b1]
 by_cases hp:p.num=0
 ·simp [hp,Mem.iR]
 ·by_cases hq:q.num=0
  ·simp [hq,Mem.iR]
  ·rw [a2 hp,b2 hq]
theorem OX (p q:Rat):(p*q).num=Mem.iR (p.num.natAbs / p.num.natAbs.gcd q.den*(q.num.natAbs / q.num.natAbs.gcd p.den)) (!(decide (p.num<0) == decide (q.num<0)))∧(p*q).den=p.den / q.num.natAbs.gcd p.den*(q.den / p.num.natAbs.gcd q.den):=OY p q
theorem wu (n:Int) {d:Nat} (hd:0<d):(mkRat n d).num=Mem.iR (n.natAbs / n.natAbs.gcd d) (decide (n<0))∧(mkRat n d).den=d / n.natAbs.gcd d:=by
 rw [Rat.num_mkRat,Rat.den_mkRat,if_neg zo,if_neg zo,Nat.gcd_comm d];exact ⟨(DT (Nat.gcd_dvd_left _ _)).symm,rfl⟩
theorem E5 {n:Nat} (h:600<(decDigits n).length):ou n=false:=by
 cases hk:ou n with
 | false=>rfl
 | true=>have:=fJ.1 hk;omega
def wr (q:Rat):Fr × Int:=if jk q then (Fr.of q,0) else (Fr.no,6)
def Fr.res (x:Fr × Int):Value:=aD #[x.1.v,Z I x.2]
theorem vJ {q:Rat} (h:jk q=false):Fr.res (wr q)= aD #[aB #[O ⟨#[]⟩,O ⟨#[]⟩],Z I 6]:=by unfold wr;rw [if_neg (by simp [h])];rfl
theorem Uk {q:Rat} (h:jk q=true):Fr.res (wr q)= aD #[aB #[Mem.fO q.num,Mem.fO q.den],Z I 0]:=by unfold wr;rw [if_pos h];rfl
def gZ (p q:Rat):Int:=if p<q then -1 else if q<p then 1 else 0
def xR (z:Int):Int:=if z=0 then 0 else if z<0 then -1 else 1
theorem DR (p q:Rat):xR (p.num*(q.den:Int)+ -(q.num*(p.den:Int)))=gZ p q:=by
 unfold xR gZ
 by_cases h1:p<q
 ·rw [if_pos h1];have:=(Rat.lt_iff p q).1 h1;rw [if_neg zo,if_pos zo]
 ·rw [if_neg h1];rw [Rat.lt_iff] at h1
  by_cases h2:q<p
  ·rw [if_pos h2];have:=(Rat.lt_iff q p).1 h2;rw [if_neg zo,if_neg zo]
  ·rw [if_neg h2];rw [Rat.lt_iff] at h2;rw [if_pos zo]
theorem Sd (q:Rat):xR q.num=gZ q 0:=by
 have:=DR q 0
 simpa using this
def gI (w:World) (v:Value) (q:Rat):Prop:=∃ pa l ca pb m cb,v= aB #[ah pa l ca,ak (decide (q.num<0)),ah pb m cb]∧Mem.aZ w (ah pa l ca) q.num.natAbs∧Mem.aZ w (ah pb m cb) q.den
open RowKit Mem in
theorem gI.later {w w':World} {v:Value} {q:Rat} (h:gI w v q) (hb:Bw w w'):gI w' v q:=by
 obtain ⟨pa,l,ca,pb,m,cb,h1,h2,h3⟩:=h;exact ⟨pa,l,ca,pb,m,cb,h1,h2.later hb,h3.later hb⟩
open Mem in
theorem gI.mk (n d:Nat) {w:World} {pa pb:Option Addr} {l ca m cb:Nat} {b:Bool} {q:Rat} (h:aZ w (ah pa l ca) n) (k:aZ w (ah pb m cb) d) (hn:n=q.num.natAbs) (hd:d=q.den) (hb:b=decide (q.num<0)):gI w (aB #[ah pa l ca,ak b,ah pb m cb]) q:=by
 subst hn hd hb;exact ⟨pa,l,ca,pb,m,cb,rfl,h,k⟩
open RowKit Mem in
theorem _root_.Go.Mem.aZ.carry {w0 w w':World} {v:Value} {n:Nat} (_:aZ w0 v n) (k:aZ w v n) (hb:Bw w w'):aZ w' v n:=k.later hb
theorem gI.of {w:World} {pa pb:Option Addr} {l ca m cb:Nat} {q:Rat} (h:Mem.aZ w (ah pa l ca) q.num.natAbs) (k:Mem.aZ w (ah pb m cb) q.den):gI w (aB #[ah pa l ca,ak (decide (q.num<0)),ah pb m cb]) q:=⟨pa,l,ca,pb,m,cb,rfl,h,k⟩
def mQ (k:Nat) (q:Rat):Prop:=sz 1000000000 q.num.natAbs≤k∧sz 1000000000 q.den≤k
theorem ay7:kL 600≤1000000000^67:=by decide+kernel
theorem ni {n:Nat} (h:ou n=true):sz 1000000000 n≤67:=by
 unfold ou at h;rw [decide_eq_true_iff] at h;exact dF zo 67 n (aP h ay7)
theorem lg {q:Rat} (h:jk q=true):mQ 67 q:=by
 unfold jk at h;rw [aF] at h;exact ⟨ni h.1,ni h.2⟩
theorem mQ.mono {k m:Nat} {q:Rat} (h:mQ k q) (hk:k≤m):mQ m q:=⟨au h.1 hk,au h.2 hk⟩
theorem jC {a b:Nat}:sz 1000000000 (a / b)≤sz 1000000000 a:=iJ zo (Nat.div_le_self a b)
theorem Ju {a b:Nat} (hb:0<b):sz 1000000000 (a.gcd b)≤sz 1000000000 b:=iJ zo (Nat.le_of_dvd hb (Nat.gcd_dvd_right _ _))
theorem oC (z:Int) (n:Nat):sz 1000000000 (z*n).natAbs≤sz 1000000000 z.natAbs+sz 1000000000 n:=by
 rw [Int.natAbs_mul,Int.natAbs_natCast];exact mR zo _ _
theorem yC (z y:Int):sz 1000000000 (z*y).natAbs≤sz 1000000000 z.natAbs+sz 1000000000 y.natAbs:=by
 rw [Int.natAbs_mul];exact mR zo _ _
theorem A8 (z y:Int):sz 1000000000 (z+y).natAbs≤max (sz 1000000000 z.natAbs) (sz 1000000000 y.natAbs)+1 :=
 au (iJ zo (Int.natAbs_add_le z y)) (AZ zo _ _)
theorem CS {k:Nat} {p q:Rat} (h:mQ k p) (i:mQ k q):mQ (2*k+1) (p+q):=by
 obtain ⟨h1,h2⟩:=Jc p q;have hp:=p.den_pos;have hq:=q.den_pos;have a1:=oC p.num (q.den / p.den.gcd q.den);have a2:=oC q.num (p.den / p.den.gcd q.den);have a3:=A8 (p.num*((q.den / p.den.gcd q.den:Nat):Int)) (q.num*((p.den / p.den.gcd q.den:Nat):Int));have b1:= @jC q.den (p.den.gcd q.den);have b2:= @jC p.den (p.den.gcd q.den);obtain ⟨i1,i2⟩:=i;obtain ⟨j1,j2⟩:=h
 constructor
 ·rw [h1,Int.natAbs_ediv_of_dvd (by rw [← Int.dvd_natAbs,Int.ofNat_dvd];exact Nat.gcd_dvd_left _ _),Int.natAbs_natCast];refine au jC ?_;omega
 ·rw [h2];refine au (mR zo _ _) ?_;have b3:= @jC q.den ((p.num*((q.den / p.den.gcd q.den:Nat):Int)+q.num*((p.den / p.den.gcd q.den:Nat):Int)).natAbs.gcd (p.den.gcd q.den));omega
theorem CK {k:Nat} {p q:Rat} (h:mQ k p) (i:mQ k q):mQ (2*k) (p*q):=by
 obtain ⟨h1,h2⟩:=IJ p q;obtain ⟨i1,i2⟩:=i;obtain ⟨j1,j2⟩:=h
 constructor
 ·rw [h1];refine au (yC _ _) ?_;rw [Int.natAbs_ediv_of_dvd (by rw [← Int.dvd_natAbs,Int.ofNat_dvd];exact Nat.gcd_dvd_left _ _),Int.natAbs_ediv_of_dvd (by rw [← Int.dvd_natAbs,Int.ofNat_dvd];exact Nat.gcd_dvd_left _ _),Int.natAbs_natCast,Int.natAbs_natCast];have:= @jC p.num.natAbs (p.num.natAbs.gcd q.den);have:= @jC q.num.natAbs (q.num.natAbs.gcd p.den);omega
 ·rw [h2];refine au (mR zo _ _) ?_;have:= @jC p.den (q.num.natAbs.gcd p.den);have:= @jC q.den (p.num.natAbs.gcd q.den);omega
theorem CJ {k:Nat} {q:Rat} (h:mQ k q):mQ k (-q):=by
 unfold mQ at *;rw [Rat.neg_num,Rat.neg_den,Int.natAbs_neg];exact h
theorem Qo {k:Nat} {q:Rat} (h:mQ k q) (h0:q≠0):mQ k q⁻¹:=by
 have hn:q.num≠0:=fun e=>h0 (Rat.num_eq_zero.1 e);unfold mQ at *;rw [Rat.num_inv,Rat.den_inv,if_neg hn,Int.natAbs_mul,Int.natAbs_natCast,Int.natAbs_sign_of_ne_zero hn,iL];exact ⟨h.2,h.1⟩
end Go.fG
namespace Go.fG
open Go Go.Num Go.Dec Lib
abbrev FrI:=Fr × Int
def Dk (a:Fr):Int:=if (rd a).isSome then 0 else 20
def jQ (a:Fr):Int × Int:=match rd a with
 | some q=>(gZ q 0,0)
 | none=>(0,20)
def tQ (a b:Fr):Int × Int:=match rd a,rd b with
 | some p,some q=>(gZ p q,0)
 | _,_=>(0,20)
def bin (f:Rat→Rat→Fr × Int) (a b:Fr):Fr × Int:=match rd a,rd b with
 | some p,some q=>f p q
 | _,_=>(Fr.no,20)
def wS (a b:Fr):Fr × Int:=bin (fun p q=>wr (p+q)) a b
def yE (a b:Fr):Fr × Int:=bin (fun p q=>wr (p - q)) a b
def pO (a b:Fr):Fr × Int:=bin (fun p q=>wr (p*q)) a b
def nP (a b:Fr):Fr × Int:=bin (fun p q=>if q=0 then (Fr.no,7) else wr (p / q)) a b
def lI (n d:Int):Fr × Int:=if d=0 then (Fr.no,7) else wr (n / d)
theorem kH {f:Rat→Rat→Fr × Int} {a b:Fr} {p q:Rat} (h:rd a=some p) (k:rd b=some q):bin f a b=f p q:=by unfold bin;rw [h,k]
theorem rU {f:Rat→Rat→Fr × Int} {a b:Fr} (h:rd a=none):bin f a b=(Fr.no,20):=by unfold bin;rw [h]
theorem rT {f:Rat→Rat→Fr × Int} {a b:Fr} (k:rd b=none):bin f a b=(Fr.no,20):=by
 unfold bin;cases rd a with
 | none=>rfl
 | some p=>simp [k]
theorem QU (n d:Int) (h:d≠0):mkRat (Mem.iR n.natAbs (!(decide (n<0) == decide (d<0)))) d.natAbs=(n:Rat) / (d:Rat):=by
 rw [← Rat.divInt_eq_div]
 rcases Int.lt_trichotomy d 0 with hd|hd|hd
 ·rw [← Rat.neg_divInt_neg];obtain ⟨k,rfl⟩:∃ k:Nat,d= -(k:Int):=⟨d.natAbs,by omega⟩;rw [Int.neg_neg,Rat.divInt_ofNat,Int.natAbs_neg,Int.natAbs_natCast]
  congr 1
  unfold Mem.iR
  by_cases hn:n<0
  ·simp [hn,hd];omega
  ·simp [hn,hd];omega
 ·exact absurd hd h
 ·obtain ⟨k,rfl⟩:∃ k:Nat,d=(k:Int):=⟨d.natAbs,by omega⟩;rw [Rat.divInt_ofNat,Int.natAbs_natCast]
  congr 1
  have hd2:¬ (k:Int)<0:=by omega
  unfold Mem.iR
  by_cases hn:n<0
  ·simp [hn,hd2];omega
  ·simp [hn,hd2];omega
theorem rZ (s t:ByteArray) (e:Int):Fr.res (⟨s,t⟩,e)= aD #[aB #[O s,O t],Z I e]:=rfl
end Go.fG
namespace Go.Proofs
open Go Go.RowKit Go.SW Go.Num Go.Mem Go.fG
def bO {α β:Type} (z:β) (x:α × Int) (f:α→β × Int):β × Int:=if x.2=0 then f x.1 else (z,x.2)
def qg {α:Type} (x:α):α × Int:=(x,0)
def pW (k:Int):Unit × Int:=((),k)
def iD {α:Type} (x:α × Int) (v:α) (k:Int):Prop:=x.2=k∧(k=0→x.1=v)
theorem iD.of {α:Type} {x:α × Int} {v:α} {k:Int} (h:x=(v,k)):iD x v k:=by subst h;exact ⟨rfl,fun _=>rfl⟩
theorem iD.pos {α:Type} {a b:α × Int} {v:α} {k:Int} {p:Prop} [Decidable p] (h:iD (if p then a else b) v k) (hp:p):iD a v k:=by rwa [if_pos hp] at h
theorem iD.neg {α:Type} {a b:α × Int} {v:α} {k:Int} {p:Prop} [Decidable p] (h:iD (if p then a else b) v k) (hp:¬ p):iD b v k:=by rwa [if_neg hp] at h
theorem aQ {α β:Type} {z:β} {x:α × Int} {f:α→β × Int} {y:α} (h:x=(y,0)):bO z x f=f y:=by subst h;rfl
theorem Rw {α β:Type} {z:β} {x:α × Int} {f:α→β × Int} (h:x.2≠0):bO z x f=(z,x.2):=if_neg h
theorem aG {α β:Type} {z:β} {x:α × Int} {f:α→β × Int} {r:β} {k:Int} (h:iD (bO z x f) r k):∃ y k1,x=(y,k1)∧((k1=0∧iD (f y) r k)∨(k1≠0∧k=k1)):=by
 obtain ⟨y,k1⟩:=x;refine ⟨y,k1,rfl,?_⟩
 by_cases h0:k1=0
 ·subst h0;exact .inl ⟨rfl,h⟩
 ·rw [Rw (x:=(y,k1)) h0] at h;exact .inr ⟨h0,h.1.symm⟩
theorem yB {α:Type} {x:α × Int} {r:α} {k:Int} (h:iD x r k):∃ y k1,x=(y,k1)∧((k1=0∧iD (qg y) r k)∨(k1≠0∧k=k1)):=by
 obtain ⟨y,k1⟩:=x;refine ⟨y,k1,rfl,?_⟩
 by_cases h0:k1=0
 ·subst h0;exact .inl ⟨rfl,h⟩
 ·exact .inr ⟨h0,h.1.symm⟩
def KH (T:Int→Ending) (w:World) (v:Value) (k:Int) (e:Ending) (w':World):Prop:=Bw w w'∧((k=0∧e= aj v)∨(k≠0∧e=T k))
def Qg (w:World) (v z:Value) (k:Int) (e:Ending) (w':World):Prop:=Bw w w'∧((k=0∧e= aj (aD #[v,Z I 0]))∨(k≠0∧e= aj (aD #[z,Z I k])))
end Go.Proofs
namespace Go.Proofs
open Go.Shelf
def Tryz.lays169_ren:Go.Shelf.Ren:=⟨fun|169=>229|n=>n,fun|70=>287|9=>9|0=>0|72=>290|37=>288|127=>332|3=>3|5=>5|n=>n,fun|n=>n⟩
theorem Tryz.lays169:Go.Proofs.Lays.n169 Tryz.prog Tryz.lays169_ren:={
 mixed:=by kernel_rfl
 f169:=Tryz.func229.trans (congrArg some zk)
 t0:=Tryz.underlying0
 a0:=Tryz.isAgg0
 z0:=Tryz.sizeOf0
 v0:=Tryz.zeroValue0
 t3:=Tryz.underlying3
 a3:=Tryz.isAgg3
 z3:=Tryz.sizeOf3
 v3:=Tryz.zeroValue3
 t9:=Tryz.underlying9
 a9:=Tryz.isAgg9
 z9:=Tryz.sizeOf9
 v9:=Tryz.zeroValue9
 t37:=Tryz.underlying288
 a37:=Tryz.isAgg288
 z37:=Tryz.sizeOf288
 v37:=Tryz.zeroValue288
 t70:=Tryz.underlying287
 a70:=Tryz.isAgg287
 z70:=Tryz.sizeOf287
 v70:=Tryz.zeroValue287
 t72:=Tryz.underlying290
 a72:=Tryz.isAgg290
 z72:=Tryz.sizeOf290
 v72:=Tryz.zeroValue290
 t127:=Tryz.underlying332
 a127:=Tryz.isAgg332
 z127:=Tryz.sizeOf332
 v127:=Tryz.zeroValue332 }
theorem Tryz.Builder_Extra_169:Builder.Extra Tryz.prog Tryz.lays169_ren:={
 sizeBuilder:=by kernel_rfl
 liesBuilder:=by kernel_rfl
 t5:=Tryz.underlying5
 a5:=Tryz.isAgg5
 z5:=Tryz.sizeOf5
 v5:=Tryz.zeroValue5
 infoByte:=by kernel_rfl
 cellsByte:=by kernel_rfl
 sizeByte:=by kernel_rfl
 neB5:=by decide }
open Go.RowKit in
theorem Tryz.Builder_String_any (B b:Nat) (l:List UInt8) (w:World) (h:Lib.IsBuilder 290 5 B b (Lib.byteCells l) w) (hBw:B≤w.heap.size) :
  Calls Tryz.prog 229 #[ay (some ⟨b,0,none⟩)] w fun e w'=>e= aj (O ⟨l.toArray⟩)∧Below B w w':=Any.Builder_String_any Tryz.lays169 Tryz.Builder_Extra_169 B b l w h hBw
def Tryz.laysM171_ren:Go.Shelf.Ren:=⟨fun|171=>149|243=>223|246=>277|283=>299|284=>300|285=>301|286=>302|129=>251|317=>312|318=>313|319=>314|320=>315|337=>320|338=>321|n=>n,fun|3=>3|9=>9|2=>2|4=>4|171=>345|0=>0|53=>168|37=>288|5=>5|173=>347|212=>360|51=>22|20=>20|213=>361|46=>249|232=>373|233=>374|n=>n,fun|17=>4|18=>8|19=>9|n=>n⟩
theorem Tryz.laysM171:Go.Proofs.LaysM.n171 Tryz.prog Tryz.laysM171_ren:={
 mixed:=by kernel_rfl
 f129:=Tryz.func251.trans (congrArg some zk)
 f171:=Tryz.func149.trans (congrArg some zk)
 f243:=Tryz.func223.trans (congrArg some zk)
 f246:=Tryz.func277.trans (congrArg some zk)
 f283:=Tryz.func299.trans (congrArg some zk)
 f284:=Tryz.func300.trans (congrArg some zk)
 f285:=Tryz.func301.trans (congrArg some zk)
 f286:=Tryz.func302.trans (congrArg some zk)
 f317:=Tryz.func312.trans (congrArg some zk)
 f318:=Tryz.func313.trans (congrArg some zk)
 f319:=Tryz.func314.trans (congrArg some zk)
 f320:=Tryz.func315.trans (congrArg some zk)
 f337:=Tryz.func320.trans (congrArg some zk)
 f338:=Tryz.func321.trans (congrArg some zk)
 t0:=Tryz.underlying0
 a0:=Tryz.isAgg0
 z0:=Tryz.sizeOf0
 v0:=Tryz.zeroValue0
 t2:=Tryz.underlying2
 a2:=Tryz.isAgg2
 z2:=Tryz.sizeOf2
 v2:=Tryz.zeroValue2
 t3:=Tryz.underlying3
 a3:=Tryz.isAgg3
 z3:=Tryz.sizeOf3
 v3:=Tryz.zeroValue3
 t4:=Tryz.underlying4
 a4:=Tryz.isAgg4
 z4:=Tryz.sizeOf4
 v4:=Tryz.zeroValue4
 t5:=Tryz.underlying5
 a5:=Tryz.isAgg5
 z5:=Tryz.sizeOf5
 v5:=Tryz.zeroValue5
 t9:=Tryz.underlying9
 a9:=Tryz.isAgg9
 z9:=Tryz.sizeOf9
 v9:=Tryz.zeroValue9
 t20:=Tryz.underlying20
 a20:=Tryz.isAgg20
 z20:=Tryz.sizeOf20
 v20:=Tryz.zeroValue20
 t37:=Tryz.underlying288
 a37:=Tryz.isAgg288
 z37:=Tryz.sizeOf288
 v37:=Tryz.zeroValue288
 t46:=Tryz.underlying249
 a46:=Tryz.isAgg249
 z46:=Tryz.sizeOf249
 v46:=Tryz.zeroValue249
 t51:=Tryz.underlying22
 a51:=Tryz.isAgg22
 z51:=Tryz.sizeOf22
 v51:=Tryz.zeroValue22
 t53:=Tryz.underlying168
 a53:=Tryz.isAgg168
 z53:=Tryz.sizeOf168
 v53:=Tryz.zeroValue168
 t171:=Tryz.underlying345
 a171:=Tryz.isAgg345
 z171:=Tryz.sizeOf345
 v171:=Tryz.zeroValue345
 t173:=Tryz.underlying347
 a173:=Tryz.isAgg347
 z173:=Tryz.sizeOf347
 v173:=Tryz.zeroValue347
 t212:=Tryz.underlying360
 a212:=Tryz.isAgg360
 z212:=Tryz.sizeOf360
 v212:=Tryz.zeroValue360
 t213:=Tryz.underlying361
 a213:=Tryz.isAgg361
 z213:=Tryz.sizeOf361
 t232:=Tryz.underlying373
 a232:=Tryz.isAgg373
 z232:=Tryz.sizeOf373
 v232:=Tryz.zeroValue373
 t233:=Tryz.underlying374
 a233:=Tryz.isAgg374
 z233:=Tryz.sizeOf374
 v233:=Tryz.zeroValue374
 g17:=by kernel_rfl
 g18:=by kernel_rfl
 g19:=by kernel_rfl
 i0:=by kernel_rfl
 i2:=by kernel_rfl
 i3:=by kernel_rfl
 i4:=by kernel_rfl
 i5:=by kernel_rfl
 i9:=by kernel_rfl
 i20:=by kernel_rfl
 i37:=by kernel_rfl
 i46:=by kernel_rfl
 i51:=by kernel_rfl
 i53:=by kernel_rfl
 i171:=by kernel_rfl
 i173:=by kernel_rfl
 i212:=by kernel_rfl
 i232:=by kernel_rfl
 i233:=by kernel_rfl
 m17:=by kernel_rfl
 m18:=by kernel_rfl
 m19:=by kernel_rfl }
open Go.RowKit Go.Sort Go.Lib in
theorem Tryz.strconv_Itoa (n : Int) (h0 : -9223372036854775808 ≤ n) (h1 : n ≤ 9223372036854775807) (w : World) (htab : Lib.TabIs Tryz.prog w "internal/strconv.uint64pow10" .u64 Lib.pow10Tab) :
  Calls Tryz.prog 149 #[Z I n] w fun e w'=>e= aj (O ⟨(Lib.itoa n).toArray⟩)∧∃ k os,w'=grow (w.drewN k) os:=Any.strconv_Itoa Tryz.laysM171 n h0 h1 w htab
end Go.Proofs
namespace Go.Proofs.ko
open Go Go.RowKit Go.SW Go.Num Go.Mem Go.Proofs
def Pow (w : World) : Prop := Lib.TabIs Tryz.prog w "internal/strconv.uint64pow10" .u64 Lib.pow10Tab
theorem Pow.later {w w':World} (h:Pow w) (hb:Bw w w'):Pow w':=Lib.tabBelow_of_tabIs h w' hb
theorem below_grow (w:World) (k:Nat) (os:Array Obj):Below w.heap.size w (Go.Sort.grow (w.drewN k) os):=by
 unfold Go.Sort.grow;refine ⟨rfl,rfl,rfl,?_,fun i hi=>?_⟩
 ·simp
 ·simp only [World.drewN];rw [Array.getElem?_append_left hi]
theorem infoByte:(Tryz.prog.info? 5).map (fun i=>(i.zero,i.size,i.bytes))=some (some (.int .u8 0),1,1):=by kernel_rfl
theorem QZ:(Tryz.prog.info? 290).map (·.size)=some 2:=by kernel_rfl
abbrev P8 (B b:Nat) (bs:List Value) (w:World):Prop:=Lib.IsBuilder 290 5 B b bs w
abbrev AtB (B b:Nat) (bs:List Value) (w:World):Prop:=Lib.BuilderAt 290 5 B b (ay (some ⟨b,0,none⟩)) bs w
theorem G8 {w w':World} (h:Bw w w'):w.grownBy w' none:=⟨h.os,h.tape,h.output,h.size,fun i hi _=>h.block i hi⟩
theorem I8 {p:Value} {B b:Nat} {bs:List Value} {w w':World} (h:Lib.BuilderAt 290 5 B b p bs w) (hb:Bw w w'):Lib.BuilderAt 290 5 B b p bs w':=by
 have hl:=h.lt;obtain ⟨hB,v,hbk,hown,hne⟩:=h;refine ⟨hB,v,(hb.block _ hl).trans hbk,hown.kept (G8 hb) ?_,hne⟩;cases h:v.ownBlock with
 | none=>exact .inl rfl
 | some k=>exact .inr zi
theorem P8.later {B b:Nat} {bs:List Value} {w w':World} (h:P8 B b bs w) (hb:Bw w w'):P8 B b bs w':=by
 rcases h with h|h
 ·exact .inl (I8 h hb)
 ·exact .inr (I8 h hb)
theorem V7 (n:Nat):Lib.itoa (n:Int)=Lib.decDigits n:=by
 unfold Lib.itoa;rw [if_neg zo,Int.toNat_natCast]
theorem QW (n:Nat) (h:n<1000000000) (w:World) (ht:Pow w) :
  Calls Tryz.prog 149 #[Z I n] w fun e w'=>e= aj (O ⟨(Lib.decDigits n).toArray⟩)∧Bw w w':=by
 refine (Tryz.strconv_Itoa n zo zo w ht).mono ?_;rintro e w' ⟨rfl,k,os,rfl⟩;rw [V7];exact ⟨rfl,below_grow _ _ _⟩
theorem FW (b:Nat) (w:World) (h0:w.cell? ⟨b,0,none⟩=some (.pointer (some ⟨b,0,none⟩))) :
  Calls Tryz.prog 278 #[ay (some ⟨b,0,none⟩)] w fun e w'=>e= aj (aD #[])∧w'=w:=by
 obtain ⟨j,hj,_⟩:=Option.map_eq_some_iff.1 QZ;go_enter Tryz.func278,Tryz.ntmps278
 go_wp2
 rw [Lib.run_neq_ptr_same w _ Tryz.underlying287 hj]
 go_wp2
 go_end0
 exact ⟨rfl,rfl⟩
theorem Cw (b:Nat) (w:World) (h0:w.cell? ⟨b,0,none⟩=some (.pointer none)) (hsh:w.shape? b=some (290,2)) (hfz:w.frozen? ⟨b,0,none⟩=false) :
  Calls Tryz.prog 278 #[ay (some ⟨b,0,none⟩)] w fun e w'=>e= aj (aD #[])∧w'=w.setCell ⟨b,0,none⟩ (ay (some ⟨b,0,none⟩)):=by
 obtain ⟨j,hj,hjs⟩:=Option.map_eq_some_iff.1 QZ;go_enter Tryz.func278,Tryz.ntmps278
 go_wp2
 rw [Lib.run_to_unsafe w ⟨b,0,none⟩ Tryz.underlying287 Tryz.underlying349 hj (by rw [hjs];decide) hsh (Nat.zero_lt_succ 1)];simp only [Result.andThen];rw [Oper.upon_value]
 go_wp2
 rw [run_callFunc_extern Tryz.func303 zk zk zk (e:=Extern.AbiNoEscape.same) zk];rw [Lib.run_noEscape];simp only [Result.andThen];rw [Oper.upon_value]
 go_wp2
 rw [Lib.run_from_unsafe w ⟨b,0,none⟩ Tryz.underlying349 Tryz.underlying287 hj hsh zk];simp only [Result.andThen];rw [Oper.upon_value]
 go_wp2
 go_end0
 exact ⟨rfl,rfl⟩
theorem Al (B b:Nat) (bs:List Value) (w:World) (h:P8 B b bs w) :
  Calls Tryz.prog 278 #[ay (some ⟨b,0,none⟩)] w fun e w'=>e= aj (aD #[])∧(AtB B b bs w'∧Below B w w'):=by
 rcases h with h|h
 ·refine (Cw b w h.cell0 h.shape h.frozen0).mono ?_;rintro e w' ⟨rfl,rfl⟩;exact ⟨rfl,h.used _,(Below.refl B w).setCell (p:=⟨b,0,none⟩) h.1 _⟩
 ·refine (FW b w h.cell0).mono ?_;rintro e w' ⟨rfl,rfl⟩;exact ⟨rfl,h,Below.refl B _⟩
theorem Ji (B b:Nat) (bs:List Value) (c:Int) (w:World) (h:P8 B b bs w) (hlen:bs.length+1≤140737488355328) (hBw:B≤w.heap.size) :
  Calls Tryz.prog 227 #[ay (some ⟨b,0,none⟩),Z .u8 c] w fun e w'=>e= aj .nilIface∧(AtB B b (bs++[Z .u8 c]) w'∧Below B w w'):=by
 obtain ⟨i0,hi,hz0,hz1,hz2⟩:=info_parts infoByte;go_enter Tryz.func227,Tryz.ntmps227
 go_wp2_with (go_at_call 278;refine (Al B b bs _ h).mono ?_;rintro e w1 ⟨rfl,h1,hb1⟩;refine Hid.out ?_)
 obtain ⟨hB,v,hbk,hown,hne⟩:=h1;have c0:w1.cell? ⟨b,0,none⟩=some (.pointer (some ⟨b,0,none⟩)):=by rw [Lib.cell_of_heap hbk];rfl
 have c1:w1.cell? ⟨b,1,none⟩=some v:=by rw [Lib.cell_of_heap hbk];rfl
 refine zh ?_;go_wp2_with (at_builtin;refine wpList_append_own _ rfl _ _ 288 rfl B 5 i0 (Z .u8 0) 1 1 Tryz.underlying288 hi hz0 hz1 hz2 rfl zd _ _ _ rfl (hown.alloc _) ⟨w1.heap.size,0,none⟩ 1 1 [Z .u8 c] rfl rfl ?c1 ?c2 ?c3 ?c4 ?c5 ?_)
 case c1 =>
  intro j u hj
  match j,hj with
  | 0,hj=>simp at hj;subst hj;simp [Addr.add]
 case c2=>intro u hu;simp at hu;subst hu;rfl
 case c3=>unfold maxLen;omega
 case c4=>omega
 case c5=>have:=hb1.size;simp;omega
 intro v' w2 hown' hgrow _
 have hlt:b<w1.heap.size:=by
  rcases aH b w1.heap.size with h'|h'
  ·exact h'
  ·simp [bQ h'] at hbk
 have hb2:w2.heap[b]? =some (.cells #[ay (some ⟨b,0,none⟩),v] 290 (0,0)):=by
  rw [hgrow.block b (by simp;omega) (fun e=>hne e.symm),Lib.alloc_old w1 _ b hlt];exact hbk
 have d0:w2.cell? ⟨b,0,none⟩=some (.pointer (some ⟨b,0,none⟩)):=by rw [Lib.cell_of_heap hb2];rfl
 have d1:w2.cell? ⟨b,1,none⟩=some v:=by rw [Lib.cell_of_heap hb2];rfl
 have f1:w2.frozen? ⟨b,1,none⟩=false:=Lib.frozen_of_heap hb2 1
 obtain ⟨g,cap,rfl⟩:∃ g cap,v'= ah (some ⟨g,0,none⟩) (bs.length+1) cap:=by
  rcases hown'.2 with ⟨_,h0⟩|⟨g,cap,cur,hv,_⟩
  ·omega
  ·exact ⟨g,cap,hv⟩
 go_wp2
 go_ret
 refine ⟨rfl,?_,?_⟩
 ·exact Lib.BuilderAt.put (T:=290) (e:=5) hB hb2 (bs':=bs++[Z .u8 c]) (by simpa using hown') zd
 ·exact ((hb1.alloc (by have:=hb1.size;omega) _).grown hgrow (by have:=hb1.size;simp;omega) (fun k hk=>(hown.lt k hk).1)).setCell (p:=⟨b,1,none⟩) hB _
theorem Dp (B b:Nat) (bs:List Value) (s:ByteArray) (w:World) (h:P8 B b bs w) (hlen:bs.length+s.size≤140737488355328) (hBw:B≤w.heap.size) :
  Calls Tryz.prog 228 #[ay (some ⟨b,0,none⟩),O s] w fun e w'=>e= aj (aD #[Z I s.size,.nilIface])∧(AtB B b (bs++Lib.strCells s) w'∧Below B w w'):=by
 obtain ⟨i0,hi,hz0,hz1,hz2⟩:=info_parts infoByte;go_enter Tryz.func228,Tryz.ntmps228
 go_wp2_with (go_at_call 278;refine (Al B b bs _ h).mono ?_;rintro e w1 ⟨rfl,h1,hb1⟩;refine Hid.out ?_)
 obtain ⟨hB,v,hbk,hown,hne⟩:=h1;have c0:w1.cell? ⟨b,0,none⟩=some (.pointer (some ⟨b,0,none⟩)):=by rw [Lib.cell_of_heap hbk];rfl
 have c1:w1.cell? ⟨b,1,none⟩=some v:=by rw [Lib.cell_of_heap hbk];rfl
 refine zh ?_;go_wp2_with (at_builtin;refine Lib.wpList_append_own_string _ rfl _ _ 288 9 rfl B 5 i0 Tryz.underlying288 Tryz.underlying9 hi hz0 hz1 hz2 _ _ _ rfl hown s rfl ?c3 ?c4 ?c5 ?_)
 case c3=>unfold maxLen;omega
 case c4=>omega
 case c5=>have:=hb1.size;omega
 intro v' w2 hown' hgrow _
 have hlt:b<w1.heap.size:=by
  rcases aH b w1.heap.size with h'|h'
  ·exact h'
  ·simp [bQ h'] at hbk
 have hb2:w2.heap[b]? =some (.cells #[ay (some ⟨b,0,none⟩),v] 290 (0,0)):=by
  rw [hgrow.block b hlt (fun e=>hne e.symm)];exact hbk
 have d0:w2.cell? ⟨b,0,none⟩=some (.pointer (some ⟨b,0,none⟩)):=by rw [Lib.cell_of_heap hb2];rfl
 have d1:w2.cell? ⟨b,1,none⟩=some v:=by rw [Lib.cell_of_heap hb2];rfl
 have f1:w2.frozen? ⟨b,1,none⟩=false:=Lib.frozen_of_heap hb2 1
 obtain ⟨ao,n',cap,rfl⟩:∃ ao n' cap,v'= ah ao n' cap:=by
  rcases hown'.2 with ⟨hv,_⟩|⟨g,cap,cur,hv,_⟩
  ·exact ⟨_,_,_,hv⟩
  ·exact ⟨_,_,_,hv⟩
 go_wp2
 go_ret2
 refine ⟨rfl,?_,?_⟩
 ·exact Lib.BuilderAt.put (T:=290) (e:=5) hB hb2 (bs':=bs++Lib.strCells s) (by simpa [Lib.strCells_length] using hown') zd
 ·exact (hb1.grown hgrow (by have:=hb1.size;omega) (fun k hk=>(hown.lt k hk).1)).setCell (p:=⟨b,1,none⟩) hB _
end Go.Proofs.ko
