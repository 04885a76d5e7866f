/- Lemmas for the proof. No condition. -/
import Derived.Test.YtneajphgfdlmhaaGreatDoorQB03
import Derived.Shelf.Small.Bits
import Derived.Shelf.Strconv.Itoa0
import Derived.Shelf.Strconv.ParseUint10
import Derived.Shelf.Strconv.ParseUint10Any
import Derived.Shelf.Strconv.ParseInt10
import Derived.Shelf.Strconv.ParseUint10b64
import Derived.Shelf.Strconv.ParseUint10At
import Derived.Shelf.Strconv.ParseInt10At64
import Derived.Shelf.Strconv.ParseInt10All
import Derived.Shelf.Strconv.ParseIntPublic10
import Derived.KernelRfl
set_option linter.unusedVariables false
set_option linter.unusedSimpArgs false
set_option maxRecDepth 100000
set_option maxHeartbeats 16000000
open Array renaming getD_eq_getD_getElem? → iU
open Bool renaming and_eq_true → aK, eq_iff_iff → iN
open Go.Ending renaming returned → aj
open Go.IntKind renaming i64 → I
open Go.Value renaming agg → au, bool → ak, int → Z, pointer → aB, slice → ah, string → O, tuple → aG
open List renaming all_cons → gW, getElem?_append_left → eO, getElem?_append_right → dZ, length_cons → bg, range → dz
open Nat renaming add_zero → fJ, le_refl → aD, le_trans → ay, lt_of_lt_of_le → aI, one_mul → gQ, pow_le_pow_right → bI
namespace Go.gD
open Go Go.Num Go.Dec Lib
theorem FL (p q:Rat):let g:=p.den.gcd q.den
  let top:=p.num*((q.den / g:Nat):Int)+q.num*((p.den / g:Nat):Int)
  let h:=top.natAbs.gcd g
  (p+q).num=top / h∧(p+q).den=p.den / g*(q.den / h):=by
 intro g top h;have e:p+q=Rat.add p q:=rfl;rw [e];unfold Rat.add;simp only;have hgd:g ∣ q.den:=Nat.gcd_dvd_right _ _;have hhg:h ∣ g:=Nat.gcd_dvd_right _ _;have hh:(p.den / g*q.den) / h=p.den / g*(q.den / h):=Nat.mul_div_assoc _ (Nat.dvd_trans hhg hgd);split
 ·rename_i hg;have hg':g=1:=hg;have h1:h=1:=Nat.dvd_one.1 (hg' ▸ hhg);simp only [hg',h1,Nat.div_one,top,Int.natCast_one,Int.ediv_one,and_self]
 ·rw [Rat.maybeNormalize_eq];simp only;exact ⟨rfl,hh⟩
theorem Fq (p q:Rat):let g:=p.num.natAbs.gcd q.den
  let h:=q.num.natAbs.gcd p.den
  (p*q).num=(p.num / g)*(q.num / h)∧(p*q).den=(p.den / h)*(q.den / g):=by
 intro g h;have e:p*q=Rat.mul p q:=rfl;rw [e];unfold Rat.mul;simp only [Int.divExact_eq_ediv,Nat.divExact_eq_div];exact ⟨rfl,rfl⟩
structure Fr where
 n:ByteArray
 d:ByteArray
deriving DecidableEq
def Fr.v (a:Fr):Value:=au #[O a.n,O a.d]
def Fr.of (q:Rat):Fr:=⟨⟨(Lib.itoa q.num).toArray⟩,⟨(Lib.itoa q.den).toArray⟩⟩
def Fr.no:Fr:=⟨⟨#[]⟩,⟨#[]⟩⟩
def jZ (k:Nat):Nat:=10^k
def kI (n:Nat):Bool:=decide (n<jZ 600)
def xO (q:Rat):Bool:=kI q.num.natAbs&&kI q.den
theorem P6 {n k:Nat} (hk:0<k):n<jZ k↔(decDigits n).length≤k :=
 ⟨fun h=>lS k n hk h,fun h=>aI (Db n) (bI zo h)⟩
theorem fK {n:Nat}:kI n=true↔(decDigits n).length≤600:=by
 unfold kI;rw [decide_eq_true_iff];exact P6 zo
def rd (a:Fr):Option Rat :=
 match whole a.n.data.toList,whole a.d.data.toList with
 | some n,some d=>if h:0<d∧n.natAbs.Coprime d.natAbs then some ⟨n,d.natAbs,by omega,h.2⟩ else none
 | _,_=>none
theorem Dk {a b:ByteArray} (h:a.data.toList=b.data.toList):a=b:=by
 cases a;cases b
 simp only [ByteArray.mk.injEq];exact Array.toList_inj.1 h
theorem Oq {q:Rat} (h:xO q=true):rd (Fr.of q)=some q:=by
 unfold xO at h;rw [aK,fK,fK] at h;have e1:whole (Fr.of q).n.data.toList=some q.num:=fT h.1;have h2:(decDigits ((q.den:Nat):Int).natAbs).length≤600:=(Int.natAbs_natCast q.den).symm ▸ h.2;have e2:whole (Fr.of q).d.data.toList=some ((q.den:Nat):Int):=fT (z:=((q.den:Nat):Int)) h2;unfold rd;rw [e1,e2];have hd:=q.den_pos;simp only [Int.natAbs_natCast];rw [dif_pos ⟨by omega,q.reduced⟩]
theorem nT {a:Fr} {q:Rat} (h:rd a=some q):a=Fr.of q∧xO q=true:=by
 unfold rd at h;split at h
 ·rename_i n d e1 e2;split at h
  ·rename_i hk;simp only [Option.some.injEq] at h;subst h;obtain ⟨h1,h2⟩:=nE e1;obtain ⟨h3,h4⟩:=nE e2;refine ⟨?_,?_⟩
   ·cases a
    unfold Fr.of;simp only [Fr.mk.injEq] at *;refine ⟨Dk h1,Dk ?_⟩;rw [h3,show ((d.natAbs:Nat):Int)=d by omega]
   ·unfold xO;rw [aK,fK,fK];exact ⟨h2,h4⟩
  ·cases h
 ·cases h
theorem QH {q:Rat} (h:q≠0):q⁻¹.num=Mem.iV q.den (decide (q.num<0))∧q⁻¹.den=q.num.natAbs:=by
 have hn:q.num≠0:=fun e=>h (Rat.num_eq_zero.1 e);rw [Rat.num_inv,Rat.den_inv,if_neg hn];refine ⟨?_,rfl⟩;unfold Mem.iV
 rcases Int.lt_trichotomy q.num 0 with h1|h1|h1
 ·rw [Int.sign_eq_neg_one_of_neg h1];simp [h1]
 ·exact absurd h1 hn
 ·rw [Int.sign_eq_one_of_pos h1];have:¬ q.num<0:=by omega
  simp [this]
theorem BM {n:Int} {g:Nat} (h:g ∣ n.natAbs):Mem.iV (n.natAbs / g) (decide (n<0))=n / (g:Int):=by
 have h2:((g:Nat):Int) ∣ n:=by rwa [← Int.dvd_natAbs,Int.ofNat_dvd]
 have:=Mem.IY h2;rw [Int.natAbs_natCast,decide_eq_false (show ¬ ((g:Nat):Int)<0 by omega),Bool.bne_false] at this;exact this
theorem MZ (p q:Rat):(p+q).num=Mem.iV ((p.num*((q.den / p.den.gcd q.den:Nat):Int)+q.num*((p.den / p.den.gcd q.den:Nat):Int)).natAbs / (p.num*((q.den / p.den.gcd q.den:Nat):Int)+q.num*((p.den / p.den.gcd q.den:Nat):Int)).natAbs.gcd (p.den.gcd q.den)) (decide ((p.num*((q.den / p.den.gcd q.den:Nat):Int)+q.num*((p.den / p.den.gcd q.den:Nat):Int))<0))∧(p+q).den=p.den / p.den.gcd q.den*(q.den / (p.num*((q.den / p.den.gcd q.den:Nat):Int)+q.num*((p.den / p.den.gcd q.den:Nat):Int)).natAbs.gcd (p.den.gcd q.den)):=by
 obtain ⟨h1,h2⟩:=FL p q;refine ⟨?_,h2⟩;rw [h1];exact (BM (Nat.gcd_dvd_left _ _)).symm
theorem Me (p q:Rat):(p*q).num=Mem.iV (p.num.natAbs / p.num.natAbs.gcd q.den*(q.num.natAbs / q.num.natAbs.gcd p.den)) (decide (p.num<0) != decide (q.num<0))∧(p*q).den=p.den / q.num.natAbs.gcd p.den*(q.den / p.num.natAbs.gcd q.den):=by
 obtain ⟨h1,h2⟩:=Fq p q;refine ⟨?_,h2⟩;rw [h1];have d1:((p.num.natAbs.gcd q.den:Nat):Int) ∣ p.num:=by rw [← Int.dvd_natAbs,Int.ofNat_dvd];exact Nat.gcd_dvd_left _ _
 have d2:((q.num.natAbs.gcd p.den:Nat):Int) ∣ q.num:=by rw [← Int.dvd_natAbs,Int.ofNat_dvd];exact Nat.gcd_dvd_left _ _
 have hg:0<p.num.natAbs.gcd q.den:=Nat.gcd_pos_of_pos_right _ q.den_pos;have hh:0<q.num.natAbs.gcd p.den:=Nat.gcd_pos_of_pos_right _ p.den_pos
 have key:∀ (z:Int) (g:Nat),0<g→((g:Nat):Int) ∣ z→(z / (g:Int)).natAbs=z.natAbs / g∧(z≠0→decide (z / (g:Int)<0)=decide (z<0)):=fun z g hg hd=>by
  obtain ⟨c,rfl⟩:=hd;rw [Int.mul_ediv_cancel_left _ zo,Int.natAbs_mul,Int.natAbs_natCast,Nat.mul_div_cancel_left _ hg];refine ⟨rfl,fun _=>?_⟩;rw [iN,decide_eq_true_iff,decide_eq_true_iff]
  constructor
  ·exact fun h=>Int.mul_neg_of_pos_of_neg zo h
  ·intro h
   rcases Int.lt_trichotomy c 0 with h1|h1|h1
   ·exact h1
   ·subst h1;simp at h
   ·have:=Int.mul_pos (show (0:Int)<(g:Int) by omega) h1;omega
 obtain ⟨a1,a2⟩:=key p.num _ hg d1;obtain ⟨b1,b2⟩:=key q.num _ hh d2;rw [← Mem.xE (p.num / ((p.num.natAbs.gcd q.den:Nat):Int)),a1,b1]
 by_cases hp:p.num=0
 ·simp [hp,Mem.iV]
 ·by_cases hq:q.num=0
  ·simp [hq,Mem.iV]
  ·rw [a2 hp,b2 hq]
theorem L9 (p q:Rat):(p*q).num=Mem.iV (p.num.natAbs / p.num.natAbs.gcd q.den*(q.num.natAbs / q.num.natAbs.gcd p.den)) (!(decide (p.num<0) == decide (q.num<0)))∧(p*q).den=p.den / q.num.natAbs.gcd p.den*(q.den / p.num.natAbs.gcd q.den):=Me p q
theorem tY (n:Int) {d:Nat} (hd:0<d):(mkRat n d).num=Mem.iV (n.natAbs / n.natAbs.gcd d) (decide (n<0))∧(mkRat n d).den=d / n.natAbs.gcd d:=by
 rw [Rat.num_mkRat,Rat.den_mkRat,if_neg zo,if_neg zo,Nat.gcd_comm d];exact ⟨(BM (Nat.gcd_dvd_left _ _)).symm,rfl⟩
theorem LP {n:Nat} (h:600<(decDigits n).length):kI n=false:=by
 cases hk:kI n with
 | false=>rfl
 | true=>have:=fK.1 hk;omega
def wr (q:Rat):Fr × Int:=if xO q then (Fr.of q,0) else (Fr.no,6)
def Fr.res (x:Fr × Int):Value:=aG #[x.1.v,Z I x.2]
theorem F9 {q:Rat} (h:xO q=false):Fr.res (wr q)= aG #[au #[O ⟨#[]⟩,O ⟨#[]⟩],Z I 6]:=by unfold wr;rw [if_neg (by simp [h])];rfl
theorem YB {q:Rat} (h:xO q=true):Fr.res (wr q)= aG #[au #[Mem.dW q.num,Mem.dW q.den],Z I 0]:=by unfold wr;rw [if_pos h];rfl
def oK (p q:Rat):Int:=if p<q then -1 else if q<p then 1 else 0
def vE (z:Int):Int:=if z=0 then 0 else if z<0 then -1 else 1
theorem BK (p q:Rat):vE (p.num*(q.den:Int)+ -(q.num*(p.den:Int)))=oK p q:=by
 unfold vE oK
 by_cases h1:p<q
 ·rw [if_pos h1];have:=(Rat.lt_iff p q).1 h1;rw [if_neg zo,if_pos zo]
 ·rw [if_neg h1];rw [Rat.lt_iff] at h1
  by_cases h2:q<p
  ·rw [if_pos h2];have:=(Rat.lt_iff q p).1 h2;rw [if_neg zo,if_neg zo]
  ·rw [if_neg h2];rw [Rat.lt_iff] at h2;rw [if_pos zo]
theorem Qb (q:Rat):vE q.num=oK q 0:=by
 have:=BK q 0
 simpa using this
def gJ (w:World) (v:Value) (q:Rat):Prop:=∃ pa l ca pb m cb,v= au #[ah pa l ca,ak (decide (q.num<0)),ah pb m cb]∧Mem.bW w (ah pa l ca) q.num.natAbs∧Mem.bW w (ah pb m cb) q.den
open RowKit Mem in
theorem gJ.later {w w':World} {v:Value} {q:Rat} (h:gJ w v q) (hb:Below w.heap.size w w'):gJ w' v q:=by
 obtain ⟨pa,l,ca,pb,m,cb,h1,h2,h3⟩:=h;exact ⟨pa,l,ca,pb,m,cb,h1,h2.later hb,h3.later hb⟩
open Mem in
theorem gJ.mk (n d:Nat) {w:World} {pa pb:Option Addr} {l ca m cb:Nat} {b:Bool} {q:Rat} (h:bW w (ah pa l ca) n) (k:bW w (ah pb m cb) d) (hn:n=q.num.natAbs) (hd:d=q.den) (hb:b=decide (q.num<0)):gJ w (au #[ah pa l ca,ak b,ah pb m cb]) q:=by
 subst hn hd hb;exact ⟨pa,l,ca,pb,m,cb,rfl,h,k⟩
open RowKit Mem in
theorem _root_.Go.Mem.bW.carry {w0 w w':World} {v:Value} {n:Nat} (_:bW w0 v n) (k:bW w v n) (hb:Below w.heap.size w w'):bW w' v n:=k.later hb
theorem gJ.of {w:World} {pa pb:Option Addr} {l ca m cb:Nat} {q:Rat} (h:Mem.bW w (ah pa l ca) q.num.natAbs) (k:Mem.bW w (ah pb m cb) q.den):gJ w (au #[ah pa l ca,ak (decide (q.num<0)),ah pb m cb]) q:=⟨pa,l,ca,pb,m,cb,rfl,h,k⟩
def jw (k:Nat) (q:Rat):Prop:=sz 1000000000 q.num.natAbs≤k∧sz 1000000000 q.den≤k
theorem ae8:jZ 600≤1000000000^67:=by decide+kernel
theorem kH {n:Nat} (h:kI n=true):sz 1000000000 n≤67:=by
 unfold kI at h;rw [decide_eq_true_iff] at h;exact cO zo 67 n (aI h ae8)
theorem jJ {q:Rat} (h:xO q=true):jw 67 q:=by
 unfold xO at h;rw [aK] at h;exact ⟨kH h.1,kH h.2⟩
theorem jw.mono {k m:Nat} {q:Rat} (h:jw k q) (hk:k≤m):jw m q:=⟨ay h.1 hk,ay h.2 hk⟩
theorem kE {a b:Nat}:sz 1000000000 (a / b)≤sz 1000000000 a:=gu zo (Nat.div_le_self a b)
theorem Gl {a b:Nat} (hb:0<b):sz 1000000000 (a.gcd b)≤sz 1000000000 b:=gu zo (Nat.le_of_dvd hb (Nat.gcd_dvd_right _ _))
theorem oM (z:Int) (n:Nat):sz 1000000000 (z*n).natAbs≤sz 1000000000 z.natAbs+sz 1000000000 n:=by
 rw [Int.natAbs_mul,Int.natAbs_natCast];exact kR zo _ _
theorem Lh (z y:Int):sz 1000000000 (z*y).natAbs≤sz 1000000000 z.natAbs+sz 1000000000 y.natAbs:=by
 rw [Int.natAbs_mul];exact kR zo _ _
theorem E8 (z y:Int):sz 1000000000 (z+y).natAbs≤max (sz 1000000000 z.natAbs) (sz 1000000000 y.natAbs)+1 :=
 ay (gu zo (Int.natAbs_add_le z y)) (vU zo _ _)
theorem AX {k:Nat} {p q:Rat} (h:jw k p) (i:jw k q):jw (2*k+1) (p+q):=by
 obtain ⟨h1,h2⟩:=FL p q;have hp:=p.den_pos;have hq:=q.den_pos;have a1:=oM p.num (q.den / p.den.gcd q.den);have a2:=oM q.num (p.den / p.den.gcd q.den);have a3:=E8 (p.num*((q.den / p.den.gcd q.den:Nat):Int)) (q.num*((p.den / p.den.gcd q.den:Nat):Int));have b1:= @kE q.den (p.den.gcd q.den);have b2:= @kE p.den (p.den.gcd q.den);obtain ⟨i1,i2⟩:=i;obtain ⟨j1,j2⟩:=h
 constructor
 ·rw [h1,Int.natAbs_ediv_of_dvd (by rw [← Int.dvd_natAbs,Int.ofNat_dvd];exact Nat.gcd_dvd_left _ _),Int.natAbs_natCast];refine ay kE ?_;omega
 ·rw [h2];refine ay (kR zo _ _) ?_;have b3:= @kE q.den ((p.num*((q.den / p.den.gcd q.den:Nat):Int)+q.num*((p.den / p.den.gcd q.den:Nat):Int)).natAbs.gcd (p.den.gcd q.den));omega
theorem rH {k:Nat} {p q:Rat} (h:jw k p) (i:jw k q):jw (2*k) (p*q):=by
 obtain ⟨h1,h2⟩:=Fq p q;obtain ⟨i1,i2⟩:=i;obtain ⟨j1,j2⟩:=h
 constructor
 ·rw [h1];refine ay (Lh _ _) ?_;rw [Int.natAbs_ediv_of_dvd (by rw [← Int.dvd_natAbs,Int.ofNat_dvd];exact Nat.gcd_dvd_left _ _),Int.natAbs_ediv_of_dvd (by rw [← Int.dvd_natAbs,Int.ofNat_dvd];exact Nat.gcd_dvd_left _ _),Int.natAbs_natCast,Int.natAbs_natCast];have:= @kE p.num.natAbs (p.num.natAbs.gcd q.den);have:= @kE q.num.natAbs (q.num.natAbs.gcd p.den);omega
 ·rw [h2];refine ay (kR zo _ _) ?_;have:= @kE p.den (q.num.natAbs.gcd p.den);have:= @kE q.den (p.num.natAbs.gcd q.den);omega
theorem uN {k:Nat} {q:Rat} (h:jw k q):jw k (-q):=by
 unfold jw at *;rw [Rat.neg_num,Rat.neg_den,Int.natAbs_neg];exact h
theorem Gi {k:Nat} {q:Rat} (h:jw k q) (h0:q≠0):jw k q⁻¹:=by
 have hn:q.num≠0:=fun e=>h0 (Rat.num_eq_zero.1 e);unfold jw at *;rw [Rat.num_inv,Rat.den_inv,if_neg hn,Int.natAbs_mul,Int.natAbs_natCast,Int.natAbs_sign_of_ne_zero hn,gQ];exact ⟨h.2,h.1⟩
end Go.gD
namespace Go.gD
open Go Go.Num Go.Dec Lib
abbrev FrI:=Fr × Int
def Ak (a:Fr):Int:=if (rd a).isSome then 0 else 20
def kF (a:Fr):Int × Int:=match rd a with
 | some q=>(oK q 0,0)
 | none=>(0,20)
def Hw (a b:Fr):Int × Int:=match rd a,rd b with
 | some p,some q=>(oK p q,0)
 | _,_=>(0,20)
def bin (f:Rat→Rat→Fr × Int) (a b:Fr):Fr × Int:=match rd a,rd b with
 | some p,some q=>f p q
 | _,_=>(Fr.no,20)
def qJ (a b:Fr):Fr × Int:=bin (fun p q=>wr (p+q)) a b
def rJ (a b:Fr):Fr × Int:=bin (fun p q=>wr (p - q)) a b
def nH (a b:Fr):Fr × Int:=bin (fun p q=>wr (p*q)) a b
def nk (a b:Fr):Fr × Int:=bin (fun p q=>if q=0 then (Fr.no,7) else wr (p / q)) a b
def qM (n d:Int):Fr × Int:=if d=0 then (Fr.no,7) else wr (n / d)
theorem mZ {f:Rat→Rat→Fr × Int} {a b:Fr} {p q:Rat} (h:rd a=some p) (k:rd b=some q):bin f a b=f p q:=by unfold bin;rw [h,k]
theorem ql {f:Rat→Rat→Fr × Int} {a b:Fr} (h:rd a=none):bin f a b=(Fr.no,20):=by unfold bin;rw [h]
theorem qj {f:Rat→Rat→Fr × Int} {a b:Fr} (k:rd b=none):bin f a b=(Fr.no,20):=by
 unfold bin;cases rd a with
 | none=>rfl
 | some p=>simp [k]
theorem Xf (n d:Int) (h:d≠0):mkRat (Mem.iV n.natAbs (!(decide (n<0) == decide (d<0)))) d.natAbs=(n:Rat) / (d:Rat):=by
 rw [← Rat.divInt_eq_div]
 rcases Int.lt_trichotomy d 0 with hd|hd|hd
 ·rw [← Rat.neg_divInt_neg];obtain ⟨k,rfl⟩:∃ k:Nat,d= -(k:Int):=⟨d.natAbs,by omega⟩;rw [Int.neg_neg,Rat.divInt_ofNat,Int.natAbs_neg,Int.natAbs_natCast]
  congr 1
  unfold Mem.iV
  by_cases hn:n<0
  ·simp [hn,hd];omega
  ·simp [hn,hd];omega
 ·exact absurd hd h
 ·obtain ⟨k,rfl⟩:∃ k:Nat,d=(k:Int):=⟨d.natAbs,by omega⟩;rw [Rat.divInt_ofNat,Int.natAbs_natCast]
  congr 1
  have hd2:¬ (k:Int)<0:=by omega
  unfold Mem.iV
  by_cases hn:n<0
  ·simp [hn,hd2];omega
  ·simp [hn,hd2];omega
theorem qy (s t:ByteArray) (e:Int):Fr.res (⟨s,t⟩,e)= aG #[au #[O s,O t],Z I e]:=rfl
end Go.gD
namespace Go.Proofs
open Go.Shelf
def Tryz.lays134_ren:Go.Shelf.Ren:=⟨fun|134=>242|129=>282|n=>n,fun|53=>193|3=>3|4=>4|46=>240|5=>5|9=>9|n=>n,fun|n=>n⟩
theorem Tryz.lays134:Go.Proofs.Lays.n134 Tryz.prog Tryz.lays134_ren:={
 mixed:=by kernel_rfl
 f129:=Tryz.func282.trans (congrArg some zk)
 f134:=Tryz.func242.trans (congrArg some zk)
 t3:=Tryz.underlying3
 a3:=Tryz.isAgg3
 z3:=Tryz.sizeOf3
 v3:=Tryz.zeroValue3
 t4:=Tryz.underlying4
 a4:=Tryz.isAgg4
 z4:=Tryz.sizeOf4
 v4:=Tryz.zeroValue4
 t5:=Tryz.underlying5
 a5:=Tryz.isAgg5
 z5:=Tryz.sizeOf5
 v5:=Tryz.zeroValue5
 t9:=Tryz.underlying9
 a9:=Tryz.isAgg9
 z9:=Tryz.sizeOf9
 v9:=Tryz.zeroValue9
 t46:=Tryz.underlying240
 a46:=Tryz.isAgg240
 z46:=Tryz.sizeOf240
 v46:=Tryz.zeroValue240
 t53:=Tryz.underlying193
 a53:=Tryz.isAgg193
 z53:=Tryz.sizeOf193
 v53:=Tryz.zeroValue193 }
theorem Tryz.bits_LeadingZeros64 (x:Int) (w:World) (h0:0≤x) (h1:x≤18446744073709551615) :
  Calls Tryz.prog 242 #[Z .u64 x] w fun e w'=>e= aj (Z I (64 - (Lib.bitLen x.toNat:Int)))∧w'=w:=Any.bits_LeadingZeros64 Tryz.lays134 x w h0 h1
def Tryz.laysC174_ren:Go.Shelf.Ren:=⟨fun|174=>246|247=>286|245=>287|287=>319|279=>320|280=>321|281=>322|282=>323|321=>334|322=>335|316=>336|171=>249|205=>337|243=>288|246=>324|283=>338|284=>339|285=>340|286=>341|129=>282|317=>347|318=>348|319=>349|320=>350|337=>353|338=>354|n=>n,fun|9=>9|3=>3|2=>2|75=>242|85=>244|4=>4|167=>315|5=>5|53=>193|175=>316|46=>240|168=>318|37=>275|0=>0|210=>333|21=>21|127=>299|145=>344|143=>342|171=>335|173=>337|212=>347|51=>61|20=>20|213=>348|232=>354|233=>355|80=>227|n=>n,fun|15=>2|16=>3|17=>4|18=>5|19=>6|n=>n⟩
theorem Tryz.laysC174:Go.Proofs.LaysC.n174 Tryz.prog Tryz.laysC174_ren:={
 mixed:=by kernel_rfl
 f129:=Tryz.func282.trans (congrArg some zk)
 f171:=Tryz.func249.trans (congrArg some zk)
 f174:=Tryz.func246.trans (congrArg some zk)
 f205:=Tryz.func337.trans (congrArg some zk)
 f243:=Tryz.func288.trans (congrArg some zk)
 f245:=Tryz.func287.trans (congrArg some zk)
 f246:=Tryz.func324.trans (congrArg some zk)
 f247:=Tryz.func286.trans (congrArg some zk)
 f279:=Tryz.func320.trans (congrArg some zk)
 f280:=Tryz.func321.trans (congrArg some zk)
 f281:=Tryz.func322.trans (congrArg some zk)
 f282:=Tryz.func323.trans (congrArg some zk)
 f283:=Tryz.func338.trans (congrArg some zk)
 f284:=Tryz.func339.trans (congrArg some zk)
 f285:=Tryz.func340.trans (congrArg some zk)
 f286:=Tryz.func341.trans (congrArg some zk)
 f287:=Tryz.func319.trans (congrArg some zk)
 f316:=Tryz.func336.trans (congrArg some zk)
 f317:=Tryz.func347.trans (congrArg some zk)
 f318:=Tryz.func348.trans (congrArg some zk)
 f319:=Tryz.func349.trans (congrArg some zk)
 f320:=Tryz.func350.trans (congrArg some zk)
 f321:=Tryz.func334.trans (congrArg some zk)
 f322:=Tryz.func335.trans (congrArg some zk)
 f337:=Tryz.func353.trans (congrArg some zk)
 f338:=Tryz.func354.trans (congrArg some zk)
 t0:=Tryz.underlying0
 a0:=Tryz.isAgg0
 z0:=Tryz.sizeOf0
 v0:=Tryz.zeroValue0
 t2:=Tryz.underlying2
 a2:=Tryz.isAgg2
 z2:=Tryz.sizeOf2
 v2:=Tryz.zeroValue2
 t3:=Tryz.underlying3
 a3:=Tryz.isAgg3
 z3:=Tryz.sizeOf3
 v3:=Tryz.zeroValue3
 t4:=Tryz.underlying4
 a4:=Tryz.isAgg4
 z4:=Tryz.sizeOf4
 v4:=Tryz.zeroValue4
 t5:=Tryz.underlying5
 a5:=Tryz.isAgg5
 z5:=Tryz.sizeOf5
 v5:=Tryz.zeroValue5
 t9:=Tryz.underlying9
 a9:=Tryz.isAgg9
 z9:=Tryz.sizeOf9
 v9:=Tryz.zeroValue9
 t20:=Tryz.underlying20
 a20:=Tryz.isAgg20
 z20:=Tryz.sizeOf20
 v20:=Tryz.zeroValue20
 t21:=Tryz.underlying21
 a21:=Tryz.isAgg21
 z21:=Tryz.sizeOf21
 v21:=Tryz.zeroValue21
 t37:=Tryz.underlying275
 a37:=Tryz.isAgg275
 z37:=Tryz.sizeOf275
 v37:=Tryz.zeroValue275
 t46:=Tryz.underlying240
 a46:=Tryz.isAgg240
 z46:=Tryz.sizeOf240
 v46:=Tryz.zeroValue240
 t51:=Tryz.underlying61
 a51:=Tryz.isAgg61
 z51:=Tryz.sizeOf61
 v51:=Tryz.zeroValue61
 t53:=Tryz.underlying193
 a53:=Tryz.isAgg193
 z53:=Tryz.sizeOf193
 v53:=Tryz.zeroValue193
 t75:=Tryz.underlying242
 a75:=Tryz.isAgg242
 z75:=Tryz.sizeOf242
 v75:=Tryz.zeroValue242
 t85:=Tryz.underlying244
 a85:=Tryz.isAgg244
 z85:=Tryz.sizeOf244
 v85:=Tryz.zeroValue244
 t127:=Tryz.underlying299
 a127:=Tryz.isAgg299
 z127:=Tryz.sizeOf299
 v127:=Tryz.zeroValue299
 t143:=Tryz.underlying342
 a143:=Tryz.isAgg342
 z143:=Tryz.sizeOf342
 v143:=Tryz.zeroValue342
 t145:=Tryz.underlying344
 a145:=Tryz.isAgg344
 z145:=Tryz.sizeOf344
 v145:=Tryz.zeroValue344
 t167:=Tryz.underlying315
 a167:=Tryz.isAgg315
 z167:=Tryz.sizeOf315
 v167:=Tryz.zeroValue315
 t168:=Tryz.underlying318
 a168:=Tryz.isAgg318
 z168:=Tryz.sizeOf318
 v168:=Tryz.zeroValue318
 t171:=Tryz.underlying335
 a171:=Tryz.isAgg335
 z171:=Tryz.sizeOf335
 v171:=Tryz.zeroValue335
 t173:=Tryz.underlying337
 a173:=Tryz.isAgg337
 z173:=Tryz.sizeOf337
 v173:=Tryz.zeroValue337
 t175:=Tryz.underlying316
 a175:=Tryz.isAgg316
 z175:=Tryz.sizeOf316
 v175:=Tryz.zeroValue316
 t210:=Tryz.underlying333
 a210:=Tryz.isAgg333
 z210:=Tryz.sizeOf333
 v210:=Tryz.zeroValue333
 t212:=Tryz.underlying347
 a212:=Tryz.isAgg347
 z212:=Tryz.sizeOf347
 v212:=Tryz.zeroValue347
 t213:=Tryz.underlying348
 a213:=Tryz.isAgg348
 z213:=Tryz.sizeOf348
 t232:=Tryz.underlying354
 a232:=Tryz.isAgg354
 z232:=Tryz.sizeOf354
 v232:=Tryz.zeroValue354
 t233:=Tryz.underlying355
 a233:=Tryz.isAgg355
 z233:=Tryz.sizeOf355
 v233:=Tryz.zeroValue355
 g15:=by kernel_rfl
 g16:=by kernel_rfl
 g17:=by kernel_rfl
 g18:=by kernel_rfl
 g19:=by kernel_rfl
 t80:=Tryz.underlying227
 a80:=Tryz.isAgg227
 z80:=Tryz.sizeOf227
 v80:=Tryz.zeroValue227
 i0:=by kernel_rfl
 i2:=by kernel_rfl
 i3:=by kernel_rfl
 i4:=by kernel_rfl
 i5:=by kernel_rfl
 i9:=by kernel_rfl
 i20:=by kernel_rfl
 i21:=by kernel_rfl
 i37:=by kernel_rfl
 i46:=by kernel_rfl
 i51:=by kernel_rfl
 i53:=by kernel_rfl
 i75:=by kernel_rfl
 i80:=by kernel_rfl
 i85:=by kernel_rfl
 i127:=by kernel_rfl
 i143:=by kernel_rfl
 i145:=by kernel_rfl
 i167:=by kernel_rfl
 i168:=by kernel_rfl
 i171:=by kernel_rfl
 i173:=by kernel_rfl
 i175:=by kernel_rfl
 i210:=by kernel_rfl
 i212:=by kernel_rfl
 i232:=by kernel_rfl
 i233:=by kernel_rfl
 m15:=by kernel_rfl
 m16:=by kernel_rfl
 m17:=by kernel_rfl
 m18:=by kernel_rfl
 m19:=by kernel_rfl
 c0:=by kernel_rfl
 c2:=by kernel_rfl
 c3:=by kernel_rfl
 c4:=by kernel_rfl
 c5:=by kernel_rfl
 c9:=by kernel_rfl
 c20:=by kernel_rfl
 c21:=by kernel_rfl
 c37:=by kernel_rfl
 c46:=by kernel_rfl
 c51:=by kernel_rfl
 c53:=by kernel_rfl
 c75:=by kernel_rfl
 c80:=by kernel_rfl
 c85:=by kernel_rfl
 c127:=by kernel_rfl
 c143:=by kernel_rfl
 c145:=by kernel_rfl
 c167:=by kernel_rfl
 c168:=by kernel_rfl
 c171:=by kernel_rfl
 c173:=by kernel_rfl
 c175:=by kernel_rfl
 c210:=by kernel_rfl
 c212:=by kernel_rfl
 c213:=by kernel_rfl
 c232:=by kernel_rfl
 c233:=by kernel_rfl }
open Go.RowKit in
theorem Tryz.strconv_ParseInt_10_at64_ok (s:ByteArray) (hmax:s.size≤9223372036854775806) (v:Int) (h:Lib.parseIntB 64 s.data.toList= .ok v) (w:World) :
  Calls Tryz.prog 246 #[O s,Z I 10,Z I 64] w fun e w'=>e= aj (aG #[Z I v,.nilIface])∧(w'=w∨∃ t,w'=Lib.bytesWorld w 5 t):=Any.strconv_ParseInt_10_at64_ok Tryz.laysC174 s hmax v h w
open Go.RowKit in
theorem Tryz.strconv_ParseInt_10_at64_range (s:ByteArray) (hlim:s.size≤281474976710656) (h:Lib.parseIntB 64 s.data.toList= .range) (ev:Value) (w:World) (hv:w.cell? ⟨3,0,none⟩=some ev) (hev:ev= .nilIface∨∃ te pe,ev= .iface te pe) :
  Calls Tryz.prog 246 #[O s,Z I 10,Z I 64] w fun e w'=>∃ N,e= aj (aG #[Z I (Lib.intSat 64 s.data.toList),.iface 318 (aB (some ⟨N,0,none⟩))])∧w.heap.size≤N∧w'.heap[N]? =some (.cells #[O ⟨#[80,97,114,115,101,73,110,116]⟩,O s,ev] 333 (0,0))∧Below w.heap.size w w':=Any.strconv_ParseInt_10_at64_range Tryz.laysC174 s hlim h ev w hv hev
def Tryz.lays264_ren:Go.Shelf.Ren:=⟨fun|264=>176|n=>n,fun|53=>193|46=>240|n=>n,fun|n=>n⟩
theorem Tryz.lays264:Go.Proofs.Lays.n264 Tryz.prog Tryz.lays264_ren:={
 mixed:=by kernel_rfl
 f264:=Tryz.func176.trans (congrArg some zk)
 t46:=Tryz.underlying240
 a46:=Tryz.isAgg240
 z46:=Tryz.sizeOf240
 v46:=Tryz.zeroValue240
 t53:=Tryz.underlying193
 a53:=Tryz.isAgg193
 z53:=Tryz.sizeOf193
 v53:=Tryz.zeroValue193 }
open Go.RowKit Go.Lib in
theorem Tryz.bits_Mul64 (x y:Nat) (hx:x<18446744073709551616) (hy:y<18446744073709551616) (w:World) :
  Calls Tryz.prog 176 #[Z .u64 x,Z .u64 y] w fun e w'=>e= aj (aG #[Z .u64 ((x*y / 18446744073709551616:Nat):Int),Z .u64 ((x*y%18446744073709551616:Nat):Int)])∧w'=w:=Any.bits_Mul64 Tryz.lays264 x y hx hy w
def Tryz.lays105_ren:Go.Shelf.Ren:=⟨fun|105=>325|212=>342|99=>343|165=>344|166=>271|170=>345|169=>272|263=>351|264=>176|206=>330|240=>303|241=>352|276=>329|277=>355|n=>n,fun|9=>9|3=>3|4=>4|20=>20|0=>0|46=>240|109=>339|5=>5|72=>277|76=>279|51=>61|146=>350|53=>193|148=>194|70=>274|37=>275|75=>242|127=>299|164=>324|80=>227|n=>n,fun|n=>n⟩
theorem Tryz.lays105:Go.Proofs.Lays.n105 Tryz.prog Tryz.lays105_ren:={
 mixed:=by kernel_rfl
 f99:=Tryz.func343.trans (congrArg some zk)
 f105:=Tryz.func325.trans (congrArg some zk)
 f165:=Tryz.func344.trans (congrArg some zk)
 f166:=Tryz.func271.trans (congrArg some zk)
 f169:=Tryz.func272.trans (congrArg some zk)
 f170:=Tryz.func345.trans (congrArg some zk)
 f206:=Tryz.func330.trans (congrArg some zk)
 f212:=Tryz.func342.trans (congrArg some zk)
 f240:=Tryz.func303.trans (congrArg some zk)
 f241:=Tryz.func352.trans (congrArg some zk)
 f263:=Tryz.func351.trans (congrArg some zk)
 f264:=Tryz.func176.trans (congrArg some zk)
 f276:=Tryz.func329.trans (congrArg some zk)
 f277:=Tryz.func355.trans (congrArg some zk)
 t0:=Tryz.underlying0
 a0:=Tryz.isAgg0
 z0:=Tryz.sizeOf0
 v0:=Tryz.zeroValue0
 t3:=Tryz.underlying3
 a3:=Tryz.isAgg3
 z3:=Tryz.sizeOf3
 v3:=Tryz.zeroValue3
 t4:=Tryz.underlying4
 a4:=Tryz.isAgg4
 z4:=Tryz.sizeOf4
 v4:=Tryz.zeroValue4
 t5:=Tryz.underlying5
 a5:=Tryz.isAgg5
 z5:=Tryz.sizeOf5
 v5:=Tryz.zeroValue5
 t9:=Tryz.underlying9
 a9:=Tryz.isAgg9
 z9:=Tryz.sizeOf9
 v9:=Tryz.zeroValue9
 t20:=Tryz.underlying20
 a20:=Tryz.isAgg20
 z20:=Tryz.sizeOf20
 v20:=Tryz.zeroValue20
 t37:=Tryz.underlying275
 a37:=Tryz.isAgg275
 z37:=Tryz.sizeOf275
 v37:=Tryz.zeroValue275
 t46:=Tryz.underlying240
 a46:=Tryz.isAgg240
 z46:=Tryz.sizeOf240
 v46:=Tryz.zeroValue240
 t51:=Tryz.underlying61
 a51:=Tryz.isAgg61
 z51:=Tryz.sizeOf61
 v51:=Tryz.zeroValue61
 t53:=Tryz.underlying193
 a53:=Tryz.isAgg193
 z53:=Tryz.sizeOf193
 v53:=Tryz.zeroValue193
 t70:=Tryz.underlying274
 a70:=Tryz.isAgg274
 z70:=Tryz.sizeOf274
 v70:=Tryz.zeroValue274
 t72:=Tryz.underlying277
 a72:=Tryz.isAgg277
 z72:=Tryz.sizeOf277
 v72:=Tryz.zeroValue277
 t75:=Tryz.underlying242
 a75:=Tryz.isAgg242
 z75:=Tryz.sizeOf242
 v75:=Tryz.zeroValue242
 t76:=Tryz.underlying279
 a76:=Tryz.isAgg279
 z76:=Tryz.sizeOf279
 v76:=Tryz.zeroValue279
 t109:=Tryz.underlying339
 a109:=Tryz.isAgg339
 z109:=Tryz.sizeOf339
 v109:=Tryz.zeroValue339
 t127:=Tryz.underlying299
 a127:=Tryz.isAgg299
 z127:=Tryz.sizeOf299
 v127:=Tryz.zeroValue299
 t146:=Tryz.underlying350
 a146:=Tryz.isAgg350
 z146:=Tryz.sizeOf350
 v146:=Tryz.zeroValue350
 t148:=Tryz.underlying194
 a148:=Tryz.isAgg194
 z148:=Tryz.sizeOf194
 v148:=Tryz.zeroValue194
 t164:=Tryz.underlying324
 a164:=Tryz.isAgg324
 z164:=Tryz.sizeOf324
 v164:=Tryz.zeroValue324 }
theorem Tryz.Builder_Extra_105:Builder.Extra Tryz.prog Tryz.lays105_ren:={
 sizeBuilder:=by kernel_rfl
 liesBuilder:=by kernel_rfl
 t5:=Tryz.underlying5
 a5:=Tryz.isAgg5
 z5:=Tryz.sizeOf5
 v5:=Tryz.zeroValue5
 infoByte:=by kernel_rfl
 cellsByte:=by kernel_rfl
 sizeByte:=by kernel_rfl
 neB5:=by decide }
open Go.RowKit Go.Lib in
theorem Tryz.strings_Repeat (s:ByteArray) (c:Nat) (w:World) (hc:c≤9223372036854775807) (hlen:s.size*c≤140737488355328) :
  Calls Tryz.prog 325 #[O s,Z I c] w fun e w'=>e= aj (O ⟨(Lib.repeatL s.data.toList c).toArray⟩)∧Below w.heap.size w w':=Any.strings_Repeat Tryz.lays105 Tryz.Builder_Extra_105 s c w hc hlen
end Go.Proofs
namespace Go.Fx
open Go Go.RowKit Go.SW Go.Mem
abbrev Sl:=List (Nat × Value)
def look:Sl→Nat→Option Value
 | [],_=>none
 | p::S,j=>bif Nat.beq j p.1 then some p.2 else look S j
theorem qU (p:Nat × Value) (S:Sl) (j:Nat):look (p::S) j=bif Nat.beq j p.1 then some p.2 else look S j:=rfl
def ev (S:Sl):Operand→Value
 | .tmp t=>(look S t).getD undef
 | .const v=>v
 | .global g=>aB (some ⟨g,0,none⟩)
 | .func f=>.func (.func f) #[] #[]
def known (S:Sl):Operand→Bool
 | .tmp t=>(look S t).isSome
 | _=>true
structure wT (n:Nat) (S:Sl) (a:Act):Prop where
 size:a.tmps.size=n
 get:∀ i v,look S i=some v→a.tmps.getD i undef=v
 defers:a.defers=[]
theorem wT.eval {n:Nat} {S:Sl} {a:Act} (h:wT n S a) {x:Operand} (hx:known S x=true):a.eval x=ev S x:=by
 cases x with
 | tmp t =>
  obtain ⟨v,hv⟩:=Option.isSome_iff_exists.1 hx;exact (h.get t v hv).trans (by simp [ev,hv])
 | const v=>rfl
 | global g=>rfl
 | func f=>rfl
theorem wT.of {n:Nat} {S S':Sl} {a:Act} (h:wT n S a) (hs:∀ i v,look S' i=some v→look S i=some v):wT n S' a:=⟨h.size,fun i v hv=>h.get i v (hs i v hv),h.defers⟩
theorem wT.put {n:Nat} {S:Sl} {a:Act} (h:wT n S a) {d:Nat} (hd:d<n) (v:Value):wT n ((d,v)::S) (a.put (some d) v):=by
 refine ⟨by simpa [Act.put] using h.size,fun i u hu=>?_,h.defers⟩;rw [qU] at hu
 show (a.tmps.setIfInBounds d v).getD i undef=u
 have hs:=h.size;cases hi:Nat.beq i d with
 | true =>
  obtain rfl:=Nat.eq_of_beq_eq_true hi;simp only [hi,cond_true,Option.some.injEq] at hu;subst hu;simp [Array.getD,hs,hd]
 | false =>
  have hne:d≠i:=fun e=>by subst e;simp at hi
  simp only [hi,cond_false] at hu;rw [← h.get i u hu];simp [iU, hne]
def oG (n:Nat) (S:Sl) (d:Option Nat) (v:Value):Option Sl:=match d with
 | some d=>bif Nat.blt d n then some ((d,v)::S) else none
 | none=>some S
theorem wT.oG {n:Nat} {S S':Sl} {a:Act} (h:wT n S a) {d:Option Nat} {v:Value} (hs:Fx.oG n S d v=some S'):wT n S' (a.put d v):=by
 cases d with
 | none=>cases hs;exact h
 | some d =>
  unfold Fx.oG at hs;cases hb:Nat.blt d n with
  | true=>simp only [hb,cond_true,Option.some.injEq] at hs;subst hs;exact h.put (Nat.le_of_ble_eq_true hb) v
  | false=>simp only [hb,cond_false] at hs;cases hs
def yl (ops:Array Oper) (S:Sl) (j:Nat):Option Bool:=match (ops[j]?).bind (·.dst) with
 | some d=>(match look S d with|some (.bool b)=>some b| _=>none)
 | none=>none
def gk (ops:Array Oper) (S:Sl) (o:Oper):Bool:=match o.guard with
 | none=>true
 | some (g,_)=>(match (ops[g]?).bind (·.dst) with|some d=>(look S d).isSome|none=>true)
theorem wT.wanted {n:Nat} {S:Sl} {a:Act} (h:wT n S a) {ops:Array Oper} {o:Oper} (hg:gk ops S o=true):Region.wanted o (yielded ops a.tmps)=Region.wanted o (yl ops S):=by
 unfold Region.wanted;unfold gk at hg;cases ho:o.guard with
 | none=>rfl
 | some gw =>
  obtain ⟨g,w⟩:=gw;simp only [ho] at hg ⊢
  congr 1
  unfold yielded Fx.yl;cases hd:(ops[g]?).bind (·.dst) with
  | none=>rfl
  | some d =>
   simp only [hd] at hg;obtain ⟨v,hv⟩:=Option.isSome_iff_exists.1 hg;have hgt:=h.get d v hv;simp only [Option.bind_some,hv];rw [iU] at hgt;cases ht:a.tmps[d]? with
   | none=>rw [ht] at hgt;rw [← hgt];rfl
   | some v'=>rw [ht] at hgt;rw [← hgt];cases v'<;>rfl
/-! ### What stands behind -/
inductive Kt|seq (c:Code)|block (id:Nat)|again (c:Code) (m:Nat)
abbrev Post:=Exit→Sl→World→Prop
def lift (n:Nat) (Q:Post):Exit→Act→World→Prop
 | .panic c,a,w=>a.defers=[]∧∃ S,Q (.panic c) S w
 | e,a,w=>∃ S,wT n S a∧Q e S w
theorem uS {n:Nat} {Q:Post} {e:Exit} {a:Act} {w:World} {S:Sl} (h:wT n S a) (hq:Q e S w):lift n Q e a w:=by
 cases e with
 | panic c=>exact ⟨h.defers,S,hq⟩
 | _=>exact ⟨S,h,hq⟩
theorem Mi {n:Nat} {Q:Post} (c:List PanicEntry) (a s:Act) (w:World) (hs:s.defers=a.defers) (h:lift n Q (.panic c) a w):lift n Q (.panic c) s w:=⟨hs.trans h.1,h.2⟩
section
variable (P:Program) (n:Nat)
def rounds (c:Code) (Q:Post):Nat→Sl→World→Prop
 | 0,_,_=>False
 | m+1,S,w=>∀ a,wT n S a→c.wp P (lift n (fun e S w=>match e with| .normal=>rounds c Q m S w|e=>Q e S w)) a w
def Cont (R:Post):List Kt→Post
 | [],e,S,w=>R e S w
 | .seq c::k,.normal,S,w=>∀ a,wT n S a→c.wp P (lift n (Cont R k)) a w
 | .seq _::k,e,S,w=>Cont R k e S w
 | .block id::k,.exit id',S,w=>if id'=id then Cont R k .normal S w else Cont R k (.exit id') S w
 | .block _::k,e,S,w=>Cont R k e S w
 | .again c m::k,.normal,S,w=>rounds P n c (Cont R k) m S w
 | .again _ _::k,e,S,w=>Cont R k e S w
structure Wc (R:Post) (c:Code) (k:List Kt) (S:Sl) (w:World):Prop where
 out:∀ a,wT n S a→c.wp P (lift n (Cont P n R k)) a w
structure Nx (R:Post) (e:Exit) (k:List Kt) (S:Sl) (w:World):Prop where
 out:Cont P n R k e S w
end
section
variable {P:Program} {n:Nat} {R:Post} {k:List Kt} {S:Sl} {w:World} {c c1 c2:Code} {e:Exit}
theorem seq (h:Wc P n R c1 (.seq c2::k) S w):Wc P n R (.seq c1 c2) k S w:=⟨fun a ha=>wp_seq (wp_mono (h.out a ha) fun e a w hq=>by
 cases e with
 | normal=>obtain ⟨S,hs,hq⟩:=hq;exact hq a hs
 | exit id=>obtain ⟨S,hs,hq⟩:=hq;exact ⟨S,hs,hq⟩
 | goto id=>obtain ⟨S,hs,hq⟩:=hq;exact ⟨S,hs,hq⟩
 | ret=>obtain ⟨S,hs,hq⟩:=hq;exact ⟨S,hs,hq⟩
 | panic ch=>obtain ⟨hd,S,hq⟩:=hq;exact ⟨hd,S,hq⟩
 | outgrown=>obtain ⟨S,hs,hq⟩:=hq;exact ⟨S,hs,hq⟩)⟩
theorem block {id:Nat} (h:Wc P n R c (.block id::k) S w):Wc P n R (.block id c) k S w:=⟨fun a ha=>wp_block (wp_mono (h.out a ha) fun e a w hq=>by
 cases e with
 | normal=>obtain ⟨S,hs,hq⟩:=hq;exact ⟨S,hs,hq⟩
 | exit id' =>
  obtain ⟨S,hs,hq⟩:=hq;simp only [Cont] at hq;simp only [Exit.inBlock];split at hq
  ·rename_i h;rw [if_pos h];exact ⟨S,hs,hq⟩
  ·rename_i h;rw [if_neg h];exact ⟨S,hs,hq⟩
 | goto id=>obtain ⟨S,hs,hq⟩:=hq;exact ⟨S,hs,hq⟩
 | ret=>obtain ⟨S,hs,hq⟩:=hq;exact ⟨S,hs,hq⟩
 | panic ch=>obtain ⟨hd,S,hq⟩:=hq;exact ⟨hd,S,hq⟩
 | outgrown=>obtain ⟨S,hs,hq⟩:=hq;exact ⟨S,hs,hq⟩)⟩
theorem skip (h:Nx P n R .normal k S w):Wc P n R .skip k S w:=⟨fun _ ha=>wp_skip (uS ha h.out)⟩
theorem exit {id:Nat} (h:Nx P n R (.exit id) k S w):Wc P n R (.exit id) k S w:=⟨fun _ ha=>wp_exit (uS ha h.out)⟩
theorem ret (h:Nx P n R .ret k S w):Wc P n R .ret k S w:=⟨fun _ ha=>wp_ret (uS ha h.out)⟩
theorem cond {x:Operand} {b:Bool} (hk:known S x=true) (hx:ev S x= ak b) (h:Wc P n R (if b then c1 else c2) k S w):Wc P n R (.cond x c1 c2) k S w:=by
 cases b with
 | true=>exact ⟨fun a ha=>wp_cond_true (by rw [ha.eval hk,hx]) (h.out a ha)⟩
 | false=>exact ⟨fun a ha=>wp_cond_false (by rw [ha.eval hk,hx]) (h.out a ha)⟩
theorem I8 (m:Nat) {Q:Post} {a:Act} (h:rounds P n c Q m S w) (ha:wT n S a):Code.rounds P c (lift n Q) m a w:=by
 induction m generalizing S a w with
 | zero=>exact h.elim
 | succ m ih =>
  refine wp_mono (h a ha) fun e a w hq=>?_;cases e with
  | normal=>obtain ⟨S,hs,hq⟩:=hq;exact ih hq hs
  | exit id=>obtain ⟨S,hs,hq⟩:=hq;exact ⟨S,hs,hq⟩
  | goto id=>obtain ⟨S,hs,hq⟩:=hq;exact ⟨S,hs,hq⟩
  | ret=>obtain ⟨S,hs,hq⟩:=hq;exact ⟨S,hs,hq⟩
  | panic ch=>obtain ⟨hd,S,hq⟩:=hq;exact ⟨hd,S,hq⟩
  | outgrown=>obtain ⟨S,hs,hq⟩:=hq;exact ⟨S,hs,hq⟩
theorem again {m:Nat} (h:Wc P n R c (.again c m::k) S w):Nx P n R .normal (.again c (m+1)::k) S w:=⟨fun a ha=>wp_mono (h.out a ha) fun e a w hq=>by
 cases e with
 | normal=>obtain ⟨S,hs,hq⟩:=hq;exact ⟨S,hs,hq⟩
 | exit id=>obtain ⟨S,hs,hq⟩:=hq;exact ⟨S,hs,hq⟩
 | goto id=>obtain ⟨S,hs,hq⟩:=hq;exact ⟨S,hs,hq⟩
 | ret=>obtain ⟨S,hs,hq⟩:=hq;exact ⟨S,hs,hq⟩
 | panic ch=>obtain ⟨hd,S,hq⟩:=hq;exact ⟨hd,S,hq⟩
 | outgrown=>obtain ⟨S,hs,hq⟩:=hq;exact ⟨S,hs,hq⟩⟩
theorem loop (m:Nat) (h:Wc P n R c (.again c m::k) S w):Wc P n R (.loop c) k S w :=
 ⟨fun _ ha=>wp_loop_rounds (m+1) (I8 (m+1) (again h).out ha)⟩
theorem ZT (h:Wc P n R c k S w):Nx P n R .normal (.seq c::k) S w:=⟨h.out⟩
theorem WV {id:Nat} (h:Nx P n R (.exit id) k S w):Nx P n R (.exit id) (.seq c::k) S w:=⟨h.out⟩
theorem TF {id:Nat} (h:Nx P n R .normal k S w):Nx P n R .normal (.block id::k) S w:=⟨h.out⟩
theorem WX {id:Nat} (h:Nx P n R .normal k S w):Nx P n R (.exit id) (.block id::k) S w:=⟨by unfold Cont;rw [if_pos rfl];exact h.out⟩
theorem WW {id id':Nat} (hne:id'≠id) (h:Nx P n R (.exit id') k S w):Nx P n R (.exit id') (.block id::k) S w:=⟨by unfold Cont;rw [if_neg hne];exact h.out⟩
theorem Qx {id m:Nat} (h:Nx P n R (.exit id) k S w):Nx P n R (.exit id) (.again c m::k) S w:=⟨h.out⟩
end
/-! ### Entry and end -/
def Ends (P:Program) (n:Nat) (fn:Func) (E:Ending→World→Prop):Post
 | .normal,S,w=>∀ a,wT n S a→∃ v,(results fn a.tmps).run P w= .ok v w∧E (aj v) w
 | .ret,S,w=>∀ a,wT n S a→∃ v,(results fn a.tmps).run P w= .ok v w∧E (aj v) w
 | .panic c,_,w=>E (.panicked c) w
 | _,_,_=>False
def start:List Value→Nat→Sl
 | [],_=>[]
 | v::l,i=>(i,v)::start l (i+1)
theorem Mf (l:List Value):∀ i j v,look (start l i) j=some v→i≤j∧l[j - i]? =some v:=by
 induction l with
 | nil=>intro i j v h;cases h
 | cons v l ih =>
  intro i j u h;simp only [start,qU] at h;cases hb:Nat.beq j i with
  | true=>obtain rfl:=Nat.eq_of_beq_eq_true hb;simp only [hb,cond_true] at h;exact ⟨aD _,by simpa using h⟩
  | false =>
   simp only [hb,cond_false] at h;obtain ⟨h1,h2⟩:=ih (i+1) j u h;exact ⟨by omega,by rw [show j - i=(j - (i+1))+1 by omega];simpa using h2⟩
theorem enter {P:Program} {f:FuncId} {fn:Func} {c:Code} {l:List Value} {w:World} {E:Ending→World→Prop} {n:Nat} (hf:P.funcs[f]? =some fn) (hb:fn.body=some c) (hn:fn.ntmps=n) (hl':Nat.ble l.length n=true)
  (h:Wc P n (Ends P n fn E) c [] (start l 0) w):Calls P f l.toArray w E:=by
 have hl:l.length≤n:=Nat.le_of_ble_eq_true hl';refine calls_of_wp hf hb (wp_mono (h.out _ ⟨?_,fun i v hv=>?_,rfl⟩) fun e a w hq=>?_)
 ·simp [hn];omega
 ·have:=(Mf l 0 i v hv).2;simp only [Nat.sub_zero] at this;rw [iU, Array.getElem?_append];have hi:=(List.getElem?_eq_some_iff.1 this).1;simp [hi]
  have:=(List.getElem?_eq_some_iff.1 this).2
  simpa using this
 ·cases e with
  | normal=>obtain ⟨S,hs,hq⟩:=hq;obtain ⟨v,h1,h2⟩:=hq a hs;exact ⟨hs.defers,v,h1,h2⟩
  | ret=>obtain ⟨S,hs,hq⟩:=hq;obtain ⟨v,h1,h2⟩:=hq a hs;exact ⟨hs.defers,v,h1,h2⟩
  | panic ch=>obtain ⟨hd,S,hq⟩:=hq;exact ⟨hd,hq⟩
  | exit id=>obtain ⟨S,hs,hq⟩:=hq;exact hq.elim
  | goto id=>obtain ⟨S,hs,hq⟩:=hq;exact hq.elim
  | outgrown=>obtain ⟨S,hs,hq⟩:=hq;exact hq.elim
end Go.Fx
namespace Go.Fx
open Go Go.RowKit Go.SW Go.Mem
def MX:TypeDesc→Bool
 | .struct _| .array _ _=>true
 | _=>false
def rdv (P:Program) (T:TypeId) (cs:Array Value) (off:Nat):Option Value:=match P.underlying T with
 | some d=>(match MX d with
  | true=>(match P.info? T with
   | some i=>(match Nat.ble (off+i.size) cs.size with
    | true=>some (.agg (cs.extract off (off+i.size)))
    | false=>none)
   | none=>none)
  | false=>cs[off]?)
 | none=>none
theorem TV {P:Program} {w:World} {b:Nat} {cs:Array Value} {T0 T:TypeId} {off:Nat} {v:Value} (hX:aA w b cs T0) (h:rdv P T cs off=some v):(loadVar T ⟨b,off,none⟩).run P w= .ok v w:=by
 have hl:∀ (m i:Nat) (acc:Array Value),off+i+m≤cs.size→(loadCellsFrom ⟨b,off,none⟩ i m acc).run P w= .ok (acc++cs.extract (off+i) (off+i+m)) w:=by
  intro m
  induction m with
  | zero=>intro i acc _;simp [loadCellsFrom];omega
  | succ m ih =>
   intro i acc hm;have hadd:(⟨b,off,none⟩:Addr).add i=⟨b,off+i,none⟩:=by unfold Addr.add;simp
   have hc:w.cell? ⟨b,off+i,none⟩=some cs[off+i]:=by rw [hX.cell];simp
   unfold loadCellsFrom;simp only [Sem.run_bind,hadd,run_load,hc];rw [show Result.andThen _ _=(loadCellsFrom ⟨b,off,none⟩ (i+1) m (acc.push cs[off+i])).run P w from rfl,ih (i+1) _ zo]
   congr 1
   apply Array.ext_getElem?
   intro j;simp only [Array.getElem?_append,Array.getElem?_push,Array.size_push,Array.getElem?_extract]
   rcases Nat.lt_trichotomy j acc.size with h1|h1|h1
   ·simp [h1,Nat.lt_succ_of_lt h1,Nat.ne_of_lt h1]
   ·subst h1;simp
    omega
   ·have h2:¬ j<acc.size:=by omega
    have h3:¬ j<acc.size+1:=by omega
    have h4:j≠acc.size:=by omega
    simp only [h2,h3,if_false];have e1:off+(i+1)+(j - (acc.size+1))=off+i+(j - acc.size):=by omega
    rw [e1];have e2:(j - (acc.size+1)<min (off+(i+1)+m) cs.size - (off+(i+1)))↔(j - acc.size<min (off+i+(m+1)) cs.size - (off+i)):=by omega
    simp only [e2]
 unfold rdv at h;cases hu:P.underlying T with
 | none=>rw [hu] at h;cases h
 | some d =>
  rw [hu] at h;cases hd:MX d with
  | true =>
   simp only [hd] at h;cases hi:P.info? T with
   | none=>rw [hi] at h;cases h
   | some i =>
    rw [hi] at h;cases hb:Nat.ble (off+i.size) cs.size with
    | false=>simp only [hb] at h;cases h
    | true =>
     simp only [hb] at h;cases h
     have h1:=hl i.size 0 #[] (by have:=Nat.le_of_ble_eq_true hb;omega);simp only [fJ,Array.empty_append] at h1;cases d<;>simp [MX] at hd<;>simp [loadVar,isAgg,underlying,hu,loadCells,sizeOf,typeInfo,hi,h1]
  | false =>
   simp only [hd] at h;have hc:w.cell? ⟨b,off,none⟩=some v:=by rw [hX.cell,h]
   cases d<;>simp [MX] at hd<;>simp [loadVar,isAgg,underlying,hu,run_load,hc]
structure Stored (w w':World) (b:Nat):Prop where
 os:w'.os=w.os
 tape:w'.tape=w.tape
 output:w'.output=w.output
 size:w'.heap.size=w.heap.size
 block:∀ j,j≠b→w'.heap[j]? =w.heap[j]?
theorem Stored.refl (w:World) (b:Nat):Stored w w b:=⟨rfl,rfl,rfl,rfl,fun _ _=>rfl⟩
theorem Stored.set {w w':World} {b:Nat} (h:Stored w w' b) (o:Nat) (u:Value):Stored w (w'.setCell ⟨b,o,none⟩ u) b :=
 ⟨h.os,h.tape,h.output,by simp [World.setCell,h.size],fun j hj=>(Below.heap_setCell w' ⟨b,o,none⟩ u j hj).trans (h.block j hj)⟩
theorem Stored.below {a w w':World} {b:Nat} (h:Stored w w' b) (ha:Below a.heap.size a w) (hb:a.heap.size≤b):Below a.heap.size a w' :=
 ⟨h.os.trans ha.os,h.tape.trans ha.tape,h.output.trans ha.output,by rw [h.size];exact ha.size,fun j hj=>(h.block j zo).trans (ha.block j hj)⟩
theorem Stored.box {w w':World} {b b':Nat} {cs:Array Value} {T:TypeId} (h:Stored w w' b) (hX:aA w b' cs T) (hne:b'≠b):aA w' b' cs T:=(h.block b' hne).trans hX
def putCells (cs:Array Value) (off:Nat):List Value→Array Value
 | []=>cs
 | v::l=>putCells (cs.setIfInBounds off v) (off+1) l
theorem Qa {P:Program} {b:Nat} {T0:TypeId}:∀ (vs:List Value) (off i:Nat) (cs:Array Value) (w:World),aA w b cs T0→off+i+vs.length≤cs.size→(vs.all (·.oneCell'))=true →
  ∃ w',(storeCells ⟨b,off,none⟩ vs i).run P w= .ok () w'∧Stored w w' b∧aA w' b (putCells cs (off+i) vs) T0:=by
 intro vs
 induction vs with
 | nil=>intro off i cs w hX _ _;exact ⟨w,by simp [storeCells],Stored.refl w b,hX⟩
 | cons v vs ih =>
  intro off i cs w hX hl h1;simp only [gW,aK] at h1;simp only [bg] at hl;have hadd:(⟨b,off,none⟩:Addr).add i=⟨b,off+i,none⟩:=by unfold Addr.add;simp
  obtain ⟨w',e1,e2,e3⟩:=ih off (i+1) (cs.setIfInBounds (off+i) v) (w.setCell ⟨b,off+i,none⟩ v) (hX.set _ _) (by simp;omega) h1.2;refine ⟨w',?_,⟨e2.os,e2.tape,e2.output,e2.size.trans (by simp [World.setCell]),fun j hj=>(e2.block j hj).trans (Below.heap_setCell w ⟨b,off+i,none⟩ v j hj)⟩,?_⟩
  ·have hcell:w.cell? ⟨b,off+i,none⟩=some cs[off+i]:=by rw [hX.cell];simp
   have hfro:w.frozen? ⟨b,off+i,none⟩=false:=hX.free _
   have hst:(store (⟨b,off+i,none⟩:Addr) v).run P w= .ok () (w.setCell ⟨b,off+i,none⟩ v):=by
    rw [run_store P w _ v _ h1.1,hcell];simp [hfro]
   unfold storeCells;simp only [Sem.run_bind,hadd,hst,Result.andThen_ok,e1]
  ·exact e3
structure om (H:List Nat) (w w':World):Prop where
 os:w'.os=w.os
 tape:w'.tape=w.tape
 output:w'.output=w.output
 size:w.heap.size≤w'.heap.size
 block:∀ k,k<w.heap.size→k∉H→w'.heap[k]? =w.heap[k]?
theorem om.refl {H:List Nat} (w:World):om H w w:=⟨rfl,rfl,rfl,aD _,fun _ _ _=>rfl⟩
theorem om.trans {H:List Nat} {a b c:World} (h:om H a b) (k:om H b c):om H a c :=
 ⟨k.os.trans h.os,k.tape.trans h.tape,k.output.trans h.output,ay h.size k.size,fun i hi hn=>(k.block i (aI hi h.size) hn).trans (h.block i hi hn)⟩
theorem om.of {H:List Nat} {a b:World} (h:Below a.heap.size a b):om H a b:=⟨h.os,h.tape,h.output,h.size,fun i hi _=>h.block i hi⟩
theorem om.stored {a b:World} {x:Nat} (h:Stored a b x):om [x] a b:=⟨h.os,h.tape,h.output,Nat.le_of_eq h.size.symm,fun i _ hn=>h.block i (fun e=>hn (by simp [e]))⟩
theorem om.box {H:List Nat} {w w':World} {b:Nat} {cs:Array Value} {T:TypeId} (h:om H w w') (hX:aA w b cs T) (hn:b∉H):aA w' b cs T:=(h.block b hX.lt hn).trans hX
theorem om.ar6 {x:Nat} {w w':World} {b:Nat} {cs:Array Value} {T:TypeId} (h:om [x] w w') (hX:aA w b cs T) (hn:b≠x):aA w' b cs T:=h.box hX (by simpa using hn)
theorem om.below {H:List Nat} {a w w':World} (h:om H w w') (ha:Below a.heap.size a w) (hn:∀ b∈H,a.heap.size≤b):Below a.heap.size a w' :=
 ⟨h.os.trans ha.os,h.tape.trans ha.tape,h.output.trans ha.output,ay ha.size h.size,fun i hi=>(h.block i (aI hi ha.size) (fun hm=>by have:=hn i hm;omega)).trans (ha.block i hi)⟩
theorem lax {H:List Nat} {N:Nat} (hH:∀ h∈H,h<N):Ia.Y4 N (om H):=⟨.refl,.trans,.of,fun h=>h.size,fun h b h1 h2=>h.block b h2 fun hm=>by have:=hH b hm;omega⟩
theorem om.own {H:List Nat} {a w w':World} {b:Nat} (h:om H a w) (k:Stored w w' b) (hb:a.heap.size≤b):om H a w' :=
 ⟨k.os.trans h.os,k.tape.trans h.tape,k.output.trans h.output,by rw [k.size];exact h.size,fun i hi hn=>(k.block i zo).trans (h.block i hi hn)⟩
theorem om.aw5 {H:List Nat} {a w w':World} {b:Nat} (h:om H a w) (k:om [b] w w') (hb:a.heap.size≤b):om H a w' :=
 ⟨k.os.trans h.os,k.tape.trans h.tape,k.output.trans h.output,ay h.size k.size,fun i hi hn=>(k.block i (aI hi h.size) (by simp;omega)).trans (h.block i hi hn)⟩
/-! ### aF4 -/
structure Bx where
 b:Nat
 cs:Array Value
 T:TypeId
 o:Bool
abbrev Mm:=List Bx
structure Mem (w0:World) (H:List Nat) (L:Mm) (w:World):Prop where
 all:∀ (j:Nat) (x:Bx),L[j]? =some x→aA w x.b x.cs x.T
 UW:∀ (i j:Nat) (x y:Bx),L[i]? =some x→L[j]? =some y→i≠j→x.o=true→x.b≠y.b
 own:∀ (j:Nat) (x:Bx),L[j]? =some x→x.o=true→x.b∈H∨w0.heap.size≤x.b
 vO:om H w0 w
def wm:Mm→Nat→Array Value→Mm
 | [],_,_=>[]
 | x::L,0,cs=>⟨x.b,cs,x.T,x.o⟩::L
 | x::L,j+1,cs=>x::wm L j cs
theorem oZ (cs:Array Value):∀ (L:Mm) (j i:Nat),(wm L j cs)[i]? =(L[i]?).map fun x=>if i=j then ⟨x.b,cs,x.T,x.o⟩ else x
 | [],_,_=>by simp [wm]
 | x::L,0,0=>by simp [wm]
 | x::L,0,i+1=>by simp [wm]
 | x::L,j+1,0=>by simp [wm]
 | x::L,j+1,i+1=>by simp [wm,oZ cs L j i]
def upd:Mm→List (Nat × Array Value)→Mm
 | L,[]=>L
 | L,u::U=>upd (wm L u.1 u.2) U
section
variable {w0:World} {H:List Nat} {L:Mm} {w w':World}
theorem Mem.later (h:Mem w0 H L w) (hb:Below w.heap.size w w'):Mem w0 H L w':=⟨fun j x hx=>(h.all j x hx).later hb,h.UW,h.own,h.vO.trans (.of hb)⟩
theorem Mem.set (h:Mem w0 H L w) {j:Nat} {x:Bx} (hj:L[j]? =some x) (ho:x.o=true) (hw:om [x.b] w w') {cs:Array Value} (hX:aA w' x.b cs x.T):Mem w0 H (wm L j cs) w':=by
 refine ⟨fun i y hy=>?_,fun i k y z hy hz hne QJ=>?_,fun i y hy QJ=>?_,?_⟩
 ·rw [oZ] at hy;cases hi:L[i]? with
  | none=>rw [hi] at hy;cases hy
  | some u =>
   rw [hi] at hy;simp only [Option.map_some,Option.some.injEq] at hy
   by_cases hij:i=j
   ·rw [if_pos hij] at hy;rw [hij,hj] at hi;cases hi
    subst hy;exact hX
   ·rw [if_neg hij] at hy;subst hy;exact hw.ar6 (h.all i u hi) fun e=>h.UW j i x u hj hi (fun e=>hij e.symm) ho e.symm
 ·rw [oZ] at hy hz;cases hi:L[i]? with
  | none=>rw [hi] at hy;cases hy
  | some u =>
   cases hk:L[k]? with
   | none=>rw [hk] at hz;cases hz
   | some v =>
    rw [hi] at hy;rw [hk] at hz;simp only [Option.map_some,Option.some.injEq] at hy hz;have e1:y.b=u.b:=by subst hy;split<;>rfl
    have e2:z.b=v.b:=by subst hz;split<;>rfl
    have e3:y.o=u.o:=by subst hy;split<;>rfl
    rw [e1,e2];exact h.UW i k u v hi hk hne (by rw [← e3];exact QJ)
 ·rw [oZ] at hy;cases hi:L[i]? with
  | none=>rw [hi] at hy;cases hy
  | some u =>
   rw [hi] at hy;simp only [Option.map_some,Option.some.injEq] at hy;have e1:y.b=u.b:=by subst hy;split<;>rfl
   have e2:y.o=u.o:=by subst hy;split<;>rfl
   rw [e1];exact h.own i u hi (by rw [← e2];exact QJ)
 ·rcases h.own j x hj ho with hm|hm
  ·exact h.vO.trans ⟨hw.os,hw.tape,hw.output,hw.size,fun i hi hn=>hw.block i hi (by simp;intro e;exact hn (e ▸ hm))⟩
  ·exact h.vO.aw5 hw hm
theorem Mem.push (h:Mem w0 H L w) {b:Nat} {cs:Array Value} {T:TypeId} (hb:Below w.heap.size w w') (h1:∀ (j:Nat) (x:Bx),L[j]? =some x→x.b≠b) (h2:w0.heap.size≤b) (hX:aA w' b cs T):Mem w0 H (L++[⟨b,cs,T,true⟩]) w':=by
 have key:∀ i (y:Bx),(L++[(⟨b,cs,T,true⟩:Bx)])[i]? =some y→L[i]? =some y∨(i=L.length∧y=⟨b,cs,T,true⟩):=fun i y hy=>by
  rcases Nat.lt_trichotomy i L.length with hi|hi|hi
  ·rw [eO hi] at hy;exact .inl hy
  ·subst hi;simp at hy;exact .inr ⟨rfl,hy.symm⟩
  ·rw [dZ zo,List.getElem?_eq_none (by simp;omega)] at hy;cases hy
 have hm:=h.later hb;refine ⟨fun i y hy=>?_,fun i k y z hy hz hne QJ=>?_,fun i y hy QJ=>?_,hm.vO⟩
 ·rcases key i y hy with hy|⟨-, rfl⟩
  ·exact hm.all i y hy
  ·exact hX
 ·rcases key i y hy with hy|⟨hi,rfl⟩<;>rcases key k z hz with hz|⟨hk,rfl⟩
  ·exact h.UW i k y z hy hz hne QJ
  ·exact h1 i y hy
  ·exact fun e=>h1 k z hz e.symm
  ·omega
 ·rcases key i y hy with hy|⟨-, rfl⟩
  ·exact h.own i y hy QJ
  ·exact .inr h2
theorem Mem.below (h:Mem w0 [] L w):Below w0.heap.size w0 w:=⟨h.vO.os,h.vO.tape,h.vO.output,h.vO.size,fun i hi=>h.vO.block i hi zi⟩
theorem Mem.nil (w:World) (H:List Nat):Mem w H [] w:=⟨fun j x h=>by simp at h,fun i j x y h=>by simp at h,fun j x h=>by simp at h,om.refl w⟩
end
/-! ### What is done -/
inductive Do
 | op (ops:Array Oper) (o:Oper)
 | no (ops:Array Oper) (o:Oper)
 | ld (ops:Array Oper) (o:Oper) (j:Nat)
 | st (ops:Array Oper) (o:Oper) (j:Nat)
 | br (x:Operand) (b:Bool)
structure Ex where
 S:Sl
 L:Mm
 rs:List (Sem Next × Value)
 us:List Nat
 vs:List Nat
def aw7:Op→Bool
 | .select _ _=>false
 | _=>true
def fit (ops:Array Oper) (S:Sl) (o:Oper):Bool:=gk ops S o&&(aw7 o.op&&o.op.operands.toList.all (known S))
theorem wT.exec {n:Nat} {S:Sl} {a:Act} (h:wT n S a) {ops:Array Oper} {o:Oper} (hf:fit ops S o=true):execOp a.eval o=execOp (ev S) o:=by
 unfold fit at hf;simp only [aK] at hf;refine execOp_congr o (fun cs b e=>?_) fun x hx=>h.eval ?_
 ·rw [e] at hf;cases hf.2.1
 ·exact List.all_eq_true.1 hf.2.2 x (by simpa using hx)
def uy (P:Program) (n:Nat) (w:World) (S:Sl) (L:Mm):Do→Option Ex
 | .op ops o=>(match fit ops S o with
  | true=>(match Region.wanted o (yl ops S) with
   | true=>(match (execOp (ev S) o).run P w with
    | .ok (.value v) _=>(oG n S o.dst v).map fun S'=>⟨S',L,[(execOp (ev S) o,v)],[],[]⟩
    | _=>none)
   | false=>(oG n S o.dst undef).map fun S'=>⟨S',L,[],[],[]⟩)
  | false=>none)
 | .no ops o=>(match gk ops S o,Region.wanted o (yl ops S) with
  | true,false=>(oG n S o.dst undef).map fun S'=>⟨S',L,[],[],[]⟩
  | _,_=>none)
 | .ld ops o j=>(match fit ops S o,Region.wanted o (yl ops S),o.op with
  | true,true,.load T x=>(match ev S x,L[j]? with
   | aB (some ⟨b,off,none⟩),some y=>(match rdv P T y.cs off with
    | some v=>(oG n S o.dst v).map fun S'=>⟨S',L,[],[b],[y.b]⟩
    | none=>none)
   | _,_=>none)
  | _,_,_=>none)
 | .st ops o j=>(match fit ops S o,Region.wanted o (yl ops S),o.dst,o.op with
  | true,true,none,.store T x y=>(match ev S x,L[j]?, P.info? T with
   | aB (some ⟨b,off,none⟩),some z,some f=>(match z.o,Nat.beq (ev S y).cells.size f.size,Nat.ble (off+f.size) z.cs.size,(ev S y).cells.toList.all (·.oneCell') with
    | true,true,true,true=>some ⟨S,wm L j (putCells z.cs off (ev S y).cells.toList),[],[b],[z.b]⟩
    | _,_,_,_=>none)
   | _,_,_=>none)
  | _,_,_,_=>none)
 | .br x b=>(match known S x,ev S x with
  | true,ak c=>(match c == b with
   | true=>some ⟨S,L,[],[],[]⟩
   | false=>none)
  | _,_=>none)
def exec (P:Program) (n:Nat) (w:World):List Do→Sl→Mm→Option Ex
 | [],S,L=>some ⟨S,L,[],[],[]⟩
 | d::ds,S,L=>match uy P n w S L d with
  | some e=>(match exec P n w ds e.S e.L with
   | some r=>some ⟨r.S,r.L,e.rs++r.rs,e.us++r.us,e.vs++r.vs⟩
   | none=>none)
  | none=>none
def Bears (P:Program) (rs:List (Sem Next × Value)):Prop:=∀ w,rs.map (fun p=>p.1.run P w)=rs.map fun p=>.ok (.value p.2) w
theorem Bears.left {P:Program} {a b:List (Sem Next × Value)} (h:Bears P (a++b)):Bears P a:=fun w=>(List.append_inj (by simpa using h w) zi).1
theorem Bears.right {P:Program} {a b:List (Sem Next × Value)} (h:Bears P (a++b)):Bears P b:=fun w=>(List.append_inj (by simpa using h w) zi).2
theorem Bears.one {P:Program} {x:Sem Next} {v:Value} (h:Bears P [(x,v)]) (w:World):x.run P w= .ok (.value v) w:=by simpa using h w
/-! ### Where the walk stands -/
inductive Pos
 | code (c:Code) (k:List Kt)
 | nx (e:Exit) (k:List Kt)
 | reg (ops:Array Oper) (is:List Nat) (k:List Kt)
 | tV (ops:Array Oper) (Hj:List Nat) (is:List (K × Nat)) (A:List Nat) (k:List Kt)
def cls:Op→Nat
 | .load _ _=>1
 | .store _ _ _=>2
 | .alloc _| .box _ _| .buildSlice _ _ _| .makeSlice _ _ _=>3
 | .call c=>(match c.callee with
  | .builtin _=>0
  | _=>3)
 | _=>0
def Cm:List Nat→Pos→Option (Option Do × List Nat × Pos)
 | hs,.code c k=>(match c with
  | .seq a b=>some (none,hs,.code a (.seq b::k))
  | .block id c=>some (none,hs,.code c (.block id::k))
  | .loop c=>some (none,hs,.code c (.again c 255::k))
  | .skip=>some (none,hs,.nx .normal k)
  | .exit id=>some (none,hs,.nx (.exit id) k)
  | .region _ ops false=>some (none,hs,.reg ops (dz ops.size) k)
  | .cond x c1 c2=>(match hs with
   | 1::hs=>some (some (.br x true),hs,.code c1 k)
   | 2::hs=>some (some (.br x false),hs,.code c2 k)
   | _=>none)
  | _=>none)
 | hs,.nx e k=>(match e,k with
  | .normal,.seq c::k=>some (none,hs,.code c k)
  | .normal,.block _::k=>some (none,hs,.nx .normal k)
  | .normal,.again c (m+1)::k=>some (none,hs,.code c (.again c m::k))
  | .exit id,.seq _::k=>some (none,hs,.nx (.exit id) k)
  | .exit id,.again _ _::k=>some (none,hs,.nx (.exit id) k)
  | .exit id,.block id'::k=>(match Nat.beq id id' with
   | true=>some (none,hs,.nx .normal k)
   | false=>some (none,hs,.nx (.exit id) k))
  | _,_=>none)
 | hs,.reg ops is k=>(match is with
  | []=>some (none,hs,.nx .normal k)
  | i::is=>(match ops[i]? with
   | none=>none
   | some o=>(match cls o.op,hs with
    | 0,hs=>some (some (.op ops o),hs,.reg ops is k)
    | _,0::hs=>some (some (.no ops o),hs,.reg ops is k)
    | 1,(j+3)::hs=>some (some (.ld ops o j),hs,.reg ops is k)
    | 2,(j+3)::hs=>some (some (.st ops o j),hs,.reg ops is k)
    | _,_=>none)))
 | hs,.tV ops Hj is A k=>(match is with
  | []=>some (none,hs,.nx .normal k)
  | (kd,i)::is=>(match ops[i]? with
   | none=>none
   | some o=>(match kd,hs with
    | .pure,hs=>some (some (.op ops o),hs,.tV ops Hj is A k)
    | .read,0::hs=>some (some (.no ops o),hs,.tV ops Hj is A k)
    | .read,(j+3)::hs=>(match Hj.contains j with
     | false=>some (some (.ld ops o j),hs,.tV ops Hj is A k)
     | true=>none)
    | .ext,0::hs=>some (some (.no ops o),hs,.tV ops Hj is A k)
    | .ext,1::hs=>some (some (.op ops o),hs,.tV ops Hj is A k)
    | .ext,(j+3)::hs=>(match Hj.contains j with
     | true=>some (some (.st ops o j),hs,.tV ops Hj is A k)
     | false=>none)
    | .fin,hs=>some (none,hs,.reg ops (i::is.map (·.2)) k)
    | _,_=>none)))
def tr:Nat→List Nat→Pos→List Do × Pos
 | 0,_,p=>([],p)
 | m+1,hs,p=>match Cm hs p with
  | none=>([],p)
  | some (none,hs',p')=>tr m hs' p'
  | some (some d,hs',p')=>(d::(tr m hs' p').1,(tr m hs' p').2)
end Go.Fx
