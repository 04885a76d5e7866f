/- Lemmas for the proof. No condition. -/
import Derived.Test.YtneajphgfdlmhaaGreatDoorProg
import Derived.Orders
import Derived.Below
import Derived.Tactics
import Derived.WalkKit
import Derived.WalkSpells
import Derived.WalkLawsBesides
import Derived.Lib.Hide
import Derived.Laws.OwnMore
import Derived.Lib.ItoaNum
import Derived.Laws.ResultCell
import Derived.Laws.Rows
import Derived.Shelf.Strings.Builder1
import Derived.Shelf.LaysM
import Derived.Shelf.Strconv.Itoa3
import Derived.Shelf.Strconv.Clone
import Derived.Shelf.Strconv.SyntaxError
import Derived.Shelf.LaysC
import Derived.Shelf.Strconv.ToError
import Derived.Shelf.Strconv.Lower
import Derived.Shelf.Strconv.RangeError
import Derived.Shelf.Strconv.ToErrorRange
import Derived.Shelf.Bits.Mul64
import Derived.Shelf.Strings.Repeat
import Derived.Lib.AppendStr
import Derived.Lib.Builder
import Derived.Lib.AppendIntMem
import Derived.Shelf.Small.Bits
import Derived.Shelf.Strconv.Itoa0
import Derived.Shelf.Strconv.ParseUint10
import Derived.Shelf.Strconv.ParseUint10Any
import Derived.Shelf.Strconv.ParseInt10
import Derived.Shelf.Strconv.ParseUint10b64
import Derived.Shelf.Strconv.ParseUint10At
import Derived.Shelf.Strconv.ParseInt10At64
import Derived.Shelf.Strconv.ParseInt10All
import Derived.Shelf.Strconv.ParseIntPublic10
import Derived.KernelRfl
set_option linter.unusedVariables false
set_option linter.unusedSimpArgs false
set_option maxRecDepth 100000
set_option maxHeartbeats 16000000
namespace Go
theorem zo {G:Prop} (h:G:=by omega):G:=h
theorem zk {G:Prop} (h:G:=by kernel_rfl):G:=h
theorem zd {G:Prop} (h:G:=by decide):G:=h
theorem zi {G:Prop} (h:G:=by simp):G:=h
theorem zh {G:Prop} (h:G):Go.RowKit.Hid G:=h
theorem zR {G:Prop} (h:G:=by exact zq (by kernel_rfl)):G:=h
theorem zP {G:Prop} (h:G:=by exact fun _ _ _ _ hd h=>And.intro (hd.trans (And.left h)) (And.right h)):G:=h
theorem zS {G R:Prop} (r:R) (h:Go.RowKit.Hid R→G:=by intro r;(repeat (first|(apply Ta;(rfl);(rfl);(rfl);(intro J hJ;go_simp;(with_reducible refine hJ _ ?_);clear hJ J))|(apply Yh;(rfl);(rfl);(rfl);(rfl);(exact zk);(intro J hJ;go_simp;(with_reducible refine hJ _ ?_);clear hJ J))|(apply Ju;(rfl);(rfl);(intro J hJ;go_simp;(with_reducible refine hJ _ ?_);clear hJ J))|(apply Tc;(rfl);(rfl);(rfl);(rfl);(intro J hJ;go_simp;(with_reducible refine hJ _ ?_);clear hJ J;try go_simp))));exact r.out):G:=h (zh r)
theorem zU {G R:Prop} (r:R) (h:Go.RowKit.Hid R→G:=by intro r;(first|(apply Ta;(rfl);(rfl);(rfl);(intro J hJ;go_simp;(with_reducible refine hJ _ ?_);clear hJ J))|(apply Yh;(rfl);(rfl);(rfl);(rfl);(exact zk);(intro J hJ;go_simp;(with_reducible refine hJ _ ?_);clear hJ J))|(apply Ju;(rfl);(rfl);(intro J hJ;go_simp;(with_reducible refine hJ _ ?_);clear hJ J))|(apply Tc;(rfl);(rfl);(rfl);(rfl);(intro J hJ;go_simp;(with_reducible refine hJ _ ?_);clear hJ J;try go_simp)));exact r.out):G:=h (zh r)
theorem zT {G R:Prop} (r:R) (h:Go.RowKit.Hid R→G:=by intro r;(repeat (first|(apply aQ4;(rfl);(rfl);(rfl);(intro J hJ;go_simp;(with_reducible refine hJ _ ?_);clear hJ J))|(apply aQ5;(rfl);(rfl);(intro J hJ;go_simp;(with_reducible refine hJ _ ?_);clear hJ J))|(apply aQ6;(rfl);(rfl);(rfl);(rfl);(intro J hJ;go_simp;(with_reducible refine hJ _ ?_);clear hJ J;try go_simp))));exact r.out):G:=h (zh r)
theorem zV {G R:Prop} (r:R) (h:Go.RowKit.Hid R→G:=by intro r;(repeat (first|(refine oG rfl rfl fun J h=>?_;go_simp;refine h _ ?_;clear h J)|(refine Iq rfl rfl rfl rfl fun J h=>?_;go_simp;refine h _ ?_;clear h J;try go_simp)));exact r.out):G:=h (zh r)
theorem zW {G R:Prop} (r:R) (h:Go.RowKit.Hid R→G:=by intro r;(repeat (first|(refine oG rfl rfl fun J h=>?_;go_simp;refine h _ ?_;clear h J)|(refine Iq rfl rfl rfl rfl fun J h=>?_;go_simp;refine h _ ?_;clear h J;try go_simp)|(refine Cv rfl rfl fun J h=>?_;go_simp;refine h _ ?_;clear h J)|(refine Cw rfl rfl rfl rfl fun J h=>?_;go_simp;refine h _ ?_;clear h J;try go_simp)));exact r.out):G:=h (zh r)
theorem zM {G:Prop} (h:G:=by simp [intOf];omega):G:=h
end Go
namespace Go.Proofs.whole
open Go Go.RowKit
abbrev zq1:= @Tryz.func327
abbrev zq2:= @Tryz.ntmps327
abbrev zq3:= @Tryz.func292
abbrev zq4:= @Tryz.ntmps292
abbrev Lv:Go.TypeId:=255
abbrev OT:= @Tryz.underlying255
abbrev zq7:= @Tryz.func295
abbrev zq8:= @Tryz.ntmps295
abbrev zq9:= @Tryz.func317
abbrev at5:= @Tryz.ntmps317
abbrev aI6:= @Tryz.func315
abbrev aI5:= @Tryz.ntmps315
abbrev aI4:= @Tryz.func326
abbrev aI3:= @Tryz.ntmps326
abbrev aI2:= @Tryz.func296
abbrev aI1:= @Tryz.ntmps296
abbrev aI0:= @Tryz.func316
abbrev aH9:= @Tryz.ntmps316
abbrev aH8:= @Tryz.func346
abbrev aH7:= @Tryz.ntmps346
abbrev aH6:= @Tryz.func314
abbrev aH5:= @Tryz.ntmps314
abbrev aH4:= @Tryz.func333
abbrev aH3:= @Tryz.ntmps333
abbrev ag2:= @Tryz.func313
abbrev ag1:= @Tryz.ntmps313
abbrev aH2:= @Tryz.func328
abbrev aH1:= @Tryz.ntmps328
abbrev at0:= @Tryz.func294
abbrev as9:= @Tryz.ntmps294
abbrev as8:= @Tryz.func293
abbrev as7:= @Tryz.ntmps293
abbrev aH0:= @Tryz.func332
abbrev aG9:= @Tryz.ntmps332
abbrev aG8:= @Tryz.func256
abbrev aG7:= @Tryz.ntmps256
abbrev Vg:= @Tryz.underlying257
abbrev aG6:= @Tryz.func331
abbrev aG5:= @Tryz.ntmps331
abbrev ag0:= @Tryz.func308
abbrev af9:= @Tryz.ntmps308
end Go.Proofs.whole
namespace Go.Proofs.dA
open Go Go.RowKit
abbrev zq1:= @Tryz.func227
abbrev zq2:= @Tryz.ntmps227
abbrev zq3:= @Tryz.func274
abbrev zq4:= @Tryz.ntmps274
abbrev Lv:Go.TypeId:=104
abbrev OT:= @Tryz.underlying104
abbrev zq7:= @Tryz.func201
abbrev zq8:= @Tryz.ntmps201
abbrev zq9:= @Tryz.func223
abbrev at5:= @Tryz.ntmps223
abbrev aI6:= @Tryz.func228
abbrev aI5:= @Tryz.ntmps228
abbrev aI4:= @Tryz.func229
abbrev aI3:= @Tryz.ntmps229
abbrev aI2:= @Tryz.func145
abbrev aI1:= @Tryz.ntmps145
abbrev aI0:= @Tryz.func225
abbrev aH9:= @Tryz.ntmps225
abbrev aH8:= @Tryz.func224
abbrev aH7:= @Tryz.ntmps224
abbrev aH6:= @Tryz.func190
abbrev aH5:= @Tryz.ntmps190
abbrev aH4:= @Tryz.func226
abbrev aH3:= @Tryz.ntmps226
abbrev ag2:= @Tryz.func143
abbrev ag1:= @Tryz.ntmps143
abbrev aH2:= @Tryz.func269
abbrev aH1:= @Tryz.ntmps269
abbrev at0:= @Tryz.func220
abbrev as9:= @Tryz.ntmps220
abbrev as8:= @Tryz.func219
abbrev as7:= @Tryz.ntmps219
abbrev aH0:= @Tryz.func142
abbrev aG9:= @Tryz.ntmps142
abbrev aG8:= @Tryz.func144
abbrev aG7:= @Tryz.ntmps144
abbrev Vg:= @Tryz.underlying106
abbrev aG6:= @Tryz.func148
abbrev aG5:= @Tryz.ntmps148
abbrev ag0:= @Tryz.func147
abbrev af9:= @Tryz.ntmps147
end Go.Proofs.dA
namespace Go.Num
def val (B:Nat):List Nat→Nat
 | []=>0
 | d::l=>d+B*val B l
def dS (B:Nat) (l:List Nat):Prop:=∀ d∈l,d<B
theorem dS.nil {B:Nat}:dS B []:=fun _ h=>by cases h
theorem dS.cons {B d:Nat} {l:List Nat} (h:d<B) (k:dS B l):dS B (d::l):=fun x hx=>by
 rcases List.mem_cons.1 hx with e|e
 ·rw [e];exact h
 ·exact k x e
theorem dS.head {B d:Nat} {l:List Nat} (h:dS B (d::l)):d<B:=h d zi
theorem dS.tail {B d:Nat} {l:List Nat} (h:dS B (d::l)):dS B l:=fun x hx=>h x (by simp [hx])
theorem dS.append {B:Nat} {l m:List Nat} (h:dS B l) (k:dS B m):dS B (l++m):=fun x hx=>by
 rcases List.mem_append.1 hx with e|e
 ·exact h x e
 ·exact k x e
theorem dS.snoc {B d:Nat} {l:List Nat} (h:dS B l) (k:d<B):dS B (l++[d]):=h.append (dS.nil.cons k)
theorem dS.take {B:Nat} {l:List Nat} (h:dS B l) (n:Nat):dS B (l.take n):=fun x hx=>h x (List.mem_of_mem_take hx)
theorem dS.drop {B:Nat} {l:List Nat} (h:dS B l) (n:Nat):dS B (l.drop n):=fun x hx=>h x (List.mem_of_mem_drop hx)
theorem dS.get {B:Nat} {l:List Nat} (h:dS B l) {i:Nat} (hi:i<l.length):l[i]<B:=h _ (List.getElem_mem hi)
theorem dS.getD {B:Nat} {l:List Nat} (h:dS B l) (hB:0<B) (i:Nat):l.getD i 0<B:=by
 by_cases hi:i<l.length
 ·simpa [hi] using h.get hi
 ·simpa [Nat.le_of_not_lt hi] using hB
theorem val_append (B:Nat):∀ (l m:List Nat),val B (l++m)=val B l+B^l.length*val B m
 | [],m=>by simp [val]
 | d::l,m=>by
  simp only [List.cons_append,val,val_append B l m,List.length_cons,Nat.pow_succ,Nat.mul_add,Nat.add_assoc];rw [show B*(B^l.length*val B m)=B^l.length*B*val B m by rw [← Nat.mul_assoc,Nat.mul_comm B]]
theorem gU (B:Nat) (l:List Nat) (d:Nat):val B (l++[d])=val B l+B^l.length*d:=by
 rw [val_append];simp [val]
theorem vG (B n:Nat):val B (List.replicate n 0)=0:=by
 induction n with
 | zero=>rfl
 | succ n ih=>simp [List.replicate_succ,val,ih]
theorem gJ {B:Nat} (hB:0<B):∀ {l:List Nat},dS B l→val B l<B^l.length
 | [],_=>by simp [val]
 | d::l,h=>by
  have h1:=gJ hB h.tail;have h2:=h.head;simp only [val,List.length_cons,Nat.pow_succ];have:B*(val B l+1)≤B*B^l.length:=Nat.mul_le_mul_left B h1;rw [Nat.mul_comm (B^l.length) B];rw [Nat.mul_add] at this;omega
def bW (B n:Nat):List Nat:=if _h:1<B∧0<n then n%B::bW B (n / B) else []
termination_by n
decreasing_by exact Nat.div_lt_self _h.2 _h.1
theorem fM (B:Nat):bW B 0=[]:=by unfold bW;simp
theorem jF {B n:Nat} (hB:1<B) (h:0<n):bW B n=n%B::bW B (n / B):=by rw [bW];simp [hB,h]
theorem aP {B:Nat} (hB:1<B) (n:Nat):val B (bW B n)=n:=by
 induction n using Nat.strongRecOn with
 | _ n ih =>
  rcases Nat.eq_zero_or_pos n with h|h
  ·subst h;simp [fM,val]
  ·rw [jF hB h,val,ih _ (Nat.div_lt_self h hB)];exact Nat.mod_add_div n B
theorem aT {B:Nat} (hB:1<B) (n:Nat):dS B (bW B n):=by
 induction n using Nat.strongRecOn with
 | _ n ih =>
  rcases Nat.eq_zero_or_pos n with h|h
  ·subst h;rw [fM];exact dS.nil
  ·rw [jF hB h];exact (ih _ (Nat.div_lt_self h hB)).cons (Nat.mod_lt _ zo)
def Top (l:List Nat):Prop:=∀ k,l.length=k+1→l.getD k 0≠0
theorem Top.nil:Top []:=fun _ h=>by cases h
theorem Top.tail {d:Nat} {l:List Nat} (h:Top (d::l)):Top l:=fun k hk=>by
 have:=h (k+1) (by simp [hk])
 simpa using this
theorem Top.snoc {l:List Nat} {d:Nat} (h:d≠0):Top (l++[d]):=fun k hk=>by
 have:k=l.length:=by simp at hk;omega
 subst this;simpa using h
theorem Top.cons {d:Nat} {l:List Nat} (h:Top l) (hn:l≠[]):Top (d::l):=fun k hk=>by
 simp at hk
 cases k with
 | zero=>exact absurd (List.length_eq_zero_iff.1 hk) hn
 | succ k=>have:=h k hk;simpa using this
theorem nD {B n:Nat} (hB:1<B):bW B n=[]↔n=0:=by
 constructor
 ·intro h
  rcases Nat.eq_zero_or_pos n with h0|h0
  ·exact h0
  ·rw [jF hB h0] at h;cases h
 ·rintro rfl;exact fM B
theorem mV {B:Nat} (hB:1<B) (n:Nat):Top (bW B n):=by
 induction n using Nat.strongRecOn with
 | _ n ih =>
  rcases Nat.eq_zero_or_pos n with h|h
  ·subst h;rw [fM];exact Top.nil
  ·rw [jF hB h]
   by_cases h2:n / B=0
   ·rw [h2,fM];intro k hk;have:k=0:=by simp at hk;omega
    subst this;have:n<B:=(Nat.div_eq_zero_iff_lt zo).1 h2
    simpa [Nat.mod_eq_of_lt this] using Nat.pos_iff_ne_zero.1 h
   ·exact (ih _ (Nat.div_lt_self h hB)).cons (fun e=>h2 ((nD hB).1 e))
theorem gV {B:Nat} (hB:0<B):∀ {l:List Nat},Top l→l≠[]→0<val B l
 | [],_,h=>absurd rfl h
 | [d],h,_=>by have:=h 0 rfl;simp [val] at this ⊢;omega
 | d::e::l,h,_=>by
  have:=gV hB h.tail zi;simp only [val] at this ⊢;have:0<B*(e+B*val B l):=Nat.mul_pos hB this;omega
theorem Fv {B:Nat} (hB:1<B):∀ {l:List Nat},dS B l→Top l→bW B (val B l)=l
 | [],_,_=>by simp [val,fM]
 | d::l,hd,ht=>by
  have hp:=gV (B:=B) zo ht zi;rw [jF hB hp];simp only [val];have h1:(d+B*val B l)%B=d:=by rw [Nat.add_mul_mod_self_left];exact Nat.mod_eq_of_lt hd.head
  have h2:(d+B*val B l) / B=val B l:=by
   rw [Nat.add_mul_div_left _ _ zo,Nat.div_eq_of_lt hd.head,Nat.zero_add]
  rw [h1,h2,Fv hB hd.tail ht.tail]
theorem ji {l:List Nat} {k:Nat} (h:k<l.length):l.take (k+1)=l.take k++[l.getD k 0]:=by
 rw [List.take_succ_eq_append_getElem h];simp [h]
theorem bg (B:Nat) {l:List Nat} {k:Nat} (h:k<l.length):val B (l.take (k+1))=val B (l.take k)+B^k*l.getD k 0:=by
 rw [ji h,gU];simp [Nat.min_eq_left (Nat.le_of_lt h)]
def sz (B n:Nat):Nat:=(bW B n).length
theorem BU (B:Nat):sz B 0=0:=by simp [sz,fM]
theorem iq {B:Nat} (hB:1<B) (n:Nat):n<B^sz B n:=by
 have:=gJ zo (aT hB n)
 rwa [aP hB] at this
theorem aR {B:Nat} (hB:1<B):∀ (k n:Nat),n<B^k→sz B n≤k
 | 0,n,h=>by
  have:n=0:=by simpa using h
  subst this;simp [BU]
 | k+1,n,h=>by
  rcases Nat.eq_zero_or_pos n with h0|h0
  ·subst h0;simp [BU]
  ·unfold sz;rw [jF hB h0,List.length_cons]
   have:n / B<B^k:=by
    rw [Nat.div_lt_iff_lt_mul zo]
    rwa [Nat.pow_succ] at h
   have:=aR hB k (n / B) this;unfold sz at this;omega
theorem JO {B:Nat} (hB:1<B) {n k:Nat} (h:sz B n=k+1):B^k≤n:=by
 rcases Nat.lt_or_ge n (B^k) with h1|h1
 ·have:=aR hB k n h1;omega
 ·exact h1
theorem dh {B:Nat} (hB:1<B) {m n:Nat} (h:m≤n):sz B m≤sz B n :=
 aR hB _ _ (Nat.lt_of_le_of_lt h (iq hB n))
theorem wV {B:Nat} (hB:1<B) (m n:Nat):sz B (m+n)≤max (sz B m) (sz B n)+1:=by
 refine aR hB _ _ ?_;have h1:=iq hB m;have h2:=iq hB n;have h3:B^sz B m≤B^max (sz B m) (sz B n):=Nat.pow_le_pow_right zo (Nat.le_max_left _ _);have h4:B^sz B n≤B^max (sz B m) (sz B n):=Nat.pow_le_pow_right zo (Nat.le_max_right _ _);rw [Nat.pow_succ];have:B^max (sz B m) (sz B n)*2≤B^max (sz B m) (sz B n)*B:=Nat.mul_le_mul_left _ hB;omega
theorem jL {B:Nat} (hB:1<B) (m n:Nat):sz B (m*n)≤sz B m+sz B n:=by
 refine aR hB _ _ ?_;rw [Nat.pow_add];exact Nat.mul_lt_mul'' (iq hB m) (iq hB n)
def trimLen (l:List Nat):Nat→Nat
 | 0=>0
 | n+1=>if l.getD n 0=0 then trimLen l n else n+1
theorem trimLen_le (l:List Nat):∀ n,trimLen l n≤n
 | 0=>Nat.le_refl _
 | n+1=>by
  unfold trimLen;split
  ·exact Nat.le_succ_of_le (trimLen_le l n)
  ·exact Nat.le_refl _
theorem xZ (l:List Nat):∀ n,n≤l.length→Top (l.take (trimLen l n))
 | 0,_=>Top.nil
 | n+1,h=>by
  unfold trimLen;split
  ·exact xZ l n zo
  ·rename_i h0;intro k hk;have:k=n:=by simp [Nat.min_eq_left h] at hk;omega
   subst this;rw [ji zo];have hl:(l.take k).length=k:=by simp;omega
   rw [List.getD_eq_getElem?_getD,List.getElem?_append_right zo]
   simpa [hl] using h0
theorem xY (B:Nat) (l:List Nat):∀ n,n≤l.length→val B (l.take (trimLen l n))=val B (l.take n)
 | 0,_=>rfl
 | n+1,h=>by
  unfold trimLen;split
  ·rename_i h0;rw [xY B l n zo,bg B zo,h0];simp
  ·rfl
theorem vH {B:Nat} (hB:0<B) {l m:List Nat} {k:Nat} (hl:dS B l) (hk:k<l.length) (hk':k<m.length) (hd:l.drop (k+1)=m.drop (k+1)) (h:l.getD k 0<m.getD k 0):val B l<val B m:=by
 have e:∀ x:List Nat,k<x.length→val B x=val B (x.take k)+B^k*x.getD k 0+B^(k+1)*val B (x.drop (k+1)):=fun x hx=>by
  have h1:x=x.take (k+1)++x.drop (k+1):=(List.take_append_drop _ _).symm;have h2:(x.take (k+1)).length=k+1:=by simp;omega
  conv=>lhs;rw [h1,val_append,h2,bg B hx]
 rw [e l hk,e m hk',hd];have h1:=gJ hB (hl.take k);have h2:(l.take k).length=k:=by simp;omega
 rw [h2] at h1;have h3:B^k*(l.getD k 0+1)≤B^k*m.getD k 0:=Nat.mul_le_mul_left _ h;rw [Nat.mul_add] at h3;omega
theorem uL {B:Nat} (hB:1<B) {a b:Nat} (h:sz B a<sz B b):a<b:=by
 rcases Nat.lt_or_ge a b with h1|h1
 ·exact h1
 ·have:=dh hB h1;omega
theorem iH {l:List Nat} {k:Nat} (h:k<l.length):l.drop k=l.getD k 0::l.drop (k+1):=by
 rw [List.drop_eq_getElem_cons h];simp [h]
theorem Pq {B:Nat} (hB:1<B) {l s:List Nat} (ht:Top l) (hs:dS B s) (hlen:s.length=l.length) (h:val B l≤val B s):Top s:=by
 intro k hk h0;have hk':l.length=k+1:=by omega
 have h1:=ht k hk'
 have h2:val B s<B^k:=by
  have e:s=s.take k++[s.getD k 0]:=by rw [← ji zo,← hk,List.take_length]
  rw [e,h0,gU,Nat.mul_zero,Nat.add_zero];have:=gJ (by omega:0<B) (hs.take k)
  rwa [show (s.take k).length=k by simp;omega] at this
 have h3:B^k≤val B l:=by
  have e:l=l.take k++[l.getD k 0]:=by rw [← ji zo,← hk',List.take_length]
  rw [e,gU,show (l.take k).length=k by simp;omega];have:B^k*1≤B^k*l.getD k 0:=Nat.mul_le_mul_left _ zo;omega
 omega
theorem set_mid {s:List Nat} {n k d:Nat} (hs:s.length=k) (hk:k<n):(s++List.replicate (n - k) 0).set k d=(s++[d])++List.replicate (n - (k+1)) 0:=by
 obtain ⟨j,hj⟩:∃ j,n - k=j+1:=⟨n - k - 1,by omega⟩;rw [hj,show n - (k+1)=j by omega,List.replicate_succ,List.set_append_right _ _ zo,hs,Nat.sub_self];simp
theorem aa2 {s:List Nat} {n k:Nat} (hs:s.length=k):(s++List.replicate n 0).getD k 0=0:=by
 rw [List.getD_eq_getElem?_getD,List.getElem?_append_right zo,hs,Nat.sub_self];cases n<;>simp [List.replicate_succ]
theorem Dr {B:Nat} {l m s:List Nat} {k c d c':Nat} (hk:k<l.length) (hs:s.length=k) (he:val B s+val B (m.take k)=val B (l.take k)+c*B^k) (h:d+m.getD k 0+c=l.getD k 0+c'*B) :
  val B (s++[d])+val B (m.take (k+1))=val B (l.take (k+1))+c'*B^(k+1):=by
 have hm:val B (m.take (k+1))=val B (m.take k)+B^k*m.getD k 0:=by
  by_cases hkm:k<m.length
  ·exact bg B hkm
  ·rw [List.take_of_length_le zo,List.take_of_length_le zo];simp [Nat.le_of_not_lt hkm]
 rw [gU,bg B hk,hm,hs,Nat.pow_succ];have h2:=congrArg (B^k* ·) h;simp only [Nat.mul_add] at h2;rw [show c'*(B^k*B)=B^k*(c'*B) by rw [Nat.mul_left_comm]];rw [Nat.mul_comm c (B^k)] at he;omega
theorem Jv (B:Nat):∀ (l:List Nat) (t x:Nat),t<l.length→val B (l.set t x)+B^t*l.getD t 0=val B l+B^t*x
 | [],_,_,h=>by cases h
 | a::l,0,x,_=>by simp [val];omega
 | a::l,t+1,x,h=>by
  have ih:=Jv B l t x (by simpa using h);simp only [List.set_cons_succ,val,List.getD_cons_succ,Nat.pow_succ];have h2:=congrArg (B* ·) ih;simp only [Nat.mul_add] at h2;rw [show B^t*B*l.getD t 0=B*(B^t*l.getD t 0) by rw [Nat.mul_comm (B^t) B,Nat.mul_assoc],show B^t*B*x=B*(B^t*x) by rw [Nat.mul_comm (B^t) B,Nat.mul_assoc]];omega
theorem dS.set {B:Nat} {l:List Nat} (h:dS B l) (t:Nat) {x:Nat} (hx:x<B):dS B (l.set t x):=fun y hy=>by
 rcases List.mem_or_eq_of_mem_set hy with e|e
 ·exact h y e
 ·rw [e];exact hx
theorem Cc {l:List Nat} {t u x:Nat} (h:t≠u):(l.set t x).getD u 0=l.getD u 0:=by simp [List.getElem?_set_ne h]
theorem CU {B:Nat} {m p:List Nat} {i j c d V:Nat} (hj:j<m.length) (hp:i+j<p.length) (he:val B p+c*B^(i+j)=V+B^i*(d*val B (m.take j))) :
  val B (p.set (i+j) ((c+(p.getD (i+j) 0+d*m.getD j 0))%B))+(c+(p.getD (i+j) 0+d*m.getD j 0)) / B*B^(i+j+1)=V+B^i*(d*val B (m.take (j+1))):=by
 have h1:=Jv B p (i+j) ((c+(p.getD (i+j) 0+d*m.getD j 0))%B) hp;rw [bg B hj];generalize hX:c+(p.getD (i+j) 0+d*m.getD j 0)=X at *
 have h2:B^(i+j)*(X%B)+X / B*B^(i+j+1)=B^(i+j)*X:=by
  rw [Nat.pow_succ,show X / B*(B^(i+j)*B)=B^(i+j)*(B*(X / B)) by rw [Nat.mul_left_comm,Nat.mul_comm (X / B) B],← Nat.mul_add,Nat.mod_add_div]
 have h3:B^(i+j)*X=c*B^(i+j)+B^(i+j)*p.getD (i+j) 0+B^i*(d*(B^j*m.getD j 0)):=by
  rw [← hX,Nat.mul_add,Nat.mul_add,Nat.mul_comm c,Nat.pow_add];rw [show B^i*(d*(B^j*m.getD j 0))=B^i*B^j*(d*m.getD j 0) by rw [Nat.mul_assoc (B^i),Nat.mul_left_comm d]];omega
 rw [Nat.mul_add d,Nat.mul_add (B^i)];omega
theorem AJ {B c x d e:Nat} (hc:c<B) (hx:x<B) (hd:d<B) (he:e<B):(c+(x+d*e)) / B<B:=by
 rw [Nat.div_lt_iff_lt_mul zo];have h1:d*e≤(B - 1)*(B - 1):=Nat.mul_le_mul zo zo;obtain ⟨b,rfl⟩:∃ b,B=b+1:=⟨B - 1,by omega⟩;simp only [Nat.add_sub_cancel] at h1;have h2:(b+1)*(b+1)=b*b+2*b+1:=by simp only [Nat.add_mul,Nat.mul_add];omega
 omega
theorem AB {B:Nat} {l m p:List Nat} {i c:Nat} (hi:i<l.length) (hp:i+m.length<p.length) (hz:p.getD (i+m.length) 0=0)
  (he:val B p+c*B^(i+m.length)=val B (l.take i)*val B m+B^i*(l.getD i 0*val B m)):val B (p.set (i+m.length) c)=val B (l.take (i+1))*val B m:=by
 have h1:=Jv B p (i+m.length) c hp;rw [hz,Nat.mul_zero,Nat.add_zero,Nat.mul_comm _ c] at h1;rw [h1,he,bg B hi,Nat.add_mul,Nat.mul_assoc]
theorem CY {B:Nat} {l s:List Nat} {j d r:Nat} (hj:j<l.length) (he:val B (l.drop (j+1))=d*val B s+r) :
  val B (l.drop j)=d*val B ((r*B+l.getD j 0) / d::s)+(r*B+l.getD j 0)%d:=by
 rw [iH hj];simp only [val];rw [he];have h:=Nat.div_add_mod (r*B+l.getD j 0) d;have e1:d*((r*B+l.getD j 0) / d+B*val B s)=d*((r*B+l.getD j 0) / d)+B*(d*val B s):=by rw [Nat.mul_add,Nat.mul_left_comm]
 have e2:B*(d*val B s+r)=B*(d*val B s)+r*B:=by rw [Nat.mul_add,Nat.mul_comm B r]
 rw [e1,e2];omega
theorem AO {B d r x:Nat} (hr:r<d) (hx:x<B):(r*B+x) / d<B:=by
 rw [Nat.div_lt_iff_lt_mul zo];have h:(r+1)*B≤d*B:=Nat.mul_le_mul_right _ hr;rw [Nat.add_mul,Nat.one_mul] at h;rw [Nat.mul_comm B d];omega
theorem yA {s:List Nat} {k d:Nat}:(List.replicate (k+1) 0++s).set k d=List.replicate k 0++d::s:=by
 rw [List.replicate_succ',List.append_assoc,List.set_append_right _ _ zi];simp
theorem vS {s:List Nat} {k j:Nat} (h:j<k):(List.replicate k 0++s).getD j 0=0:=by
 rw [List.getD_eq_getElem?_getD,List.getElem?_append_left (by simpa using h)];simp [h]
theorem rM {B:Nat} {l:List Nat} {j:Nat} (hj:j<l.length):val B (l.drop j)=val B (l.drop (j+1))*B+l.getD j 0:=by
 rw [iH hj];simp only [val];rw [Nat.mul_comm B,Nat.add_comm]
theorem uf (B:Nat) (hB:0<B):∀ (l:List Nat) (k:Nat),val B (l.drop k)≤val B l
 | [],k=>by simp
 | d::l,0=>by simp
 | d::l,k+1=>by
  have h:=uf B hB l k;have h2:val B l*1≤val B l*B:=Nat.mul_le_mul_left _ hB;rw [List.drop_succ_cons];simp only [val];rw [Nat.mul_comm B];omega
theorem JI {pre s u post:List Nat} {i j d:Nat} (hj:pre.length=j) (hs:s.length=i) (hi:i<u.length):(pre++(s++u.drop i)++post).set (j+i) d=pre++((s++[d])++u.drop (i+1))++post:=by
 rw [List.append_assoc,List.set_append_right _ _ zo,hj,Nat.add_sub_cancel_left,List.append_assoc s,List.set_append_right _ _ zo,hs,Nat.sub_self,iH hi,List.cons_append,List.set_cons_zero];simp
theorem getD_in {s u:List Nat} {i t:Nat} (hs:s.length=i) (ht:i≤t):(s++u.drop i).getD t 0=u.getD t 0:=by
 rw [List.getD_eq_getElem?_getD,List.getElem?_append_right zo,List.getElem?_drop,hs,Nat.add_sub_cancel' ht,← List.getD_eq_getElem?_getD]
end Go.Num
namespace Go.SW
open Go Go.RowKit
inductive K where
 | pure|read|alloc (cs:Array Value) (T:TypeId)|ext|fin
def K.gY:K→Bool
 | .alloc .. =>true
 | _=>false
def K.isFin:K→Bool
 | .fin=>true
 | _=>false
section
variable {P:Program} {ops:Array Oper} {Q:Exit→Act→World→Prop}
theorem kJ {w w1 w2:World} (h:Below w.heap.size w w1) (k:Below w1.heap.size w1 w2):Below w.heap.size w w2 :=
 h.trans (k.mono h.size)
/-! ### The check on a region, by computation -/
def anc (ops:Array Oper):Nat→Nat→Nat→Bool
 | 0,_,_=>false
 | n+1,i,u=>match ops[i]? with
  | none=>false
  | some o=>o.after.any (fun e=>Region.binds .any e&&e.on == u) || o.after.any (fun e=>Region.binds .any e&&anc ops n e.on u)
def edge (ops:Array Oper) (i u:Nat):Bool:=match ops[i]? with
 | none=>false
 | some o=>o.after.any (fun e=>Region.binds .any e&&e.on == u)
def fwd (ops:Array Oper) (p q:Nat):Bool:=match ops[p]?, ops[q]? with
 | some x,some y =>
  (match y.dst with|some d=> !(x.looksAt ops).contains d&&x.dst != some d|none=>true) &&
  (match x.dst with|some d=> !(y.looksAt ops).contains d || edge ops q p|none=>true)
 | _,_=>false
def xw (ops:Array Oper) (p:Nat):Bool:=match ops[p]? with
 | some x=>(match x.dst with|some d=> !(x.looksAt ops).contains d|none=>true)
 | none=>false
theorem su {s a:Act} {o:Oper} (hs:∀ cs b,o.op≠ .select cs b) (h:∀ t,t∈o.looksAt ops→s.tmps[t]? =a.tmps[t]?):execOp s.eval o=execOp a.eval o :=
 execOp_congr o hs fun x hx=>by
  cases x with
  | tmp t =>
   have:=h t (List.mem_append_left _ (List.mem_filterMap.2 ⟨.tmp t,by simpa using hx,rfl⟩));simp only [Act.eval,Array.getD_eq_getD_getElem?, this]
  | const v=>rfl
  | global g=>rfl
  | func f=>rfl
theorem nO {s a:Act} {o:Oper} (h:∀ t,t∈o.looksAt ops→s.tmps[t]? =a.tmps[t]?):Region.wanted o (yielded ops s.tmps)=Region.wanted o (yielded ops a.tmps):=by
 unfold Region.wanted;cases hg:o.guard with
 | none=>rfl
 | some gw =>
  obtain ⟨g,want⟩:=gw
  have hy:yielded ops s.tmps g=yielded ops a.tmps g:=by
   unfold yielded;cases ht:(ops[g]?).bind (·.dst) with
   | none=>rfl
   | some t =>
    have:=h t (by simp [Oper.looksAt,hg,ht]);simp [this]
  simp only [hy]
theorem Cr {i:Nat} {o:Oper} {s a:Act} {w:World} {K K':Act→World→Prop} (hi:ops[i]? =some o) (hs:∀ cs b,o.op≠ .select cs b)
  (hl:∀ t,t∈o.looksAt ops→s.tmps[t]? =a.tmps[t]?) (hd:s.defers=a.defers)
  (hQ:∀ c (a s:Act) w,s.defers=a.defers→Q (.panic c) a w→Q (.panic c) s w)
  (hK:∀ ds v w',K (({ a with defers:=ds }:Act).put o.dst v) w'→K' (({ s with defers:=ds }:Act).put o.dst v) w')
  (h:wpOp P ops Q i K a w):wpOp P ops Q i K' s w:=by
 have hev:=su hs hl;have hw:=nO (ops:=ops) hl
 have hK0:∀ v w',K (a.put o.dst v) w'→K' (s.put o.dst v) w':=fun v w' hk=>by
  have:=hK a.defers v w' hk;rw [← hd] at this;exact this
 unfold wpOp at *;simp only [hi] at *;rw [hw];split
 ·rename_i hwt;simp only [hwt,if_true] at h
  rcases h with h|⟨hasks,hlets⟩
  case inr=>exact .inr ⟨by unfold Oper.asks at*; rw [hev];exact hasks,hlets⟩
  refine .inl ?_;unfold Oper.wp at *;rw [hev];generalize (execOp a.eval o).run P w=r at *;cases r with
  | ok n w' =>
   cases n<;>simp only [Oper.upon] at h ⊢
   case value u=>exact hK0 _ _ h
   case skip=>exact hK0 _ _ h
   case defer d=>rw [hd];exact hK _ _ _ h
   case enter f args =>
    refine Calls.mono h fun e w'' he=>?_;cases e with
    | returned u=>exact hK0 _ _ he
    | panicked c=>exact hQ _ _ _ _ hd he
    | outgrown=>exact he
   case row row args=>exact Rows.mono h fun u w'' he=>hK0 _ _ he
  | halt x w' =>
   cases x<;>simp only [Oper.upon] at h ⊢
   case panic u=>exact hQ _ _ _ _ hd h
 ·rename_i hwt;simp only [hwt,if_false,Bool.false_eq_true] at h;exact hK0 _ _ h
def pY (ops:Array Oper) (i:Nat):Option Tmp:=(ops[i]?).bind (·.dst)
theorem eZ {i:Nat} {o:Oper} (h:ops[i]? =some o):pY ops i=o.dst:=by simp [pY,h]
theorem kV {p q:Nat} {x y:Oper} (hx:ops[p]? =some x) (hy:ops[q]? =some y) (h:fwd ops p q=true) :
  (∀ d,y.dst=some d→d∉x.looksAt ops∧x.dst≠some d)∧(∀ d,x.dst=some d→d∈y.looksAt ops→edge ops q p=true):=by
 unfold fwd at h;simp only [hx,hy,Bool.and_eq_true] at h;refine ⟨fun d hd=>?_,fun d hd hm=>?_⟩
 ·have h1:=h.1;simp only [hd,Bool.and_eq_true,Bool.not_eq_true',bne_iff_ne,ne_eq] at h1;exact ⟨by simpa using h1.1,h1.2⟩
 ·have h2:=h.2;simp only [hd,Bool.or_eq_true,Bool.not_eq_true'] at h2
  rcases h2 with h2|h2
  ·simp [hm] at h2
  ·exact h2
theorem vV {q p:Nat} {y:Oper} (hy:ops[q]? =some y) (h:edge ops q p=true):∃ e∈y.after,Region.binds .any e=true∧e.on=p:=by
 unfold edge at h;simp only [hy] at h;obtain ⟨e,he,hb⟩:=Array.any_eq_true'.1 h;simp only [Bool.and_eq_true,beq_iff_eq] at hb;exact ⟨e,he,hb.1,hb.2⟩
def Closed (ops:Array Oper) (listed:Array Bool):Prop:=∀ j o,ops[j]? =some o→listed.getD j false=true→∀ e∈o.after,Region.binds .any e=true→listed.getD e.on false=true
theorem Gi {listed:Array Bool} (hc:Closed ops listed):∀ (n i u:Nat),anc ops n i u=true→(∀ o,ops[i]? =some o→∀ e∈o.after,Region.binds .any e=true→listed.getD e.on false=true)→listed.getD u false=true
 | 0,_,_,h,_=>by simp [anc] at h
 | n+1,i,u,h,hr=>by
  unfold anc at h;cases ho:ops[i]? with
  | none=>simp only [ho] at h;cases h
  | some o =>
   simp only [ho,Bool.or_eq_true] at h
   rcases h with h|h
   ·obtain ⟨e,he,hb⟩:=Array.any_eq_true'.1 h;simp only [Bool.and_eq_true,beq_iff_eq] at hb;exact hb.2 ▸ hr o ho e he hb.1
   ·obtain ⟨e,he,hb⟩:=Array.any_eq_true'.1 h;simp only [Bool.and_eq_true] at hb;have hl:=hr o ho e he hb.1;exact Gi hc n e.on u hb.2 fun o' ho' e' he' hb'=>hc e.on o' ho' hl e' he' hb'
theorem sG {listed:Array Bool} {r:Nat} {o:Oper} (hc:Closed ops listed) (hr:ops[r]? =some o) (aU4:∀ e∈o.after,Region.binds .any e=true→listed.getD e.on false=true) :
  Closed ops (listed.setIfInBounds r true):=by
 intro j oj hj hl e he hb;refine getD_set_true ?_
 by_cases h:r=j
 ·subst h;rw [hr] at hj;cases hj;exact aU4 e he hb
 ·rw [getD_set_ne false h] at hl;exact hc j oj hj hl e he hb
theorem kN (a:Act) {x:Option Tmp} {t:Tmp} (v:Value) (h:x≠some t):(a.put x v).tmps[t]? =a.tmps[t]? :=by
 cases x with
 | none=>rfl
 | some d =>
  have:d≠t:=fun e=>h (by rw [e]);simp [Act.put,Array.getElem?_setIfInBounds_ne this]
theorem put_eq (a:Act) {t:Tmp} (v:Value) (h:t<a.tmps.size):(a.put (some t) v).tmps[t]? =some v:=by
 simp [Act.put,h]
theorem fG (a:Act) (x:Option Tmp) (v:Value):(a.put x v).tmps.size=a.tmps.size:=by
 cases x<;>simp [Act.put]
theorem kG (a:Act) (x:Option Tmp) (v:Value):(a.put x v).defers=a.defers:=by cases x<;>rfl
def compat (ops:Array Oper) (x y:Nat):Prop :=
 (∀ d,pY ops x=some d→pY ops y≠some d)∧(∀ d o,pY ops x=some d→ops[y]? =some o→d∈o.looksAt ops→edge ops y x=true)
theorem iY {p q:Nat} (h:fwd ops p q=true):compat ops p q∧compat ops q p:=by
 unfold fwd at h;cases hx:ops[p]? with
 | none=>simp [hx] at h
 | some x =>
  cases hy:ops[q]? with
  | none=>simp [hx,hy] at h
  | some y =>
   have hf:fwd ops p q=true:=by unfold fwd;simpa [hx,hy] using h
   obtain ⟨h1,h2⟩:=kV hx hy hf;refine ⟨⟨fun d hd hd'=>?_,fun d o hd ho hm=>?_⟩,⟨fun d hd hd'=>?_,fun d o hd ho hm=>?_⟩⟩
   ·rw [eZ hx] at hd;rw [eZ hy] at hd';exact (h1 d hd').2 hd
   ·rw [hy] at ho;cases ho;rw [eZ hx] at hd;exact h2 d hd hm
   ·rw [eZ hy] at hd;rw [eZ hx] at hd';exact (h1 d hd).2 hd'
   ·rw [hx] at ho;cases ho;rw [eZ hy] at hd;exact absurd hm (h1 d hd).1
theorem fQ {listed:Array Bool} {r:Nat} (hr:r∈Region.ready .any ops listed):∃ o,ops[r]? =some o∧listed.getD r true=false∧∀ e∈o.after,Region.binds .any e=true→listed.getD e.on false=true:=by
 obtain ⟨h0,o,ho,h⟩:=mem_ready.1 hr;exact ⟨o,ho,h0,h⟩
theorem getD_both {listed:Array Bool} {i:Nat} (h:listed.getD i true=false):listed.getD i false=false:=by
 rcases Nat.lt_or_ge i listed.size with h'|h'
 ·simpa [h'] using h
 ·simp [Array.getElem?_eq_none h'] at h
theorem nW {listed:Array Bool} {r i:Nat} (hi:i<listed.size):(listed.setIfInBounds r true).getD i true=false↔listed.getD i true=false∧i≠r:=by
 by_cases h:r=i
 ·subst h;simp [hi]
 ·rw [getD_set_ne true h];exact ⟨fun x=>⟨x,fun e=>h e.symm⟩,fun x=>x.1⟩
def ordered (ops:Array Oper):Bool:=(List.range ops.size).all fun i=>match ops[i]? with
 | some o=>o.after.all (fun e=> !Region.binds .any e || e.on<i)
 | none=>true
theorem Rp {listed:Array Bool} (ho:ordered ops=true) (hsz:listed.size=ops.size) (hr:Region.ready .any ops listed=[]):∀ i,i<ops.size→listed.getD i true=true:=by
 intro i
 induction i using Nat.strongRecOn with
 | _ i ih =>
  intro hi;cases hl:listed.getD i true with
  | true=>rfl
  | false =>
   exfalso
   have ho':ops[i]? =some ops[i]:=by simp [hi]
   have hmem:i∈Region.ready .any ops listed:=mem_ready.2 ⟨hl,ops[i],ho',fun e he hb=>by
    unfold ordered at ho;have h1:=List.all_eq_true.1 ho i (List.mem_range.2 hi);simp only [ho'] at h1;have h2:=Array.all_eq_true_iff_forall_mem.1 h1 e he;simp only [hb,Bool.not_true,Bool.false_or,decide_eq_true_eq] at h2;have h3:=ih e.on h2 zo;have:e.on<listed.size:=by omega
    simpa [this] using h3⟩
   rw [hr] at hmem;cases hmem
def Led (ops:Array Oper):Prop:=∀ (listed:Array Bool),listed.size=ops.size→Region.ready .any ops listed=[]→∀ i,i<ops.size→listed.getD i true=true
theorem ax2 (ho:ordered ops=true):Led ops:=fun _ hsz hr=>Rp ho hsz hr
theorem UK {s a:Act} (hd:s.defers=a.defers) (h:∀ t:Nat,s.tmps[t]? =a.tmps[t]?):s=a:=by
 obtain ⟨t,d⟩:=s;obtain ⟨t',d'⟩:=a;simp only at hd h;rw [hd,Array.ext_getElem? h]
def K.isPure:K→Bool
 | .pure=>true
 | _=>false
def kQ (ops:Array Oper) (x q:K × Nat):Bool:=if q.1.isFin then (anc ops ops.size q.2 x.2 || (x.1.isPure&&fwd ops x.2 q.2)) else fwd ops x.2 q.2
def blocked (ops:Array Oper) (i:Nat) (is:List (K × Nat)) (q:K × Nat):Bool:=q.1.gY || edge ops q.2 i || is.any (fun r=> !r.1.gY&&edge ops q.2 r.2)
def iE (ops:Array Oper):List (K × Nat)→Bool
 | []=>true
 | (k,i)::is=>(match k with
  | .pure| .read=>xw ops i&&is.all (kQ ops (k,i))
  | .alloc .. =>is.all (kQ ops (k,i))&&is.all (blocked ops i is)
  | .ext=>is.all (kQ ops (k,i))&&is.all (blocked ops i is)
  | .fin=>is.all (·.1.isFin)&&is.all (blocked ops i is))&&(ops[i]?).isSome&&iE ops is
def check (ops:Array Oper) (is:List (K × Nat)):Bool :=
 Region.noSelect ops&&ordered ops&&iE ops is&&decide (is.map (·.2)).Nodup&&decide (is.length≤ops.size)&&(List.range ops.size).all (fun i=>(is.map (·.2)).contains i)
theorem gB {listed:Array Bool} {q r:Nat} (hr:q∈Region.ready .any ops listed) (he:edge ops q r=true) (hun:listed.getD r true=false):False:=by
 obtain ⟨o,ho,_,hall⟩:=fQ hr;obtain ⟨e,h1,h2,h3⟩:=vV ho he;have:=hall e h1 h2;rw [h3,getD_both hun] at this;cases this
theorem yC {listed:Array Bool} {q:Nat} (hr:q∈Region.ready .any ops listed):q<ops.size:=by
 obtain ⟨o,ho,_⟩:=fQ hr;exact (Array.getElem?_eq_some_iff.1 ho).1
def rF (P:Program) (ops:Array Oper) (is:List (K × Nat)):Prop :=
 ∀ cs T j,(K.alloc cs T,j)∈is→∀ o,ops[j]? =some o→o.guard=none∧∀ ρ w,(execOp ρ o).run P w= .ok (.value (.pointer (some ⟨w.heap.size,0,none⟩))) (w.alloc (.cells cs T (0,0)))
structure Early (ops:Array Oper) (N:Nat) (is:List (K × Nat)) (A:List Nat) (E:List (Nat × Nat)) (s a:Act) (w:World):Prop where
 good:∀ p∈E,∃ cs T,(K.alloc cs T,p.1)∈is∧w.heap[p.2]? =some (.cells cs T (0,0))∧N≤p.2∧p.2<w.heap.size∧p.2∉A
 dist:∀ p∈E,∀ q∈E,p.1≠q.1→p.2≠q.2
 slot:∀ p∈E,∀ d,pY ops p.1=some d→d<a.tmps.size→s.tmps[d]? =some (.pointer (some ⟨p.2,0,none⟩))
 old:∀ x∈A,x<w.heap.size
 base:N≤w.heap.size
def dL (is:List (K × Nat)) (E:List (Nat × Nat)):Nat:=(is.filter (fun x=> !(E.map (·.1)).contains x.2)).length
theorem qI (is:List (K × Nat)):dL is []=is.length:=by
 unfold dL;rw [List.filter_eq_self.2 zi]
theorem wL:∀ (is:List (K × Nat)),iE ops is=true→∀ x∈is,∀ y∈is,x.1.gY=true→y.1.gY=true→x.2≠y.2→compat ops x.2 y.2
 | [],_,_,hx,_,_,_,_,_=>by cases hx
 | (k,i)::is,h,x,hx,y,hy,hxa,hya,hne=>by
  unfold iE at h;have hrest:iE ops is=true:=by simp only [Bool.and_eq_true] at h;exact h.2
  have key:∀ y∈is,k.gY=true→y.1.gY=true→fwd ops i y.2=true:=fun y hy hk hya=>by
   have hp:is.all (kQ ops (k,i))=true:=by
    cases k<;>simp [K.gY] at hk
    simp only [Bool.and_eq_true] at h;exact h.1.1.1
   have h2:=List.all_eq_true.1 hp y hy;unfold kQ at h2;have hf:y.1.isFin=false:=by cases hk:y.1<;>simp [K.gY,K.isFin,hk] at hya ⊢
   simpa [hf] using h2
  rcases List.mem_cons.1 hx with hx|hx<;>rcases List.mem_cons.1 hy with hy|hy
  ·subst hx hy;exact absurd rfl hne
  ·subst hx;exact (iY (key y hy hxa hya)).1
  ·subst hy;exact (iY (key x hx hya hxa)).2
  ·exact wL is hrest x hx y hy hxa hya hne
/-! ### The steps -/
def IY (ops:Array Oper) (j:Nat) (T:TypeId):Bool:=match ops[j]? with
 | some o=>(match o.op with| .alloc T'=>T' == T| _=>false)&&o.guard.isNone
 | none=>false
def vW (P:Program) (T:TypeId):Option (Array Value):=((P.info? T).bind (·.zero)).map Value.cells
def probe (P:Program) (ops:Array Oper):K × Nat→Bool × Option (Array Value)
 | (.alloc _ T,j)=>(IY ops j T,vW P T)
 | _=>(true,none)
def want:K × Nat→Bool × Option (Array Value)
 | (.alloc cs _,_)=>(true,some cs)
 | _=>(true,none)
theorem zq {is:List (K × Nat)} (h:is.map (probe P ops)=is.map want):rF P ops is:=by
 intro cs T j hj o ho
 have h1:probe P ops (.alloc cs T,j)=want (.alloc cs T,j):=by
  induction is with
  | nil=>cases hj
  | cons x xs ih =>
   simp only [List.map_cons,List.cons.injEq] at h
   rcases List.mem_cons.1 hj with hj|hj
   ·rw [hj];exact h.1
   ·exact ih h.2 hj
 simp only [probe,want,Prod.mk.injEq] at h1;obtain ⟨h2,h3⟩:=h1;unfold IY at h2;simp only [ho,Bool.and_eq_true] at h2;obtain ⟨h4,h5⟩:=h2;refine ⟨by simpa using h5,fun ρ w=>?_⟩;obtain ⟨dst,op,ty,pos,after,guard⟩:=o;cases op<;>simp at h4
 case alloc T' =>
  subst h4;unfold vW at h3;cases hi:P.info? T' with
  | none=>simp [hi] at h3
  | some i =>
   cases hz:i.zero with
   | none=>simp [hi,hz] at h3
   | some z =>
    simp [hi,hz] at h3
    subst h3;simp [execOp,Instr.alloc,zeroValue,typeInfo,hi,hz,newVar,newRow,newObj]
    rfl
end
end Go.SW
namespace Go.Lb
open Go Go.RowKit Go.SW
structure Lax (N:Nat) (Z:World→World→Prop):Prop where
 refl:∀ w,Z w w
 trans:∀ {a b c:World},Z a b→Z b c→Z a c
 of:∀ {w w':World},Below w.heap.size w w'→Z w w'
 size:∀ {w w':World},Z w w'→w.heap.size≤w'.heap.size
 block:∀ {w w':World},Z w w'→∀ b,N≤b→b<w.heap.size→w'.heap[b]? =w.heap[b]?
section
variable (Z:World→World→Prop) (P:Program) (ops:Array Oper) (Q:Exit→Act→World→Prop)
def walk (N:Nat):List (K × Nat)→List Nat→Act→World→Prop
 | [],_,a,w=>∀ w',Below w.heap.size w w'→Q .normal a w'
 | (k,i)::is,A,a,w =>
  match ops[i]? with
  | none=>False
  | some o =>
   match k with
   | .pure=>if Region.wanted o (yielded ops a.tmps) then ∃ v,(∀ w',(execOp a.eval o).run P w'= .ok (.value v) w')∧walk N is A (a.put o.dst v) w else walk N is A (a.put o.dst undef) w
   | .read=>if Region.wanted o (yielded ops a.tmps) then ∃ v,(∀ w',Z w w'→(execOp a.eval o).run P w'= .ok (.value v) w')∧walk N is A (a.put o.dst v) w else walk N is A (a.put o.dst undef) w
   | .alloc cs T=>∀ b w',Below w.heap.size w w'→N≤b→b<w'.heap.size→b∉A→w'.heap[b]? =some (.cells cs T (0,0))→walk N is (b::A) (a.put o.dst (.pointer (some ⟨b,0,none⟩))) w'
   | .ext=>if Region.wanted o (yielded ops a.tmps) then ∀ w',Below w.heap.size w w'→o.wp P a w' (fun a' w''=>Z w' w''∧walk N is A a' w'') Q else walk N is A (a.put o.dst undef) w
   | .fin=>∀ w',Below w.heap.size w w'→wpOps P ops Q (i::is.map (·.2)) a w'
end
section
variable {Z:World→World→Prop} {P:Program} {ops:Array Oper} {Q:Exit→Act→World→Prop}
theorem og {N:Nat} (hZ:Lax N Z):∀ (is:List (K × Nat)) (A:List Nat) (a:Act) (w w1:World),Below w.heap.size w w1→walk Z P ops Q N is A a w→walk Z P ops Q N is A a w1
 | [],_,_,_,_,hb,h=>fun w' hw'=>h w' (kJ hb hw')
 | (k,i)::is,A,a,w,w1,hb,h=>by
  unfold walk at h ⊢;cases ho:ops[i]? with
  | none=>simp only [ho] at h
  | some o =>
   simp only [ho] at h ⊢;cases k with
   | pure =>
    simp only at h ⊢;split at h
    ·rename_i hw;obtain ⟨v,h1,h2⟩:=h;simp only [hw,if_true];exact ⟨v,h1,og hZ is _ _ _ _ hb h2⟩
    ·rename_i hw;simp only [hw,if_false,Bool.false_eq_true];exact og hZ is _ _ _ _ hb h
   | read =>
    simp only at h ⊢;split at h
    ·rename_i hw;obtain ⟨v,h1,h2⟩:=h;simp only [hw,if_true];exact ⟨v,fun w' hw'=>h1 w' (hZ.trans (hZ.of hb) hw'),og hZ is _ _ _ _ hb h2⟩
    ·rename_i hw;simp only [hw,if_false,Bool.false_eq_true];exact og hZ is _ _ _ _ hb h
   | alloc cs T=>exact fun b w' hw'=>h b w' (kJ hb hw')
   | ext =>
    simp only at h ⊢;split at h
    ·rename_i hw;simp only [hw,if_true];exact fun w' hw'=>h w' (kJ hb hw')
    ·rename_i hw;simp only [hw,if_false,Bool.false_eq_true];exact og hZ is _ _ _ _ hb h
   | fin=>exact fun w' hw'=>h w' (kJ hb hw')
def Ld (Z:World→World→Prop) (P:Program) (ops:Array Oper) (u:Bool × Nat) (a:Act) (w:World):Prop :=
 ∃ o,ops[u.2]? =some o∧∃ v,(∀ d,o.dst=some d→d<a.tmps.size→a.tmps[d]? =some v) ∧
  ((Region.wanted o (yielded ops a.tmps)=true∧∀ w',(u.1=false→Z w w')→(execOp a.eval o).run P w'= .ok (.value v) w') ∨
   (Region.wanted o (yielded ops a.tmps)=false∧v=undef))
theorem Ld.put {u:Bool × Nat} {a:Act} {w:World} (hs:Region.noSelect ops=true) (h:Ld Z P ops u a w) {x:Option Tmp} (v:Value)
  (hx:∀ o,ops[u.2]? =some o→∀ d,x=some d→d∉o.looksAt ops∧o.dst≠some d):Ld Z P ops u (a.put x v) w:=by
 obtain ⟨o,ho,v',h1,h2⟩:=h;have hl:∀ t,t∈o.looksAt ops→(a.put x v).tmps[t]? =a.tmps[t]? :=fun t ht=>kN a v fun e=>(hx o ho t e).1 ht;have hsel:=fun cs b=>Region.noSelect_spec hs u.2 o cs b ho;refine ⟨o,ho,v',fun d hd hlt=>?_,?_⟩
 ·rw [kN a v fun e=>(hx o ho d e).2 hd];exact h1 d hd (by rwa [fG] at hlt)
 ·rw [nO hl,su hsel hl];exact h2
theorem Ld.later {N:Nat} (hZ:Lax N Z) {u:Bool × Nat} {a:Act} {w w1:World} (h:Ld Z P ops u a w) (hb:u.1=false→Z w w1):Ld Z P ops u a w1:=by
 obtain ⟨o,ho,v',h1,h2⟩:=h;exact ⟨o,ho,v',h1,h2.imp (fun ⟨x,y⟩=>⟨x,fun w' hw'=>y w' fun hu=>hZ.trans (hb hu) (hw' hu)⟩) id⟩
structure Inv (Z:World→World→Prop) (P:Program) (ops:Array Oper) (L:List Nat) (U:List (Bool × Nat)) (E:List (Nat × Nat)) (listed:Array Bool) (s a:Act) (w:World):Prop where
 size:listed.size=ops.size
 Jw:∀ i,i<ops.size→(listed.getD i true=false↔(i∈L∧i∉E.map (·.1))∨i∈U.map (·.2))
 closed:Closed ops listed
 defers:s.defers=a.defers
 Tg:s.tmps.size=a.tmps.size
 agree:∀ t,(∀ u∈U,pY ops u.2≠some t)→(∀ p∈E,pY ops p.1≠some t)→s.tmps[t]? =a.tmps[t]?
 pend:∀ u∈U,Ld Z P ops u a w
 CF:∀ u∈U,xw ops u.2=true
 uu:∀ u∈U,∀ v∈U,u.2≠v.2→compat ops u.2 v.2
 ue:∀ u∈U,∀ p∈E,fwd ops u.2 p.1=true
theorem AP {N:Nat} (hZ:Lax N Z) {L:List Nat} {U:List (Bool × Nat)} {E:List (Nat × Nat)} {listed:Array Bool} {s a:Act} {w:World} (hs:Region.noSelect ops=true) (I:Inv Z P ops L U E listed s a w) {r:Nat}
  (hr:r∈Region.ready .any ops listed) (hU:r∈U.map (·.2)) {K:Act→World→Prop}
  (hL:r∉L∨r∈E.map (·.1))
  (hK:∀ v,Inv Z P ops L (U.filter (fun u=>u.2 != r)) E (listed.setIfInBounds r true) (s.put (pY ops r) v) a w→K (s.put (pY ops r) v) w):wpOp P ops Q r K s w:=by
 obtain ⟨u,hu,rfl⟩:=List.mem_map.1 hU;obtain ⟨o,ho,hun,hall⟩:=fQ hr;obtain ⟨o',ho',v,hv,hrun⟩:=I.pend u hu;rw [ho] at ho';cases ho';have hsel:=fun cs b=>Region.noSelect_spec hs u.2 o cs b ho;have hself:=I.CF u hu
 have IZ:∀ t,t∈o.looksAt ops→s.tmps[t]? =a.tmps[t]? :=fun t ht=>by
  refine I.agree t (fun u' hu' hd=>?_) (fun p hp hd=>?_)
  ·by_cases he:u'.2=u.2
   ·rw [he,eZ ho] at hd;unfold xw at hself;simp only [ho,hd] at hself;simp [ht] at hself
   ·have hc:=(I.uu u' hu' u hu he).2 t o hd ho ht;obtain ⟨e,he1,he2,he3⟩:=vV ho hc;have hl:=hall e he1 he2;rw [he3] at hl
    have hlt:u'.2<ops.size:=by
     obtain ⟨o2,h2,_⟩:=I.pend u' hu';exact (Array.getElem?_eq_some_iff.1 h2).1
    have:=(I.Jw u'.2 hlt).2 (.inr (List.mem_map.2 ⟨u',hu',rfl⟩));rw [getD_both this] at hl;cases hl
  ·have hf:=I.ue u hu p hp;cases hy:ops[p.1]? with
   | none=>simp [pY,hy] at hd
   | some y=>exact ((kV ho hy hf).1 t (by rw [eZ hy] at hd;exact hd)).1 ht
 have hev:=su hsel IZ;have hwt:=nO (ops:=ops) IZ
 have hI:Inv Z P ops L (U.filter (fun x=>x.2 != u.2)) E (listed.setIfInBounds u.2 true) (s.put o.dst v) a w:=by
  refine ⟨by simpa using I.size,fun i hi=>?_,sG I.closed ho hall,by rw [kG];exact I.defers,by rw [fG];exact I.Tg,fun t h1 h2=>?_,fun x hx=>I.pend x (List.mem_filter.1 hx).1,
   fun x hx=>I.CF x (List.mem_filter.1 hx).1,fun x hx y hy hne=>I.uu x (List.mem_filter.1 hx).1 y ((List.mem_filter.1 hy).1) hne,fun x hx p hp=>I.ue x (List.mem_filter.1 hx).1 p hp⟩
  ·rw [nW (by rw [I.size];exact hi),I.Jw i hi]
   constructor
   ·rintro ⟨h|h,hne⟩
    ·exact .inl h
    ·obtain ⟨x,hx,rfl⟩:=List.mem_map.1 h;exact .inr (List.mem_map.2 ⟨x,List.mem_filter.2 ⟨hx,by simpa using hne⟩,rfl⟩)
   ·rintro (h|h)
    ·refine ⟨.inl h,?_⟩;rintro rfl
     rcases hL with hL|hL
     ·exact hL h.1
     ·exact h.2 hL
    ·obtain ⟨x,hx,rfl⟩:=List.mem_map.1 h;obtain ⟨hx1,hx2⟩:=List.mem_filter.1 hx;exact ⟨.inr (List.mem_map.2 ⟨x,hx1,rfl⟩),by simpa using hx2⟩
  ·by_cases hd:o.dst=some t
   ·by_cases hlt:t<a.tmps.size
    ·rw [hd,put_eq _ _ (by rw [I.Tg];exact hlt),hv t hd hlt]
    ·rw [Array.getElem?_eq_none (by rw [fG,I.Tg];exact Nat.le_of_not_lt hlt),Array.getElem?_eq_none (Nat.le_of_not_lt hlt)]
   ·rw [kN _ _ hd];refine I.agree t (fun x hx=>?_) h2
    by_cases he:x.2=u.2
    ·rw [he,eZ ho];exact hd
    ·exact h1 x (List.mem_filter.2 ⟨hx,by simpa using he⟩)
 rw [eZ ho] at hK;have hKv:=hK _ hI;unfold wpOp;simp only [ho];rw [hwt]
 rcases hrun with ⟨hw1,hw2⟩|⟨hw1,rfl⟩
 ·simp only [hw1,if_true];refine .inl ?_;unfold Oper.wp;rw [hev,hw2 w fun _=>hZ.refl _];exact hKv
 ·simp only [hw1,Bool.false_eq_true,if_false];exact hKv
theorem IL {N:Nat} (hZ:Lax N Z) (hs:Region.noSelect ops=true) (ZF:Led ops)
  (hQ:∀ c (a s:Act) w,s.defers=a.defers→Q (.panic c) a w→Q (.panic c) s w) :
  ∀ (fuel:Nat) (is:List (K × Nat)) (U:List (Bool × Nat)) (listed:Array Bool) (s a:Act) (w:World),
   is.length+U.length≤fuel→Inv Z P ops (is.map (·.2)) U [] listed s a w→iE ops is=true→is.all (·.1.isFin)=true→(is.map (·.2)).Nodup →
   (∀ u∈U,u.2∉is.map (·.2))→(∀ u∈U,∀ q∈is,kQ ops (if u.1 then .pure else .read,u.2) q=true) →
   wpOps P ops Q (is.map (·.2)) a w→wpAny P .any ops Q fuel listed s w:=by
 intro fuel
 induction fuel with
 | zero =>
  intro is U listed s a w hm I hok hfin hnd wH hpr h;have h1:is=[]:=List.length_eq_zero_iff.1 zo;have h2:U=[]:=List.length_eq_zero_iff.1 zo;subst h1 h2;have hsa:s=a:=UK I.defers fun t=>I.agree t zi zi;refine ⟨?_,by rw [hsa];simpa [wpOps] using h⟩;cases hr:Region.ready .any ops listed with
  | nil=>rfl
  | cons r rs =>
   have hm:r∈Region.ready .any ops listed:=by rw [hr];simp
   have:=(I.Jw r (yC hm)).1 (fQ hm).choose_spec.2.1;simp at this
 | succ fuel ih =>
  intro is U listed s a w hm I hok hfin hnd wH hpr h;refine ⟨fun hr=>?_,fun r hr=>?_⟩
  ·have hall:=ZF _ I.size hr
   have h1:is=[]:=by
    cases is with
    | nil=>rfl
    | cons x xs =>
     unfold iE at hok;simp only [Bool.and_eq_true] at hok
     have hlt:x.2<ops.size:=by
      have:=hok.1.2;cases hx:ops[x.2]? with
      | none=>simp [hx] at this
      | some o=>exact (Array.getElem?_eq_some_iff.1 hx).1
     have:=(I.Jw x.2 hlt).2 (.inl ⟨by simp,by simp⟩);rw [hall x.2 hlt] at this;cases this
   have h2:U=[]:=by
    cases U with
    | nil=>rfl
    | cons x xs =>
     obtain ⟨o,ho,_⟩:=I.pend x zi;have hlt:=(Array.getElem?_eq_some_iff.1 ho).1;have:=(I.Jw x.2 hlt).2 (.inr zi);rw [hall x.2 hlt] at this;cases this
   subst h1 h2;have hsa:s=a:=UK I.defers fun t=>I.agree t zi zi;rw [hsa];simpa [wpOps] using h
  ·obtain ⟨o,ho,hun,ZE⟩:=fQ hr
   rcases (I.Jw r (yC hr)).1 hun with ⟨hL,_⟩|hU
   ·cases is with
    | nil=>simp at hL
    | cons x xs =>
     have hxi:r=x.2:=by
      simp only [List.map_cons,List.mem_cons] at hL
      rcases hL with hL|hL
      ·exact hL
      ·exfalso
       obtain ⟨q,hq,rfl⟩:=List.mem_map.1 hL;unfold iE at hok;simp only [List.all_cons,Bool.and_eq_true] at hfin;have hk:x.1= .fin:=by cases hk:x.1<;>simp [K.isFin,hk] at hfin ⊢
       obtain ⟨k,i⟩:=x;simp only at hk;subst hk;simp only [Bool.and_eq_true] at hok;have hb:=List.all_eq_true.1 hok.1.1.2 q hq;unfold SW.blocked at hb;have hqf:=List.all_eq_true.1 hfin.2 q hq;have hqa:q.1.gY=false:=by cases hk:q.1<;>simp [K.isFin,K.gY,hk] at hqf ⊢
       simp only [hqa,Bool.false_or,Bool.or_eq_true] at hb
       rcases hb with hb|hb
       ·refine gB hr hb ((I.Jw i ?_).2 (.inl ⟨by simp,by simp⟩));have:=hok.1.2;cases hx:ops[i]? with
        | none=>simp [hx] at this
        | some o=>exact (Array.getElem?_eq_some_iff.1 hx).1
       ·obtain ⟨y,hy,hy2⟩:=List.any_eq_true.1 hb;simp only [Bool.and_eq_true] at hy2;obtain ⟨e,he1,he2,he3⟩:=vV ho hy2.2
        by_cases hlt:y.2<ops.size
        ·exact gB hr hy2.2 ((I.Jw y.2 hlt).2 (.inl ⟨by simp;exact .inr ⟨y.1,hy⟩,by simp⟩))
        ·have:=ZE e he1 he2;rw [he3] at this;simp [I.size,Nat.le_of_not_lt hlt] at this
     subst hxi
     have hpure:∀ u∈U,u.1=true∧fwd ops u.2 x.2=true:=fun u hu=>by
      have hp:=hpr u hu x zi;have hxf:x.1.isFin=true:=by simp only [List.all_cons,Bool.and_eq_true] at hfin;exact hfin.1
      unfold kQ at hp;simp only [hxf,if_true,Bool.or_eq_true,Bool.and_eq_true] at hp
      rcases hp with hp|hp
      ·exfalso
       have hl:=Gi I.closed _ _ _ hp fun o' ho'=>by rw [ho] at ho';cases ho';exact ZE
       obtain ⟨o2,h2,_⟩:=I.pend u hu;have:=(I.Jw u.2 (Array.getElem?_eq_some_iff.1 h2).1).2 (.inr (List.mem_map.2 ⟨u,hu,rfl⟩));rw [getD_both this] at hl;cases hl
      ·refine ⟨?_,hp.2⟩;cases hu1:u.1<;>simp [hu1,K.isPure] at hp ⊢
     have IZ:∀ t,t∈o.looksAt ops→s.tmps[t]? =a.tmps[t]? :=fun t ht=>by
      refine I.agree t (fun u hu hd=>?_) zi;have hf:=(hpure u hu).2;cases hx:ops[u.2]? with
      | none=>simp [pY,hx] at hd
      | some y =>
       have he:=(kV hx ho hf).2 t (by rw [eZ hx] at hd;exact hd) ht;exact gB hr he ((I.Jw u.2 (Array.getElem?_eq_some_iff.1 hx).1).2 (.inr (List.mem_map.2 ⟨u,hu,rfl⟩)))
     simp only [List.map_cons] at h;rw [wpOps_cons] at h;refine Cr ho (fun cs b=>Region.noSelect_spec hs x.2 o cs b ho) IZ I.defers hQ (fun ds v w' hk=>?_) h;have hxf:x.1.isFin=true:=by simp only [List.all_cons,Bool.and_eq_true] at hfin;exact hfin.1
     refine ih xs U (listed.setIfInBounds x.2 true) _ ({ a with defers:=ds }.put o.dst v) w' (by simp at hm;omega) ?_ (by unfold iE at hok;simp only [Bool.and_eq_true] at hok;exact hok.2) (by simp only [List.all_cons,Bool.and_eq_true] at hfin;exact hfin.2) (by simp at hnd;simpa using hnd.2)
      (fun u hu hm=>wH u hu (by simp only [List.map_cons,List.mem_cons];exact .inr hm)) (fun u hu q hq=>hpr u hu q (by simp [hq])) hk
     refine ⟨by simpa using I.size,fun i hi=>?_,sG I.closed ho ZE,by simp [kG],by rw [fG,fG];exact I.Tg,fun t h1 h2=>?_,fun u hu=>?_,I.CF,I.uu,by simp⟩
     ·rw [nW (by rw [I.size];exact hi),I.Jw i hi];simp only [List.map_cons,List.mem_cons,List.map_nil,List.not_mem_nil,not_false_eq_true,and_true];have hnd':x.2∉xs.map (·.2):=by rw [List.map_cons,List.nodup_cons] at hnd;exact hnd.1
      constructor
      ·rintro ⟨(h|h)|h,hne⟩
       ·exact absurd h hne
       ·exact .inl h
       ·exact .inr h
      ·rintro (h|h)
       ·exact ⟨.inl (.inr h),fun e=>hnd' (by rw [← e];exact h)⟩
       ·obtain ⟨u,hu,rfl⟩:=List.mem_map.1 h;exact ⟨.inr h,fun e=>wH u hu (by simp [e])⟩
     ·by_cases hd:o.dst=some t
      ·by_cases hlt:t<a.tmps.size
       ·rw [hd,put_eq _ _ (by exact Nat.lt_of_lt_of_eq hlt I.Tg.symm),put_eq _ _ (by exact hlt)]
       ·rw [Array.getElem?_eq_none (by rw [fG];exact I.Tg ▸ Nat.le_of_not_lt hlt),Array.getElem?_eq_none (by rw [fG];exact Nat.le_of_not_lt hlt)]
      ·rw [kN _ _ hd,kN _ _ hd];exact I.agree t h1 zi
     ·have hf:=(hpure u hu).2;have h3:Ld Z P ops u { a with defers:=ds } w:=I.pend u hu
      exact (h3.put hs v fun o' ho' d hd=>(kV ho' ho hf).1 d hd).later hZ fun hu1=>by rw [(hpure u hu).1] at hu1;cases hu1
   ·obtain ⟨u,hu,rfl⟩:=List.mem_map.1 hU;refine AP hZ hs I hr hU (.inl (wH u hu)) fun v' I'=>?_;refine ih is _ _ _ a w ?_ I' hok hfin hnd (fun x hx=>wH x (List.mem_filter.1 hx).1) (fun x hx=>hpr x (List.mem_filter.1 hx).1) h;have:(U.filter (fun x=>x.2 != u.2)).length<U.length:=List.length_filter_lt_length_iff_exists.2 ⟨u,hu,by simp⟩;omega
theorem Dh (hs:Region.noSelect ops=true) (ZF:Led ops)
  (hQ:∀ c (a s:Act) w,s.defers=a.defers→Q (.panic c) a w→Q (.panic c) s w) (N:Nat) (hZ:Lax N Z) :
  ∀ (fuel:Nat) (is:List (K × Nat)) (A:List Nat) (U:List (Bool × Nat)) (E:List (Nat × Nat)) (listed:Array Bool) (s a:Act) (w:World),
   dL is E+U.length≤fuel→Inv Z P ops (is.map (·.2)) U E listed s a w→iE ops is=true→(is.map (·.2)).Nodup →
   (∀ u∈U,u.2∉is.map (·.2))→(∀ u∈U,∀ q∈is,kQ ops (if u.1 then .pure else .read,u.2) q=true) →
   rF P ops is→Early ops N is A E s a w →
   walk Z P ops Q N is A a w→wpAny P .any ops Q fuel listed s w:=by
 intro fuel
 induction fuel using Nat.strongRecOn with
 | _ fuel ihf =>
 intro is
 induction is with
 | nil =>
  intro A U E listed s a w hm I hok hnd wH hpr hal he h
  have hE:E=[]:=by
   cases E with
   | nil=>rfl
   | cons p ps=>obtain ⟨cs,T,hmem,_⟩:=he.good p zi;cases hmem
  subst hE;exact IL hZ hs ZF hQ fuel [] U listed s a w (by simp [dL] at hm;simpa using hm) I rfl rfl zi zi zi (by simp only [List.map_nil,wpOps];exact h w (Below.refl _ _))
 | cons x xs ihl =>
  intro A U E listed s a w hm I hok hnd wH hpr hal he h;obtain ⟨k,i⟩:=x;have hrest:iE ops xs=true:=by unfold iE at hok;simp only [Bool.and_eq_true] at hok;exact hok.2
  obtain ⟨o,ho⟩:∃ o,ops[i]? =some o:=by
   unfold iE at hok;simp only [Bool.and_eq_true] at hok;exact Option.isSome_iff_exists.1 hok.1.2
  have hilt:i<ops.size:=(Array.getElem?_eq_some_iff.1 ho).1;have Kk:i∉xs.map (·.2)∧(xs.map (·.2)).Nodup:=by simpa only [List.map_cons,List.nodup_cons] using hnd
  have hpx:k.isFin=false→∀ q∈xs,kQ ops (k,i) q=true:=fun hk=>by
   unfold iE at hok;cases k<;>simp [K.isFin] at hk<;>simp only [Bool.and_eq_true] at hok
   ·exact fun q hq=>List.all_eq_true.1 hok.1.1.2 q hq
   ·exact fun q hq=>List.all_eq_true.1 hok.1.1.2 q hq
   ·exact fun q hq=>List.all_eq_true.1 hok.1.1.1 q hq
   ·exact fun q hq=>List.all_eq_true.1 hok.1.1.1 q hq
  have hUf:k.isFin=false→∀ u∈U,fwd ops u.2 i=true:=fun hk u hu=>by
   have:=hpr u hu (k,i) zi;unfold kQ at this
   simpa [hk] using this
  have advance:∀ (b:Bool) (v:Value),k.isFin=false→k.gY=false→k.isPure=b→xw ops i=true→i∉E.map (·.1) →
    ((Region.wanted o (yielded ops a.tmps)=true∧∀ w',(b=false→Z w w')→(execOp a.eval o).run P w'= .ok (.value v) w')∨(Region.wanted o (yielded ops a.tmps)=false∧v=undef)) →
    (k= .pure∨k= .read)→walk Z P ops Q N xs A (a.put o.dst v) w→wpAny P .any ops Q fuel listed s w:=fun b v hkf hka hkb hself Ah hrun hkk hw=>by
   have hxl:∀ d,o.dst=some d→d∉o.looksAt ops:=fun d hd hm=>by unfold xw at hself;simp only [ho,hd] at hself;simp [hm] at hself
   have hl:∀ t,t∈o.looksAt ops→(a.put o.dst v).tmps[t]? =a.tmps[t]? :=fun t ht=>kN a v fun e=>hxl t e ht;refine ihl A ((b,i)::U) E listed s (a.put o.dst v) w ?_ ?_ hrest Kk.2 ?_ ?_ (fun cs T j hj=>hal cs T j (by simp [hj])) ?_ hw
   ·have:dL ((k,i)::xs) E=dL xs E+1:=by
     unfold dL;rw [List.filter_cons_of_pos (by simpa using Ah)];rfl
    simp only [List.length_cons];omega
   ·refine ⟨I.size,fun j hj=>?_,I.closed,by rw [kG];exact I.defers,by rw [fG];exact I.Tg,fun t h1 h2=>?_,fun u hu=>?_,fun u hu=>?_,fun u hu v' hv hne=>?_,fun u hu p hp=>?_⟩
    ·rw [I.Jw j hj];simp only [List.map_cons,List.mem_cons]
     constructor
     ·rintro (⟨h|h,h2⟩|h)
      ·exact .inr (.inl h)
      ·exact .inl ⟨h,h2⟩
      ·exact .inr (.inr h)
     ·rintro (⟨h,h2⟩|h|h)
      ·exact .inl ⟨.inr h,h2⟩
      ·exact .inl ⟨.inl h,by rw [h];exact Ah⟩
      ·exact .inr h
    ·have hd:o.dst≠some t:=by have:=h1 (b,i) zi;rwa [eZ ho] at this
     rw [kN _ _ hd];exact I.agree t (fun u hu=>h1 u (by simp [hu])) h2
    ·rcases List.mem_cons.1 hu with hu|hu
     ·subst hu;refine ⟨o,ho,v,fun d hd hlt=>?_,?_⟩
      ·rw [hd];exact put_eq _ _ (by rwa [fG] at hlt)
      ·rw [nO hl,su (fun cs b=>Region.noSelect_spec hs i o cs b ho) hl];exact hrun
     ·exact (I.pend u hu).put hs v fun o' ho' d hd=>(kV ho' ho (hUf hkf u hu)).1 d hd
    ·rcases List.mem_cons.1 hu with hu|hu
     ·subst hu;exact hself
     ·exact I.CF u hu
    ·rcases List.mem_cons.1 hu with hu|hu<;>rcases List.mem_cons.1 hv with hv|hv
     ·subst hu hv;exact absurd rfl hne
     ·subst hu;exact (iY (hUf hkf v' hv)).2
     ·subst hv;exact (iY (hUf hkf u hu)).1
     ·exact I.uu u hu v' hv hne
    ·rcases List.mem_cons.1 hu with hu|hu
     ·subst hu;obtain ⟨cs,T,hmem,_⟩:=he.good p hp
      rcases List.mem_cons.1 hmem with hmem|hmem
      ·cases hmem;simp [K.gY] at hka
      ·have:=hpx hkf _ hmem;unfold kQ at this
       simpa [K.isFin] using this
     ·exact I.ue u hu p hp
   ·intro u hu
    rcases List.mem_cons.1 hu with hu|hu
    ·subst hu;exact Kk.1
    ·intro hm;exact wH u hu (by simp only [List.map_cons,List.mem_cons];exact .inr hm)
   ·intro u hu q hq
    rcases List.mem_cons.1 hu with hu|hu
    ·subst hu;have:=hpx hkf q hq
     rcases hkk with rfl|rfl<;>simp [K.isPure] at hkb<;>subst hkb<;>simpa using this
    ·exact hpr u hu q (by simp [hq])
   ·refine ⟨fun p hp=>?_,he.dist,fun p hp d hd hlt=>he.slot p hp d hd (by rwa [fG] at hlt),he.old,he.base⟩;obtain ⟨cs,T,hmem,hg⟩:=he.good p hp;refine ⟨cs,T,?_,hg⟩
    rcases List.mem_cons.1 hmem with hmem|hmem
    ·cases hmem;simp [K.gY] at hka
    ·exact hmem
  have early:∀ (cs:Array Value) (T:TypeId) (r:Nat),(K.alloc cs T,r)∈(k,i)::xs→r∈Region.ready .any ops listed→r∉E.map (·.1)→∀ f,f<fuel→dL ((k,i)::xs) E+U.length≤f+1 →
    wpOp P ops Q r (wpAny P .any ops Q f (listed.setIfInBounds r true)) s w:=fun cs T r hmem hr hrE f hf hmf=>by
   obtain ⟨y,hy,ay0,Nq⟩:=fQ hr;obtain ⟨hg,hrun⟩:=hal cs T r hmem y hy;have bi8:=yC hr;have hb:Below w.heap.size w (w.alloc (.cells cs T (0,0))):=(Below.refl _ _).alloc (Nat.le_refl _) _;have hsz:(w.alloc (.cells cs T (0,0))).heap.size=w.heap.size+1:=by simp
   have aK8:r∈((k,i)::xs).map (·.2):=List.mem_map.2 ⟨_,hmem,rfl⟩
   have key:wpAny P .any ops Q f (listed.setIfInBounds r true) (s.put y.dst (.pointer (some ⟨w.heap.size,0,none⟩))) (w.alloc (.cells cs T (0,0))):=by
    refine ihf f hf ((k,i)::xs) A U ((r,w.heap.size)::E) _ _ a _ ?_ ?_ hok hnd wH hpr hal ?_ (og hZ _ _ _ _ _ hb h)
    ·have hlt:dL ((k,i)::xs) ((r,w.heap.size)::E)<dL ((k,i)::xs) E:=by
      unfold dL
      have e:((k,i)::xs).filter (fun x=> !(((r,w.heap.size)::E).map (·.1)).contains x.2)=(((k,i)::xs).filter (fun x=> !(E.map (·.1)).contains x.2)).filter (fun x=>x.2 != r):=by
       rw [List.filter_filter]
       congr 1
       funext x
       simp only [List.map_cons,List.contains_cons,Bool.not_or];rfl
      rw [e];exact List.length_filter_lt_length_iff_exists.2 ⟨_,List.mem_filter.2 ⟨hmem,by simpa using hrE⟩,by simp⟩
     omega
    ·refine ⟨by simpa using I.size,fun j hj=>?_,sG I.closed hy Nq,by rw [kG];exact I.defers,by rw [fG];exact I.Tg,fun t h1 h2=>?_,fun u hu=>(I.pend u hu).later hZ fun _=>(by first|exact hZ.of hb|exact hb),I.CF,I.uu,fun u hu p hp=>?_⟩
     ·rw [nW (by rw [I.size];exact hj),I.Jw j hj];simp only [List.map_cons,List.mem_cons,not_or]
      constructor
      ·rintro ⟨⟨h,h2⟩|h,hne⟩
       ·exact .inl ⟨h,hne,h2⟩
       ·exact .inr h
      ·rintro (⟨h,hne,h2⟩|h)
       ·exact ⟨.inl ⟨h,h2⟩,hne⟩
       ·obtain ⟨u,hu,rfl⟩:=List.mem_map.1 h;exact ⟨.inr h,fun e=>wH u hu (e ▸ aK8)⟩
     ·have hd:y.dst≠some t:=by have:=h2 (r,w.heap.size) zi;rwa [eZ hy] at this
      rw [kN _ _ hd];exact I.agree t h1 fun p hp=>h2 p (by simp [hp])
     ·rcases List.mem_cons.1 hp with hp|hp
      ·subst hp;have:=hpr u hu _ hmem;unfold kQ at this
       simpa [K.isFin] using this
      ·exact I.ue u hu p hp
    ·refine ⟨fun p hp=>?_,fun p hp q hq hne=>?_,fun p hp d hd hlt=>?_,fun x hx=>by rw [hsz];exact Nat.lt_succ_of_lt (he.old x hx),by rw [hsz];exact Nat.le_succ_of_le he.base⟩
     ·rcases List.mem_cons.1 hp with hp|hp
      ·subst hp;exact ⟨cs,T,hmem,(by show (w.heap.push _)[w.heap.size]? =_;simp),he.base,by rw [hsz];exact Nat.lt_succ_self _,fun hA=>Nat.lt_irrefl _ (he.old _ hA)⟩
      ·obtain ⟨cs',T',hm',hh,h1,h2,h3⟩:=he.good p hp;exact ⟨cs',T',hm',by rw [Below.heap_alloc _ _ _ h2];exact hh,h1,by rw [hsz];exact Nat.lt_succ_of_lt h2,h3⟩
     ·rcases List.mem_cons.1 hp with hp|hp<;>rcases List.mem_cons.1 hq with hq|hq
      ·subst hp hq;exact absurd rfl hne
      ·subst hp;obtain ⟨_,_,_,_,_,h2,_⟩:=he.good q hq;exact fun e=>by simp only at e;omega
      ·subst hq;obtain ⟨_,_,_,_,_,h2,_⟩:=he.good p hp;exact fun e=>by simp only at e;omega
      ·exact he.dist p hp q hq hne
     ·rcases List.mem_cons.1 hp with hp|hp
      ·subst hp;rw [eZ hy] at hd;rw [hd];exact put_eq _ _ (by exact Nat.lt_of_lt_of_eq hlt I.Tg.symm)
      ·obtain ⟨cs',T',hm',_⟩:=he.good p hp;have hne:p.1≠r:=fun e=>hrE (e ▸ List.mem_map.2 ⟨p,hp,rfl⟩);have hc:=wL _ hok _ hm' _ hmem rfl rfl hne;rw [kN _ _ (fun e=>hc.1 d hd (by rw [eZ hy];exact e))];exact he.slot p hp d hd hlt
   unfold wpOp;simp only [hy,Region.wanted,hg,if_true];refine .inl ?_;unfold Oper.wp;rw [hrun];exact key
  have hcount:i∉E.map (·.1)→1≤fuel:=fun Ah=>by
   have:dL ((k,i)::xs) E=dL xs E+1:=by
    unfold dL;rw [List.filter_cons_of_pos (by simpa using Ah)];rfl
   omega
  have hinj:∀ (l:List (K × Nat)),(l.map (·.2)).Nodup→∀ x∈l,∀ y∈l,x.2=y.2→x=y:=by
   intro l
   induction l with
   | nil=>intro _ x hx;cases hx
   | cons c l ihh =>
    intro hn x hx0 y hy0 hxy;rw [List.map_cons,List.nodup_cons] at hn
    rcases List.mem_cons.1 hx0 with hx|hx<;>rcases List.mem_cons.1 hy0 with hy|hy
    ·rw [hx,hy]
    ·exact absurd (List.mem_map.2 ⟨y,hy,by rw [← hxy,hx]⟩) hn.1
    ·exact absurd (List.mem_map.2 ⟨x,hx,by rw [hxy,hy]⟩) hn.1
    ·exact ihh hn.2 x hx y hy hxy
  have actual:(k= .ext∨k.gY=true)→i∉E.map (·.1)→xs.all (SW.blocked ops i xs)=true →
    (∀ f,fuel=f+1→i∈Region.ready .any ops listed→wpOp P ops Q i (wpAny P .any ops Q f (listed.setIfInBounds i true)) s w)→wpAny P .any ops Q fuel listed s w:=fun hk Ah hbl hhead=>by
   obtain ⟨f,rfl⟩:∃ f,fuel=f+1:=⟨fuel - 1,by have:=hcount Ah;omega⟩;have aK5:listed.getD i true=false:=(I.Jw i hilt).2 (.inl ⟨by simp,Ah⟩);refine ⟨fun hr=>?_,fun r hr=>?_⟩
   ·exfalso
    have:=ZF _ I.size hr i hilt;rw [aK5] at this;cases this
   ·obtain ⟨y,hy,ay0,Nq⟩:=fQ hr
    rcases (I.Jw r (yC hr)).1 ay0 with ⟨hL,hrE⟩|hU
    ·simp only [List.map_cons,List.mem_cons] at hL
     rcases hL with hL|hL
     ·subst hL;exact hhead f rfl hr
     ·obtain ⟨q,hq,rfl⟩:=List.mem_map.1 hL;have hb:=List.all_eq_true.1 hbl q hq;unfold SW.blocked at hb;simp only [Bool.or_eq_true] at hb
      rcases hb with (hb|hb)|hb
      ·obtain ⟨kq,jq⟩:=q;cases kq with
       | alloc cs T=>exact early cs T jq (by simp [hq]) hr hrE f (Nat.lt_succ_self _) zo
       | _=>simp [K.gY] at hb
      ·exact (gB hr hb aK5).elim
      ·obtain ⟨z,hz,hz2⟩:=List.any_eq_true.1 hb;simp only [Bool.and_eq_true,Bool.not_eq_true'] at hz2;obtain ⟨e,he1,he2,he3⟩:=vV hy hz2.2
       by_cases hlt:z.2<ops.size
       ·refine (gB hr hz2.2 ((I.Jw z.2 hlt).2 (.inl ⟨by simp;exact .inr ⟨z.1,hz⟩,fun hzE=>?_⟩))).elim;obtain ⟨p,hp,hpe⟩:=List.mem_map.1 hzE;obtain ⟨cs,T,hmem,_⟩:=he.good p hp;have hmem':(K.alloc cs T,z.2)∈(k,i)::xs:=by rw [← hpe];exact hmem
        rcases List.mem_cons.1 hmem' with h3|h3
        ·have:z.2=i:=by cases h3;rfl
         exact Kk.1 (this ▸ List.mem_map.2 ⟨z,hz,rfl⟩)
        ·have:z=(K.alloc cs T,z.2):=by
          exact hinj xs Kk.2 z hz _ h3 rfl
         rw [this] at hz2;simp [K.gY] at hz2
       ·have:=Nq e he1 he2;rw [he3] at this;simp [I.size,Nat.le_of_not_lt hlt] at this
    ·obtain ⟨u,hu,rfl⟩:=List.mem_map.1 hU;refine AP hZ hs I hr hU (.inl (wH u hu)) fun v' I'=>?_;refine ihf f (Nat.lt_succ_self _) ((k,i)::xs) A _ E _ _ a w ?_ I' hok hnd (fun x hx=>wH x (List.mem_filter.1 hx).1) (fun x hx=>hpr x (List.mem_filter.1 hx).1) hal ?_ h
     ·have:(U.filter (fun x=>x.2 != u.2)).length<U.length:=List.length_filter_lt_length_iff_exists.2 ⟨u,hu,by simp⟩;omega
     ·refine ⟨he.good,he.dist,fun p hp d hd hlt=>?_,he.old,he.base⟩;have hc:=(iY (I.ue u hu p hp)).2;rw [kN _ _ (fun e=>hc.1 d hd e)];exact he.slot p hp d hd hlt
  have yM:k.gY=false→i∉E.map (·.1):=fun hk hm=>by
   obtain ⟨p,hp,hpe⟩:=List.mem_map.1 hm;obtain ⟨cs,T,hmem,_⟩:=he.good p hp;have:=hinj _ hnd _ hmem (k,i) zi hpe;cases this
   simp [K.gY] at hk
  have al7:∀ p∈E,p.1≠i→∃ cs T,(K.alloc cs T,p.1)∈xs∧w.heap[p.2]? =some (.cells cs T (0,0))∧N≤p.2∧p.2<w.heap.size∧p.2∉A:=fun p hp hne=>by
   obtain ⟨cs,T,hmem,hg⟩:=he.good p hp;refine ⟨cs,T,?_,hg⟩
   rcases List.mem_cons.1 hmem with hmem|hmem
   ·cases hmem;exact absurd rfl hne
   ·exact hmem
  unfold walk at h;simp only [ho] at h;cases k with
  | pure =>
   simp only at h;have hself:xw ops i=true:=by unfold iE at hok;simp only [Bool.and_eq_true] at hok;exact hok.1.1.1
   split at h
   ·rename_i hw;obtain ⟨v,h1,h2⟩:=h;exact advance true v rfl rfl rfl hself (yM rfl) (.inl ⟨hw,fun w' _=>h1 w'⟩) (.inl rfl) h2
   ·rename_i hw;exact advance true undef rfl rfl rfl hself (yM rfl) (.inr ⟨by simpa using hw,rfl⟩) (.inl rfl) h
  | read =>
   simp only at h;have hself:xw ops i=true:=by unfold iE at hok;simp only [Bool.and_eq_true] at hok;exact hok.1.1.1
   split at h
   ·rename_i hw;obtain ⟨v,h1,h2⟩:=h;exact advance false v rfl rfl rfl hself (yM rfl) (.inl ⟨hw,fun w' hb=>h1 w' (hb rfl)⟩) (.inr rfl) h2
   ·rename_i hw;exact advance false undef rfl rfl rfl hself (yM rfl) (.inr ⟨by simpa using hw,rfl⟩) (.inr rfl) h
  | fin =>
   have hfin:xs.all (·.1.isFin)=true:=by unfold iE at hok;simp only [Bool.and_eq_true] at hok;exact hok.1.1.1
   have hE:E=[]:=by
    cases E with
    | nil=>rfl
    | cons p ps =>
     obtain ⟨cs,T,hmem,_⟩:=he.good p zi
     rcases List.mem_cons.1 hmem with hmem|hmem
     ·cases hmem
     ·have:=List.all_eq_true.1 hfin _ hmem;simp [K.isFin] at this
   subst hE;exact IL hZ hs ZF hQ fuel ((.fin,i)::xs) U listed s a w (by rw [qI] at hm;exact hm) I hok (by rw [List.all_cons,hfin];rfl) hnd wH hpr (h w (Below.refl _ _))
  | ext =>
   have hbl:xs.all (SW.blocked ops i xs)=true:=by unfold iE at hok;simp only [Bool.and_eq_true] at hok;exact hok.1.1.2
   refine actual (.inl rfl) (yM rfl) hbl fun f hf hr=>?_;obtain ⟨y,hy,ay0,Nq⟩:=fQ hr;rw [ho] at hy;cases hy
   have IZ:∀ t,t∈o.looksAt ops→s.tmps[t]? =a.tmps[t]? :=fun t ht=>by
    refine I.agree t (fun u hu hd=>?_) (fun p hp hd=>?_)
    ·have hf:=hUf rfl u hu;cases hx:ops[u.2]? with
     | none=>simp [pY,hx] at hd
     | some y =>
      have he':=(kV hx ho hf).2 t (by rw [eZ hx] at hd;exact hd) ht;exact gB hr he' ((I.Jw u.2 (Array.getElem?_eq_some_iff.1 hx).1).2 (.inr (List.mem_map.2 ⟨u,hu,rfl⟩)))
    ·obtain ⟨cs,T,hmem,_⟩:=al7 p hp fun e=>yM rfl (e ▸ List.mem_map.2 ⟨p,hp,rfl⟩);have hf:=hpx rfl _ hmem;unfold kQ at hf;simp only [K.isFin,Bool.false_eq_true,if_false] at hf;cases hx:ops[p.1]? with
     | none=>simp [pY,hx] at hd
     | some y=>exact ((kV ho hx hf).1 t (by rw [eZ hx] at hd;exact hd)).1 ht
   have h':wpOp P ops Q i (fun a' w''=>Z w w''∧walk Z P ops Q N xs A a' w'') a w:=by
    unfold wpOp;simp only [ho];simp only at h;split at h
    ·rename_i hw;simp only [hw,if_true];exact .inl (h w (Below.refl _ _))
    ·rename_i hw;simp only [hw,Bool.false_eq_true,if_false];exact ⟨hZ.refl _,h⟩
   refine Cr ho (fun cs b=>Region.noSelect_spec hs i o cs b ho) IZ I.defers hQ (fun ds v w' hk=>?_) h';obtain ⟨hb,hk⟩:=hk
   have bj7:dL ((.ext,i)::xs) E=dL xs E+1:=by
    unfold dL;rw [List.filter_cons_of_pos (by simpa using yM rfl)];rfl
   refine ihf f zo xs A U E _ _ ({ a with defers:=ds }.put o.dst v) w' zo ?_ hrest Kk.2 (fun u hu hm=>wH u hu (by simp only [List.map_cons,List.mem_cons];exact .inr hm)) (fun u hu q hq=>hpr u hu q (by simp [hq]))
    (fun cs T j hj=>hal cs T j (by simp [hj])) ?_ hk
   ·refine ⟨by simpa using I.size,fun j hj=>?_,sG I.closed ho Nq,by simp [kG],by rw [fG,fG];exact I.Tg,fun t h1 h2=>?_,fun u hu=>?_,I.CF,I.uu,I.ue⟩
    ·rw [nW (by rw [I.size];exact hj),I.Jw j hj];simp only [List.map_cons,List.mem_cons]
     constructor
     ·rintro ⟨⟨h|h,h2⟩|h,hne⟩
      ·exact absurd h hne
      ·exact .inl ⟨h,h2⟩
      ·exact .inr h
     ·rintro (⟨h,h2⟩|h)
      ·exact ⟨.inl ⟨.inr h,h2⟩,fun e=>Kk.1 (e ▸ h)⟩
      ·obtain ⟨u,hu,rfl⟩:=List.mem_map.1 h;exact ⟨.inr h,fun e=>wH u hu (by simp [e])⟩
    ·by_cases hd:o.dst=some t
     ·by_cases hlt:t<a.tmps.size
      ·rw [hd,put_eq _ _ (by exact Nat.lt_of_lt_of_eq hlt I.Tg.symm),put_eq _ _ (by exact hlt)]
      ·rw [Array.getElem?_eq_none (by rw [fG];exact I.Tg ▸ Nat.le_of_not_lt hlt),Array.getElem?_eq_none (by rw [fG];exact Nat.le_of_not_lt hlt)]
     ·rw [kN _ _ hd,kN _ _ hd];exact I.agree t h1 h2
    ·have h3:Ld Z P ops u { a with defers:=ds } w:=I.pend u hu
     exact (h3.put hs v fun o' ho' d hd=>(kV ho' ho (hUf rfl u hu)).1 d hd).later hZ fun _=>(by first|exact hZ.of hb|exact hb)
   ·refine ⟨fun p hp=>?_,he.dist,fun p hp d hd hlt=>?_,fun x hx=>Nat.lt_of_lt_of_le (he.old x hx) (hZ.size hb),Nat.le_trans he.base (hZ.size hb)⟩
    ·obtain ⟨cs,T,hmem,hh,h1,h2,h3⟩:=al7 p hp fun e=>yM rfl (e ▸ List.mem_map.2 ⟨p,hp,rfl⟩);exact ⟨cs,T,hmem,by rw [hZ.block hb _ h1 h2];exact hh,h1,Nat.lt_of_lt_of_le h2 (hZ.size hb),h3⟩
    ·obtain ⟨cs,T,hmem,_⟩:=al7 p hp fun e=>yM rfl (e ▸ List.mem_map.2 ⟨p,hp,rfl⟩);have hf:=hpx rfl _ hmem;unfold kQ at hf;simp only [K.isFin,Bool.false_eq_true,if_false] at hf;have hc:=(iY hf).2;rw [kN _ _ (fun e=>hc.1 d hd (by rw [eZ ho];exact e))];exact he.slot p hp d hd (by rwa [fG] at hlt)
  | alloc cs T =>
   have hbl:xs.all (SW.blocked ops i xs)=true:=by unfold iE at hok;simp only [Bool.and_eq_true] at hok;exact hok.1.1.2
   by_cases Ah:i∈E.map (·.1)
   ·obtain ⟨p,hp,hpi⟩:=List.mem_map.1 Ah;obtain ⟨cs',T',hmem,hh,h1,h2,h3⟩:=he.good p hp;have hsame:=hinj _ hnd _ hmem (.alloc cs T,i) zi hpi;have e1:cs'=cs:=by injection hsame with a b;injection a
    have e2:T'=T:=by injection hsame with a b;injection a
    subst e1 e2;have hk:=h p.2 w (Below.refl _ _) h1 h2 h3 hh;have aK6:∀ d,o.dst=some d→d<a.tmps.size→s.tmps[d]? =some (.pointer (some ⟨p.2,0,none⟩)):=fun d hd hlt=>he.slot p hp d (by rw [hpi,eZ ho];exact hd) hlt
    refine ihl (p.2::A) U (E.filter (fun x=>x.1 != i)) listed s (a.put o.dst (.pointer (some ⟨p.2,0,none⟩))) w ?_ ?_ hrest Kk.2 (fun u hu hm=>wH u hu (by simp only [List.map_cons,List.mem_cons];exact .inr hm)) (fun u hu q hq=>hpr u hu q (by simp [hq]))
     (fun cs T j hj=>hal cs T j (by simp [hj])) ?_ hk
    ·have:dL xs (E.filter (fun x=>x.1 != i))=dL ((.alloc cs' T',i)::xs) E:=by
      unfold dL;rw [List.filter_cons_of_neg (by simpa using Ah)]
      congr 1
      refine List.filter_congr fun x hx=>?_;have hxi:x.2≠i:=fun e=>Kk.1 (e ▸ List.mem_map.2 ⟨x,hx,rfl⟩)
      congr 1
      rw [Bool.eq_iff_iff];simp only [List.contains_iff_mem,List.mem_map,List.mem_filter,bne_iff_ne,ne_eq]
      constructor
      ·rintro ⟨y,⟨hy,_⟩,e⟩;exact ⟨y,hy,e⟩
      ·rintro ⟨y,hy,e⟩;exact ⟨y,⟨hy,fun e2=>hxi (e ▸ e2)⟩,e⟩
     omega
    ·refine ⟨I.size,fun j hj=>?_,I.closed,by rw [kG];exact I.defers,by rw [fG];exact I.Tg,fun t h1 h2=>?_,fun u hu=>(I.pend u hu).put hs _ fun o' ho' d hd=>(kV ho' ho (hUf rfl u hu)).1 d hd,I.CF,I.uu,fun u hu q hq=>I.ue u hu q (List.mem_filter.1 hq).1⟩
     ·rw [I.Jw j hj];simp only [List.map_cons,List.mem_cons,List.mem_map,List.mem_filter,bne_iff_ne,ne_eq]
      constructor
      ·rintro (⟨h|h,h2⟩|h)
       ·subst h;exact absurd ⟨p,hp,hpi⟩ h2
       ·exact .inl ⟨h,fun ⟨y,⟨hy,_⟩,e⟩=>h2 ⟨y,hy,e⟩⟩
       ·exact .inr h
      ·rintro (⟨h,h2⟩|h)
       ·refine .inl ⟨.inr h,fun ⟨y,hy,e⟩=>h2 ⟨y,⟨hy,fun e2=>?_⟩,e⟩⟩;obtain ⟨z,hz,hz2⟩:=h;exact Kk.1 (List.mem_map.2 ⟨z,hz,by rw [hz2,← e,e2]⟩)
       ·exact .inr h
     ·by_cases hd:o.dst=some t
      ·by_cases hlt:t<a.tmps.size
       ·rw [hd,put_eq _ _ hlt,aK6 t hd hlt]
       ·rw [Array.getElem?_eq_none (by rw [I.Tg];exact Nat.le_of_not_lt hlt),Array.getElem?_eq_none (by rw [fG];exact Nat.le_of_not_lt hlt)]
      ·rw [kN _ _ hd];refine I.agree t h1 fun q hq Ls=>?_
       by_cases hqi:q.1=i
       ·rw [hqi,eZ ho] at Ls;exact hd Ls
       ·exact h2 q (List.mem_filter.2 ⟨hq,by simpa using hqi⟩) Ls
    ·refine ⟨fun q hq=>?_,fun q hq r hr=>he.dist q (List.mem_filter.1 hq).1 r (List.mem_filter.1 hr).1,fun q hq d hd hlt=>he.slot q (List.mem_filter.1 hq).1 d hd (by rwa [fG] at hlt),fun x hx=>?_,he.base⟩
     ·obtain ⟨hq1,hq2⟩:=List.mem_filter.1 hq;have hqi:q.1≠i:=by simpa using hq2
      obtain ⟨cs2,T2,aL3,hh2,g1,g2,g3⟩:=al7 q hq1 hqi;refine ⟨cs2,T2,aL3,hh2,g1,g2,?_⟩;simp only [List.mem_cons,not_or];exact ⟨he.dist q hq1 p hp (by rw [hpi];exact hqi),g3⟩
     ·rcases List.mem_cons.1 hx with hx|hx
      ·rw [hx];exact h2
      ·exact he.old x hx
   ·exact actual (.inr rfl) Ah hbl fun f hf hr=>early cs T i zi hr Ah f zo zo
theorem aF {id:Nat} {a:Act} {w:World} (is:List (K × Nat)) {N:Nat} (hZ:Lax N Z) (hN:w.heap.size=N) (hm:P.follows .mixedOrders=true) (hc:check ops is=true) (hal:rF P ops is)
  (hQ:∀ c (a s:Act) w,s.defers=a.defers→Q (.panic c) a w→Q (.panic c) s w)
  (h:walk Z P ops Q N is [] a w.drew):(Code.region id ops true).wp P Q a w:=by
 unfold check at hc;simp only [Bool.and_eq_true,decide_eq_true_eq] at hc;obtain ⟨⟨⟨⟨⟨h1,h2⟩,h3⟩,h4⟩,h5⟩,h6⟩:=hc;refine wp_region_any hm ?_;refine Dh h1 (ax2 h2) hQ N hZ ops.size is [] [] [] _ a a w.drew ?_ ?_ h3 h4 zi zi hal ?_ h
 ·rw [qI];exact h5
 ·refine ⟨by simp,fun i hi=>?_,fun j o hj hl=>?_,rfl,rfl,fun t _ _=>rfl,by simp,by simp,by simp,by simp⟩
  ·have hmem:i∈is.map (·.2):=by simpa using List.all_eq_true.1 h6 i (List.mem_range.2 hi)
   simp [hi] 
   simpa using hmem
  ·have hj':=(Array.getElem?_eq_some_iff.1 hj).1;simp [hj'] at hl
 ·exact ⟨by simp,by simp,by simp,by simp,Nat.le_of_eq hN.symm⟩
variable {N:Nat} {is:List (K × Nat)} {i:Nat} {A:List Nat} {a:Act} {w:World} {o:Oper}
theorem walk_nil (h:∀ w',Below w.heap.size w w'→Q .normal a w'):walk Z P ops Q N [] A a w:=h
theorem cK {cs:Array Value} {T:TypeId} (ho:ops[i]? =some o) (h:∀ b w',Below w.heap.size w w'→N≤b→b<w'.heap.size→b∉A→w'.heap[b]? =some (.cells cs T (0,0))→walk Z P ops Q N is (b::A) (a.put o.dst (.pointer (some ⟨b,0,none⟩))) w'):walk Z P ops Q N ((.alloc cs T,i)::is) A a w:=by
 unfold walk;simp only [ho];exact h
end
end Go.Lb
namespace Go.SW
open Go Go.RowKit
section
variable (P:Program) (ops:Array Oper) (Q:Exit→Act→World→Prop)
def walk (N:Nat):List (K × Nat)→List Nat→Act→World→Prop
 | [],_,a,w=>∀ w',Below w.heap.size w w'→Q .normal a w'
 | (k,i)::is,A,a,w =>
  match ops[i]? with
  | none=>False
  | some o =>
   match k with
   | .pure=>if Region.wanted o (yielded ops a.tmps) then ∃ v,(∀ w',(execOp a.eval o).run P w'= .ok (.value v) w')∧walk N is A (a.put o.dst v) w else walk N is A (a.put o.dst undef) w
   | .read=>if Region.wanted o (yielded ops a.tmps) then ∃ v,(∀ w',Below w.heap.size w w'→(execOp a.eval o).run P w'= .ok (.value v) w')∧walk N is A (a.put o.dst v) w else walk N is A (a.put o.dst undef) w
   | .alloc cs T=>∀ b w',Below w.heap.size w w'→N≤b→b<w'.heap.size→b∉A→w'.heap[b]? =some (.cells cs T (0,0))→walk N is (b::A) (a.put o.dst (.pointer (some ⟨b,0,none⟩))) w'
   | .ext=>if Region.wanted o (yielded ops a.tmps) then ∀ w',Below w.heap.size w w'→o.wp P a w' (fun a' w''=>Below w'.heap.size w' w''∧walk N is A a' w'') Q else walk N is A (a.put o.dst undef) w
   | .fin=>∀ w',Below w.heap.size w w'→wpOps P ops Q (i::is.map (·.2)) a w'
end
section
variable {P:Program} {ops:Array Oper} {Q:Exit→Act→World→Prop}
theorem aK4 {N:Nat}:Lb.Lax N (fun w w'=>Below w.heap.size w w'):=⟨fun _=>Below.refl _ _,kJ,id,fun h=>h.size,fun h b _ h2=>h.block b h2⟩
theorem kM {N:Nat}:∀ (is:List (K × Nat)) (A:List Nat) (a:Act) (w:World),walk P ops Q N is A a w→Lb.walk (fun w w'=>Below w.heap.size w w') P ops Q N is A a w
 | [],_,_,_,h=>h
 | (k,i)::is,A,a,w,h=>by
  unfold walk at h;unfold Lb.walk;cases ho:ops[i]? with
  | none=>simp only [ho] at h
  | some o =>
   simp only [ho] at h ⊢;cases k with
   | pure =>
    simp only at h ⊢;split at h
    ·rename_i hw;simp only [hw,if_true];obtain ⟨v,h1,h2⟩:=h;exact ⟨v,h1,kM is _ _ _ h2⟩
    ·rename_i hw;simp only [hw,if_false,Bool.false_eq_true];exact kM is _ _ _ h
   | read =>
    simp only at h ⊢;split at h
    ·rename_i hw;simp only [hw,if_true];obtain ⟨v,h1,h2⟩:=h;exact ⟨v,h1,kM is _ _ _ h2⟩
    ·rename_i hw;simp only [hw,if_false,Bool.false_eq_true];exact kM is _ _ _ h
   | alloc cs T=>exact fun b w' h1 h2 h3 h4 h5=>kM is _ _ _ (h b w' h1 h2 h3 h4 h5)
   | ext =>
    simp only at h ⊢;split at h
    ·rename_i hw;simp only [hw,if_true];exact fun w' hb=>Oper.wp_mono (fun a' w'' hk=>⟨hk.1,kM is _ _ _ hk.2⟩) (h w' hb)
    ·rename_i hw;simp only [hw,if_false,Bool.false_eq_true];exact kM is _ _ _ h
   | fin=>exact h
theorem aF {id:Nat} {a:Act} {w:World} (is:List (K × Nat)) (hm:P.follows .mixedOrders=true) (hc:check ops is=true) (hal:rF P ops is)
  (hQ:∀ c (a s:Act) w,s.defers=a.defers→Q (.panic c) a w→Q (.panic c) s w)
  (h:walk P ops Q w.heap.size is [] a w.drew):(Code.region id ops true).wp P Q a w:=Lb.aF is aK4 rfl hm hc hal hQ (kM _ _ _ _ h)
section
variable {N:Nat} {is:List (K × Nat)} {i:Nat} {A:List Nat} {a:Act} {w:World} {o:Oper}
theorem walk_nil (h:∀ w',Below w.heap.size w w'→Q .normal a w'):walk P ops Q N [] A a w:=h
theorem Vl (ho:ops[i]? =some o) (h:∀ J:Act→Prop,(∀ a,walk P ops Q N is A a w→J a) →
  if Region.wanted o (yielded ops a.tmps) then ∃ v,(∀ w',(execOp a.eval o).run P w'= .ok (.value v) w')∧J (a.put o.dst v) else J (a.put o.dst undef)):walk P ops Q N ((.pure,i)::is) A a w:=by
 unfold walk;simp only [ho];exact h (fun a=>walk P ops Q N is A a w) fun _ h=>h
theorem oG (ho:ops[i]? =some o) (hg:o.guard=none) (h:∀ J:Act→Prop,(∀ a,walk P ops Q N is A a w→J a)→∃ v,(∀ w',(execOp a.eval o).run P w'= .ok (.value v) w')∧J (a.put o.dst v)):walk P ops Q N ((.pure,i)::is) A a w:=by
 unfold walk;simp only [ho,Region.wanted,hg,if_true];exact h (fun a=>walk P ops Q N is A a w) fun _ h=>h
theorem cells_of_cell {w:World} {p:Addr} (h:(w.cell? p).isSome=true):∃ cs T fr,w.heap[p.block]? =some (.cells cs T fr):=by
 unfold World.cell? at h;split at h
 ·rename_i c e f hh;exact ⟨c,e,f,hh⟩
 ·cases h
theorem nM {w w':World} (p:Addr) (hh:w'.heap[p.block]? =w.heap[p.block]?) (hcs:∃ cs T fr,w.heap[p.block]? =some (.cells cs T fr)):∀ (n i:Nat) (acc:Array Value) (v:Array Value),
  (loadCellsFrom p i n acc).run P w= .ok v w→(loadCellsFrom p i n acc).run P w'= .ok v w'
 | 0,i,acc,v,h=>by
  simp [loadCellsFrom] at h ⊢
  exact h
 | n+1,i,acc,v,h=>by
  have hbl:(p.add i).block=p.block:=by unfold Addr.add;split<;>rfl
  have hq:w'.cell? (p.add i)=w.cell? (p.add i):=World.cell?_of_block (by rw [hbl];exact hh);simp only [loadCellsFrom,Sem.run_bind,run_load,hq] at h ⊢;cases hcell:w.cell? (p.add i) with
  | none =>
   obtain ⟨cs,T,fr,hb⟩:=hcs;simp [hcell,Result.andThen,World.farLoad,hbl,hb] at h
  | some u =>
   simp only [hcell,Result.andThen] at h ⊢;exact nM p hh hcs n (i+1) _ v h
theorem wN {w w':World} {T:TypeId} {p:Addr} {v:Value} (hb:Below w.heap.size w w') (hc:(w.cell? p).isSome=true) (h:(loadVar T p).run P w= .ok v w):(loadVar T p).run P w'= .ok v w':=by
 have hcs:=cells_of_cell hc
 have hp:p.block<w.heap.size:=by
  obtain ⟨cs,T,fr,hh⟩:=hcs
  rcases Nat.lt_or_ge p.block w.heap.size with h|h
  ·exact h
  ·rw [Array.getElem?_eq_none h] at hh;cases hh
 have hh:=hb.block p.block hp;have hq:w'.cell? p=w.cell? p:=World.cell?_of_block hh;obtain ⟨u,hu⟩:=Option.isSome_iff_exists.1 hc;unfold loadVar at h ⊢;rw [Sem.run_bind] at h ⊢
 have ha:∃ r,∀ x:World,(isAgg T).run P x=match r with|Except.ok b=>Result.ok b x|Except.error e=>Result.halt e x:=by
  cases hT:P.underlying T with
  | none => exact ⟨.error (.stuck "no such type"), fun x => by simp [isAgg, Go.underlying, Sem.run_bind, hT, Result.andThen]⟩
  | some d=>cases d<;>first
   | (refine ⟨.ok true,fun x=>?_⟩;simp [isAgg,Go.underlying,Sem.run_bind,hT,Result.andThen];done)
   | (refine ⟨.ok false,fun x=>?_⟩;simp [isAgg,Go.underlying,Sem.run_bind,hT,Result.andThen];done)
 obtain ⟨r,hr⟩:=ha;rw [hr] at h ⊢;cases r with
 | error e=>simp [Result.andThen] at h
 | ok b =>
  simp only [Result.andThen] at h ⊢;cases b with
  | false =>
   simp only [Bool.false_eq_true,if_false,run_load,hq,hu] at h ⊢
   injection h with h1
   rw [h1]
  | true =>
   simp only [if_true,Sem.run_bind,sizeOf,typeInfo] at h ⊢;cases hi:P.info? T with
   | none=>simp [hi,Result.andThen] at h
   | some i =>
    simp [hi,Result.andThen] at h ⊢
    unfold loadCells at h ⊢;cases hl:(loadCellsFrom p 0 i.size #[]).run P w with
    | halt e x=>simp [hl] at h
    | ok c x =>
     simp [hl] at h
     obtain ⟨h1,h2⟩:=h;rw [h2] at hl;rw [nM p hh hcs _ _ _ _ hl];simp [h1]
theorem Iq {T:TypeId} {x:Operand} {p:Addr} (ho:ops[i]? =some o) (hg:o.guard=none) (hop:o.op= .load T x) (hx:a.eval x= .pointer (some p))
  (h:∀ J:Value→Prop,(∀ v,walk P ops Q N is A (a.put o.dst v) w→J v)→(w.cell? p).isSome=true∧∃ v,(loadVar T p).run P w= .ok v w∧J v):walk P ops Q N ((.read,i)::is) A a w:=by
 unfold walk;simp only [ho,Region.wanted,hg,if_true];obtain ⟨h1,v,h2,h3⟩:=h (fun v=>walk P ops Q N is A (a.put o.dst v) w) fun _ h=>h;refine ⟨v,fun w' hb=>?_,h3⟩;simp only [execOp,hop,hx,Instr.loadAt,Instr.sureAddr,Sem.run_bind,Sem.run_pure,Result.andThen_ok,wN hb h1 h2]
theorem aH (ho:ops[i]? =some o) (hg:o.guard=none) (h:∀ w',Below w.heap.size w w'→∀ J:Act→World→Prop,(∀ a' w'',Below w'.heap.size w' w''→walk P ops Q N is A a' w''→J a' w'')→o.wp P a w' J Q):walk P ops Q N ((.ext,i)::is) A a w:=by
 unfold walk;simp only [ho,Region.wanted,hg,if_true];exact fun w' hb=>h w' hb _ fun a' w'' h1 h2=>⟨h1,h2⟩
theorem cK {cs:Array Value} {T:TypeId} (ho:ops[i]? =some o) (h:∀ b w',Below w.heap.size w w'→N≤b→b<w'.heap.size→b∉A→w'.heap[b]? =some (.cells cs T (0,0))→walk P ops Q N is (b::A) (a.put o.dst (.pointer (some ⟨b,0,none⟩))) w'):walk P ops Q N ((.alloc cs T,i)::is) A a w:=by
 unfold walk;simp only [ho];exact h
theorem qo:∀ (js:List Nat) (l:List Oper) (a:Act) (w:World),js.map (ops[·]?)=l.map some→wpList P ops Q l a w→wpOps P ops Q js a w
 | [],[],_,_,_,h=>h
 | [],_:: _,_,_,hl,_=>by cases hl
 | _:: _,[],_,_,hl,_=>by cases hl
 | j::js,x::xs,a,w,hl,h=>by
  simp only [List.map_cons,List.cons.injEq] at hl;unfold wpList at h;simp only [wpOps,hl.1];split
  ·rename_i hw;simp only [hw,if_true] at h;exact h.imp (Oper.wp_mono fun a w h=>qo js xs a w hl.2 h) id
  ·rename_i hw;simp only [hw] at h;exact qo js xs _ _ hl.2 h
theorem aU (l:List Oper) (hl:(i::is.map (·.2)).map (ops[·]?)=l.map some) (h:∀ w',Below w.heap.size w w'→wpList P ops Q l a w'):walk P ops Q N ((.fin,i)::is) A a w:=by
 have hi:∃ o,ops[i]? =some o:=by
  cases l with
  | nil=>cases hl
  | cons x xs=>simp only [List.map_cons,List.cons.injEq] at hl;exact ⟨x,hl.1⟩
 obtain ⟨o,ho⟩:=hi;unfold walk;simp only [ho];exact fun w' hb=>qo _ l a w' hl (h w' hb)
end
end
end Go.SW
namespace Go.Mem
open Go Go.RowKit Go.SW Go.Num
def ah (w:World) (b:Nat) (cs:Array Value) (T:TypeId):Prop:=w.heap[b]? =some (.cells cs T (0,0))
theorem ah.lt {w:World} {b:Nat} {cs:Array Value} {T:TypeId} (h:ah w b cs T):b<w.heap.size:=by
 rcases Nat.lt_or_ge b w.heap.size with h1|h1
 ·exact h1
 ·unfold ah at h;rw [Array.getElem?_eq_none h1] at h;cases h
theorem ah.cell {w:World} {b:Nat} {cs:Array Value} {T:TypeId} (h:ah w b cs T) (o:Nat):w.cell? ⟨b,o,none⟩=cs[o]? :=by
 unfold ah at h;simp [World.cell?, h]
theorem ah.free {w:World} {b:Nat} {cs:Array Value} {T:TypeId} (h:ah w b cs T) (o:Nat):w.frozen? ⟨b,o,none⟩=false:=by
 unfold ah at h;simp [World.frozen?, h]
theorem ah.later {w w':World} {b:Nat} {cs:Array Value} {T:TypeId} (h:ah w b cs T) (hb:Below w.heap.size w w'):ah w' b cs T:=by
 unfold ah;rw [hb.block b h.lt];exact h
theorem ah.new (w:World) (cs:Array Value) (T:TypeId):ah (w.alloc (.cells cs T (0,0))) w.heap.size cs T:=by
 show (w.heap.push _)[w.heap.size]? =_;simp
theorem ah.alloc {w:World} {b:Nat} {cs:Array Value} {T:TypeId} (h:ah w b cs T) (o:Obj):ah (w.alloc o) b cs T :=
 h.later ((Below.refl _ _).alloc (Nat.le_refl _) _)
theorem ah.drew {w:World} {b:Nat} {cs:Array Value} {T:TypeId} (h:ah w b cs T):ah w.drew b cs T:=h
theorem uN {w:World} {b:Nat} (a:Addr) (u:Value) (h:b≠a.block):(w.setCell a u).heap[b]? =w.heap[b]? :=Below.heap_setCell w a u b h
theorem ah.setOther {w:World} {b:Nat} {cs:Array Value} {T:TypeId} (h:ah w b cs T) {a:Addr} (u:Value) (hne:b≠a.block):ah (w.setCell a u) b cs T:=by
 unfold ah;rw [uN a u hne];exact h
theorem ah.set {w:World} {b:Nat} {cs:Array Value} {T:TypeId} (h:ah w b cs T) (o:Nat) (u:Value):ah (w.setCell ⟨b,o,none⟩ u) b (cs.setIfInBounds o u) T:=by
 have hl:=h.lt;unfold ah at h ⊢;have e:w.heap[b]= .cells cs T (0,0):=by simpa [hl] using h
 simp [World.setCell,hl,Array.getElem_modify,e]
theorem ah.ne {w:World} {b b':Nat} {cs cs':Array Value} {T T':TypeId} (h:ah w b cs T) (h':ah w b' cs' T') (hT:T≠T'):b≠b':=by
 rintro rfl;unfold ah at h h';rw [h] at h'
 injection h' with e
 injection e with _ e2
 exact hT e2
theorem Za {w w':World} {n:Nat} (h:Below (w.drewN n).heap.size (w.drewN n) w'):Below w.heap.size w w':=⟨h.os,h.tape,h.output,h.size,h.block⟩
theorem Bt {w w1 w2:World} (h:Below w.heap.size w w1) (k:Below w1.heap.size w1 w2):Below w.heap.size w w2:=kJ h k
def Row (w:World) (T:TypeId) (v:Value) (xs:List Value):Prop :=
 ∃ a cap,v= .slice a xs.length cap∧xs.length≤cap∧cap≤9223372036854775807∧(a=none→cap=0) ∧
  ∀ ad,a=some ad→ad.spot=none∧∃ arr,w.heap[ad.block]? =some (.cells arr T (0,0))∧∀ i (h:i<xs.length),arr[ad.off+i]? =some xs[i]
theorem Row.later {w w':World} {T:TypeId} {v:Value} {xs:List Value} (h:Row w T v xs) (hb:Below w.heap.size w w'):Row w' T v xs:=by
 obtain ⟨a,cap,h1,h2,h3,h4,h5⟩:=h;refine ⟨a,cap,h1,h2,h3,h4,fun ad had=>?_⟩;obtain ⟨h6,arr,h7,h8⟩:=h5 ad had;have hx:ah w ad.block arr T:=h7;exact ⟨h6,arr,hx.later hb,h8⟩
theorem Row.setOther {w:World} {T:TypeId} {v:Value} {xs:List Value} (h:Row w T v xs) {b:Nat} {cs:Array Value} {T':TypeId} (hx:ah w b cs T') (hT:T≠T') (o:Nat) (u:Value):Row (w.setCell ⟨b,o,none⟩ u) T v xs:=by
 obtain ⟨a,cap,h1,h2,h3,h4,h5⟩:=h;refine ⟨a,cap,h1,h2,h3,h4,fun ad had=>?_⟩;obtain ⟨h6,arr,h7,h8⟩:=h5 ad had;have hy:ah w ad.block arr T:=h7;exact ⟨h6,arr,hy.setOther u (hy.ne hx hT),h8⟩
theorem Row.nil (w:World) (T:TypeId):Row w T (.slice none 0 0) []:=⟨none,0,rfl,by simp,by simp,fun _=>rfl,fun _ h=>by cases h⟩
theorem Row.cases {w:World} {T:TypeId} {v:Value} {xs:List Value} (h:Row w T v xs) :
  (v= .slice none 0 0∧xs=[])∨∃ b off cap arr,v= .slice (some ⟨b,off,none⟩) xs.length cap∧xs.length≤cap∧cap≤9223372036854775807∧ah w b arr T∧∀ i (h:i<xs.length),arr[off+i]? =some xs[i]:=by
 obtain ⟨a,cap,h1,h2,h3,h4,h5⟩:=h;cases a with
 | none =>
  have h6:=h4 rfl;have h7:xs=[]:=List.length_eq_zero_iff.1 zo;subst h6 h7;exact .inl ⟨h1,rfl⟩
 | some ad =>
  obtain ⟨h6,arr,h7,h8⟩:=h5 ad rfl;obtain ⟨b,off,sp⟩:=ad;simp only at h6;subst h6;exact .inr ⟨b,off,cap,arr,h1,h2,h3,h7,h8⟩
theorem Row.mk {w:World} {T:TypeId} {xs:List Value} {b off cap n:Nat} {arr:Array Value} (hn:n=xs.length) (h2:xs.length≤cap) (h3:cap≤9223372036854775807) (h7:ah w b arr T) (h8:∀ i (h:i<xs.length),arr[off+i]? =some xs[i]) :
  Row w T (.slice (some ⟨b,off,none⟩) n cap) xs:=by
 subst hn;exact ⟨_,_,rfl,h2,h3,(fun h=>by cases h),fun ad had=>by cases had;exact ⟨rfl,arr,h7,h8⟩⟩
def bZ (l:List Nat):List Value:=l.map fun (d:Nat)=>.int .u32 (d:Int)
def ints (l:List Nat):List Value:=l.map fun (d:Nat)=>.int .i64 (d:Int)
theorem dF (l:List Nat):(bZ l).length=l.length:=by simp [bZ]
theorem aV (l:List Nat):(ints l).length=l.length:=by simp [ints]
def aQ (w:World) (v:Value) (n:Nat):Prop:=Row w 61 v (bZ (bW 1000000000 n))
theorem aQ.later {w w':World} {v:Value} {n:Nat} (h:aQ w v n) (hb:Below w.heap.size w w'):aQ w' v n:=Row.later h hb
theorem aQ.setOther {w:World} {v:Value} {n:Nat} (h:aQ w v n) {b:Nat} {cs:Array Value} {T':TypeId} (hx:ah w b cs T') (hT:61≠T') (o:Nat) (u:Value):aQ (w.setCell ⟨b,o,none⟩ u) v n:=Row.setOther h hx hT o u
def lK (w:World) (v:Value) (l:List Nat):Prop:=Row w 61 v (bZ l)
theorem lK.later {w w':World} {v:Value} {l:List Nat} (h:lK w v l) (hb:Below w.heap.size w w'):lK w' v l:=Row.later h hb
theorem lK.cases {w:World} {v:Value} {l:List Nat} (h:lK w v l) :
  (v= .slice none 0 0∧l=[])∨∃ b off cap,v= .slice (some ⟨b,off,none⟩) l.length cap∧l.length≤cap∧cap≤9223372036854775807∧b<w.heap.size∧(∃ arr,ah w b arr 61)∧∀ i,i<l.length→w.cell? ⟨b,off+i,none⟩=some (.int .u32 (l.getD i 0:Nat)):=by
 rcases Row.cases h with ⟨h1,h2⟩|⟨b,off,cap,arr,h1,h2,h3,h4,h5⟩
 ·refine .inl ⟨h1,?_⟩;unfold bZ at h2
  simpa using h2
 ·refine .inr ⟨b,off,cap,by rw [h1,dF],by rwa [dF] at h2,h3,h4.lt,⟨arr,h4⟩,fun i hi=>?_⟩;rw [h4.cell,h5 i (by rw [dF];exact hi)];simp [bZ,hi]
theorem lK.read {w:World} {v:Value} {l:List Nat} (h:lK w v l) :
  ∃ a cap,v= .slice a l.length cap∧l.length≤cap∧cap≤9223372036854775807∧∀ k,k<l.length→∃ b off,a=some ⟨b,off,none⟩∧b<w.heap.size∧w.cell? ⟨b,off+k,none⟩=some (.int .u32 (l.getD k 0:Nat)):=by
 rcases lK.cases h with ⟨rfl,rfl⟩|⟨b,off,cap,rfl,h1,h2,h3,_,h5⟩
 ·exact ⟨none,0,rfl,by simp,by simp,fun k hk=>by cases hk⟩
 ·exact ⟨some ⟨b,off,none⟩,cap,rfl,h1,h2,fun k hk=>⟨b,off,rfl,h3,h5 k hk⟩⟩
theorem aQ.Qm {w:World} {v:Value} {l:List Nat} (h:lK w v l) (hd:dS 1000000000 l) (ht:Top l):aQ w v (val 1000000000 l):=by
 unfold aQ;rw [Fv zo hd ht];exact h
theorem aQ.Ci {w:World} {v:Value} {n:Nat} (h:aQ w v n):lK w v (bW 1000000000 n):=h
theorem Row.fI {w:World} {base k:Nat} {T:TypeId} {v:Value} {xs:List Value} (h:w.ownsRow base T 1 v k xs):Row w T v xs:=by
 obtain ⟨h1,h2|⟨g,cap,cur,h3,h4,h5,h6,h7,h8,h9⟩⟩:=h
 ·obtain ⟨rfl,rfl⟩:=h2;have:xs=[]:=List.length_eq_zero_iff.1 zo;subst this;exact Row.nil _ _
 ·rw [Nat.mul_one] at h1 h8 h9;subst h3;unfold maxLen at h7;refine Row.mk h1.symm zo h7 h5 fun i hi=>?_;have hik:i<k:=by omega
  rw [Nat.zero_add];have:xs[i]? =(cur.toList.take k)[i]? :=by rw [h9]
  rw [List.getElem?_take_of_lt hik] at this;rw [← Array.getElem?_toList,← this];simp [hi]
theorem lK.fI {w:World} {base k:Nat} {v:Value} {s:List Nat} (h:w.ownsRow base 61 1 v k (bZ s)):lK w v s:=Row.fI h
theorem qW (n:Nat):(madeCells #[Value.int .u32 0] n).toList=bZ (List.replicate n 0):=by
 rw [toList_madeCells_one];simp [bZ]
theorem jP (l:List Nat) (k d:Nat):(bZ l).set k (.int .u32 (d:Int))=bZ (l.set k d):=by simp [bZ,List.map_set]
theorem mP {l:List Nat} {k:Nat} (h:k<l.length):(bZ l)[k]? =some (.int .u32 (l.getD k 0:Nat)):=by simp [bZ,h]
theorem Ww (w:World) (g:Option Nat):w.grownBy w g:=⟨rfl,rfl,rfl,Nat.le_refl _,fun _ _ _=>rfl⟩
theorem jY {a w:World} {g:Option Nat} (h:a.grownBy w g) (n:Nat):a.grownBy (w.drewN n) g:=⟨h.os,h.tape,h.output,h.size,h.block⟩
theorem yH {a w:World} {g:Nat} (h:a.grownBy w (some g)) (o:Nat) (u:Value):a.grownBy (w.setCell ⟨g,o,none⟩ u) (some g) :=
 ⟨h.os,h.tape,h.output,by simpa [World.setCell] using h.size,fun i hi hne=>(Below.heap_setCell w _ u i (by rintro rfl;exact hne rfl)).trans (h.block i hi hne)⟩
theorem Ii {B g:Nat} {a b c:World} (h:Below B a b) (k:b.grownBy c (some g)) (hB:B≤b.heap.size) (hg:B≤g):Below B a c :=
 h.grown k hB (fun k hk=>by cases hk;exact hg)
theorem uZ {w:World} {base g n:Nat} {T:TypeId} {xs:List Value} (h:w.ownsRow base T 1 (.slice (some ⟨g,0,none⟩) n n) n xs):ah w g xs.toArray T∧base≤g:=by
 obtain ⟨h1,h2|⟨g',cap,cur,h3,h4,h5,h6,h7,h8,h9⟩⟩:=h
 ·cases h2.1
 ·simp only [Value.slice.injEq,Option.some.injEq,Addr.mk.injEq,and_true,true_and] at h3;obtain ⟨rfl,rfl⟩:=h3;rw [Nat.mul_one] at h8 h9;rw [List.take_of_length_le (by rw [Array.length_toList,h8];exact Nat.le_refl _)] at h9;exact ⟨by unfold ah;rw [h5,← h9],h4⟩
theorem lK.xC {w:World} {g n m:Nat} {l post:List Nat} (h:ah w g (bZ (l++post)).toArray 61) (hl:l.length=n) (hm:n≤m) (hm2:m≤9223372036854775807):lK w (.slice (some ⟨g,0,none⟩) n m) l:=by
 refine Row.mk (by rw [dF];omega) (by rw [dF];omega) hm2 h fun i hi=>?_;rw [dF] at hi;rw [Nat.zero_add,List.getElem?_toArray];simp [bZ,hi,List.getElem?_append_left]
theorem aQ.lit {w:World} {d:Nat} (h0:0<d) (h1:d<1000000000):aQ (w.alloc (.cells #[.int .u32 d] 61 (0,0))) (.slice (some ⟨w.heap.size,0,none⟩) 1 1) d:=by
 have e:bW 1000000000 d=[d]:=by rw [jF zo h0,Nat.mod_eq_of_lt h1,Nat.div_eq_of_lt h1,fM]
 unfold aQ;rw [e];refine Row.mk rfl (by simp [bZ]) zo (ah.new _ _ _) fun i hi=>?_
 match i,hi with
 | 0,_=>rfl
theorem aQ.zero (w:World):aQ w (.slice none 0 0) 0:=by unfold aQ;rw [fM];exact Row.nil _ _
theorem Jy (l:List Nat):∀ v∈bZ l,v.oneCell'=true:=fun v hv=>by
 obtain ⟨d,_,rfl⟩:=List.mem_map.1 hv;rfl
theorem lK.src {w:World} {a:Option Addr} {l:List Nat} (h:∀ k,k<l.length→∃ b off,a=some ⟨b,off,none⟩∧b<w.heap.size∧w.cell? ⟨b,off+k,none⟩=some (.int .u32 (l.getD k 0:Nat))) (hl:0<(bZ l).length) :
  ∃ ad,a=some ad∧∀ j v,(bZ l)[j]? =some v→w.cell? (ad.add j)=some v:=by
 rw [dF] at hl;obtain ⟨b,off,rfl,_,_⟩:=h 0 hl;refine ⟨_,rfl,fun j v hv=>?_⟩
 have hj:j<l.length:=by
  have:=(List.getElem?_eq_some_iff.1 hv).1;rwa [dF] at this
 obtain ⟨b',off',h1,_,h3⟩:=h j hj;simp only [Option.some.injEq,Addr.mk.injEq,and_true] at h1;obtain ⟨rfl,rfl⟩:=h1;rw [mP hj] at hv;rw [Addr.add_lit,h3,← hv]
end Go.Mem
namespace Go.Dec
open Go.Num Go.Lib
theorem gH {u:Nat} (h:u<10):decDigits u=[UInt8.ofNat (48+u)]:=by rw [decDigits,dif_pos h]
theorem qb {u:Nat} (h:¬ u<10):decDigits u=decDigits (u / 10)++[UInt8.ofNat (48+u%10)]:=by rw [decDigits,dif_neg h]
theorem uU (u:Nat):decDigits u≠[]:=by
 by_cases h:u<10
 ·rw [gH h];simp
 ·rw [qb h];simp
theorem uW (u:Nat):1≤(decDigits u).length:=List.length_pos_iff.mpr (uU u)
def pad:Nat→Nat→List UInt8
 | 0,_=>[]
 | k+1,r=>pad k (r / 10)++[UInt8.ofNat (48+r%10)]
theorem oL:∀ k r,(pad k r).length=k
 | 0,_=>rfl
 | k+1,r=>by simp [pad,oL k]
theorem Dk:∀ k,pad k 0=List.replicate k 48
 | 0=>rfl
 | k+1=>by
  rw [pad,Nat.zero_div,Dk k,List.replicate_succ'];rfl
theorem Cj:∀ (k q r:Nat),0<q→r<10^k→decDigits (q*10^k+r)=decDigits q++pad k r
 | 0,q,r,hq,hr=>by
  have:r=0:=by simpa using hr
  subst this;simp [pad]
 | k+1,q,r,hq,hr=>by
  have hp:0<10^k:=Nat.pow_pos zd;have e:q*10^(k+1)+r=10*(q*10^k)+r:=by rw [Nat.pow_succ,Nat.mul_comm 10,Nat.mul_assoc]
  have h1:0<q*10^k:=Nat.mul_pos hq hp
  rw [qb zo,e,show (10*(q*10^k)+r) / 10=q*10^k+r / 10 by omega,show (10*(q*10^k)+r)%10=r%10 by omega,
   Cj k q (r / 10) hq (by rw [Nat.pow_succ] at hr;omega),pad,List.append_assoc]
theorem yX:∀ (k r:Nat),0<k→r<10^k→List.replicate (k - (decDigits r).length) 48++decDigits r=pad k r
 | 0,_,h,_=>by omega
 | k+1,r,_,hr=>by
  by_cases h:r<10
  ·rw [gH h,pad,Nat.div_eq_of_lt h,Nat.mod_eq_of_lt h,Dk];simp
  ·have hk:0<k:=by
    rcases Nat.eq_zero_or_pos k with h0|h0
    ·subst h0;simp at hr;omega
    ·exact h0
   rw [qb h,pad,← yX k (r / 10) hk (by rw [Nat.pow_succ] at hr;omega)];simp
theorem ko:∀ (k r:Nat),0<k→r<10^k→(decDigits r).length≤k:=fun k r hk hr=>by
 by_cases h:(decDigits r).length≤k
 ·exact h
 ·have h1:=congrArg List.length (yX k r hk hr);rw [List.length_append,List.length_replicate,oL] at h1;omega
theorem Fy (n:Nat):n<10^(decDigits n).length:=by
 induction n using Nat.strongRecOn with
 | _ n ih =>
  by_cases h:n<10
  ·rw [gH h];simpa using h
  ·rw [qb h,List.length_append,List.length_singleton,Nat.pow_succ];have:=ih (n / 10) zo;omega
def num (l:List UInt8):Nat:=l.foldl (fun v b=>v*10+(b.toNat - 48)) 0
def qL (l:List UInt8):Prop:=∀ b∈l,48≤b.toNat∧b.toNat≤57
theorem oM (l:List UInt8) (b:UInt8):num (l++[b])=num l*10+(b.toNat - 48):=by simp [num]
theorem JZ:num []=0:=rfl
theorem Aj:∀ (m:List UInt8) (v:Nat),m.foldl (fun v b=>v*10+(b.toNat - 48)) v=v*10^m.length+num m
 | [],v=>by simp [num]
 | b::m,v=>by
  have h1:=Aj m (v*10+(b.toNat - 48));have h2:=Aj m (0*10+(b.toNat - 48));rw [List.foldl_cons,h1];have e:num (b::m)=m.foldl (fun v b=>v*10+(b.toNat - 48)) (0*10+(b.toNat - 48)):=rfl;rw [e,h2,List.length_cons,Nat.pow_succ,Nat.add_mul,Nat.add_mul,Nat.mul_assoc,Nat.mul_comm (10^m.length) 10];omega
theorem Dp (l m:List UInt8):num (l++m)=num l*10^m.length+num m:=by
 unfold num;rw [List.foldl_append,Aj];rfl
theorem Me {α:Type} {Q:List α→Prop} (h0:Q []) (h1:∀ l a,Q l→Q (l++[a])) (l:List α):Q l:=by
 have h:∀ m:List α,Q m.reverse:=fun m=>by
  induction m with
  | nil=>exact h0
  | cons a m ih=>rw [List.reverse_cons];exact h1 _ _ ih
 have:=h l.reverse
 rwa [List.reverse_reverse] at this
theorem Zd (l:List UInt8):qL l→num l<10^l.length :=
 Me (Q:=fun l=>qL l→num l<10^l.length) (fun _=>by simp [num]) (fun l b ih h=>by
  rw [oM,List.length_append,List.length_singleton,Nat.pow_succ];have h1:=ih fun x hx=>h x (by simp [hx]);have h2:=h b zi;omega) l
theorem Ob {l m:List UInt8} (h:qL l) (k:qL m):qL (l++m):=fun b hb=>by
 rcases List.mem_append.mp hb with hb|hb
 ·exact h b hb
 ·exact k b hb
theorem mJ {d:Nat} (h:d<10):(UInt8.ofNat (48+d)).toNat=48+d:=by
 rw [UInt8.toNat_ofNat'];omega
theorem kY (n:Nat):qL (decDigits n):=by
 induction n using Nat.strongRecOn with
 | _ n ih =>
  by_cases h:n<10
  ·rw [gH h];intro b hb;rw [List.mem_singleton] at hb;subst hb;rw [mJ h];omega
  ·rw [qb h];refine Ob (ih _ zo) fun b hb=>?_;rw [List.mem_singleton] at hb;subst hb;rw [mJ zo];omega
theorem mK (n:Nat):num (decDigits n)=n:=by
 induction n using Nat.strongRecOn with
 | _ n ih =>
  by_cases h:n<10
  ·rw [gH h,← List.nil_append [UInt8.ofNat (48+n)],oM,JZ,mJ h];omega
  ·rw [qb h,oM,ih _ zo,mJ zo];omega
theorem an3 (l:List UInt8):qL l→l≠[]→(l.head? =some 48→l.length=1)→decDigits (num l)=l :=
 Me (Q:=fun l=>qL l→l≠[]→(l.head? =some 48→l.length=1)→decDigits (num l)=l) (fun _ h=>absurd rfl h) (fun l b ih hd _ h0=>by
  have hb:=hd b zi
  have hbe:UInt8.ofNat (48+(b.toNat - 48))=b:=by
   rw [show 48+(b.toNat - 48)=b.toNat by omega];exact UInt8.ofNat_toNat
  by_cases hl:l=[]
  ·subst hl;rw [oM,JZ,List.nil_append,gH zo,Nat.zero_mul,Nat.zero_add,hbe]
  ·have hdl:qL l:=fun x hx=>hd x (by simp [hx])
   have hh:l.head? ≠some 48:=fun e=>by
    have e2:(l++[b]).head? =some 48:=by rw [List.head?_append,e];rfl
    have:=h0 e2;rw [List.length_append,List.length_singleton] at this;have:=List.length_pos_iff.mpr hl;omega
   have ih2:=ih hdl hl (fun e=>absurd e hh)
   have hpos:0<num l:=by
    rcases Nat.eq_zero_or_pos (num l) with e|e
    ·rw [e,gH zo] at ih2;rw [← ih2] at hh;exact absurd rfl hh
    ·exact e
   rw [oM,qb zo,show (num l*10+(b.toNat - 48)) / 10=num l by omega,show (num l*10+(b.toNat - 48))%10=b.toNat - 48 by omega,ih2,hbe]) l
theorem uX {n:Nat} (h:(decDigits n).head? =some 48):n=0:=by
 induction n using Nat.strongRecOn with
 | _ n ih =>
  by_cases hn:n<10
  ·rw [gH hn] at h;simp only [List.head?_cons,Option.some.injEq] at h;have:=congrArg UInt8.toNat h;rw [mJ hn] at this;simp at this
   omega
  ·rw [qb hn] at h
   have h2:(decDigits (n / 10)).head? =some 48:=by
    cases hq:decDigits (n / 10) with
    | nil=>exact absurd hq (uU _)
    | cons x t=>rw [hq] at h;simpa using h
   have:=ih _ zo h2;omega
def eO (d:List UInt8) (neg:Bool):Bool :=
 d≠[]&&d.length≤600&&d.all (fun b=>48≤b.toNat&&b.toNat≤57)&& !(d.head? == some 48&&(neg || 1<d.length))
def cut (s:List UInt8):List UInt8 × Bool:=if s.head? =some 45 then (s.tail,true) else (s,false)
def mk (n:Nat) (neg:Bool):Int:=if neg then -(n:Int) else n
def whole (s:List UInt8):Option Int:=if eO (cut s).1 (cut s).2 then some (mk (num (cut s).1) (cut s).2) else none
theorem pW {d:List UInt8} {neg:Bool} (h:eO d neg=true):qL d:=by
 intro b hb;unfold eO at h;simp only [Bool.and_eq_true] at h;have:=List.all_eq_true.mp h.1.2 b hb
 simpa using this
theorem mD {s:List UInt8} {z:Int} (h:whole s=some z):s=itoa z∧(decDigits z.natAbs).length≤600:=by
 unfold whole at h;split at h
 ·rename_i hok;have hd:=pW hok;unfold eO at hok;simp only [Bool.and_eq_true,Bool.not_eq_true',decide_eq_true_eq] at hok;obtain ⟨⟨⟨h1,h2⟩, -⟩,h4⟩:=hok
  have hlen:(cut s).1.head? =some 48→(cut s).1.length=1:=fun e=>by
   have:=List.length_pos_iff.mpr h1;rw [e] at h4;simp at h4
   omega
  have hdn:=an3 _ hd h1 hlen;simp only [Option.some.injEq] at h;unfold cut at *
  by_cases hs:s.head? =some 45
  ·rw [if_pos hs] at *;simp only at *
   have hz:0<num s.tail:=by
    rcases Nat.eq_zero_or_pos (num s.tail) with e|e
    ·rw [e,gH zo] at hdn;rw [← hdn] at h4;simp at h4
    ·exact e
   subst h;have e1:mk (num s.tail) true= -((num s.tail:Nat):Int):=rfl;have e2:(-((num s.tail:Nat):Int)).natAbs=num s.tail:=by omega
   rw [e1,e2,hdn];refine ⟨?_,h2⟩;unfold itoa;rw [if_pos zo,e2,hdn];cases s with
   | nil=>simp at hs
   | cons x t=>simp only [List.head?_cons,Option.some.injEq] at hs;subst hs;rfl
  ·rw [if_neg hs] at *;simp only at *;subst h;have e1:mk (num s) false=((num s:Nat):Int):=rfl;rw [e1,Int.natAbs_natCast,hdn];refine ⟨?_,h2⟩;unfold itoa;rw [if_neg zo,Int.toNat_natCast,hdn]
 ·simp at h
theorem dO {z:Int} (h:(decDigits z.natAbs).length≤600):whole (itoa z)=some z:=by
 unfold whole
 by_cases hz:z<0
 ·have e:itoa z=45::decDigits z.natAbs:=by unfold itoa;rw [if_pos hz]
  have ec:cut (itoa z)=(decDigits z.natAbs,true):=by rw [e];rfl
  rw [ec];have hh:(decDigits z.natAbs).head? ≠some 48:=fun e=>by have:=uX e;omega
  rw [if_pos,mK]
  ·have:mk z.natAbs true=z:=by unfold mk;rw [if_pos rfl];omega
   rw [this]
  ·unfold eO;have hd:=kY z.natAbs;simp only [Bool.and_eq_true,decide_eq_true_eq,List.all_eq_true,Bool.not_eq_true',Bool.and_eq_false_iff];exact ⟨⟨⟨uU _,h⟩,hd⟩,.inl (by simpa using hh)⟩
 ·have e:itoa z=decDigits z.natAbs:=by unfold itoa;rw [if_neg hz,show z.toNat=z.natAbs by omega]
  have hnm:(itoa z).head? ≠some 45:=by
   rw [e];intro h1;have hd:=kY z.natAbs;cases hq:decDigits z.natAbs with
   | nil=>exact uU _ hq
   | cons x t =>
    rw [hq] at h1 hd;simp only [List.head?_cons,Option.some.injEq] at h1;have:=hd x zi;subst h1;simp at this
  have ec:cut (itoa z)=(decDigits z.natAbs,false):=by unfold cut;rw [if_neg hnm,e]
  rw [ec,if_pos,mK]
  ·have:mk z.natAbs false=z:=by unfold mk;simp;omega
   rw [this]
  ·unfold eO;have hd:=kY z.natAbs;simp only [Bool.and_eq_true,decide_eq_true_eq,List.all_eq_true,Bool.not_eq_true',Bool.and_eq_false_iff];refine ⟨⟨⟨uU _,h⟩,hd⟩,?_⟩
   by_cases hh:(decDigits z.natAbs).head? =some 48
   ·have:=uX hh
    right
    rw [this,gH zo];rfl
   ·exact .inl (by simpa using hh)
theorem Oe (z:Int):cut (itoa z)=(decDigits z.natAbs,decide (z<0)):=by
 by_cases hz:z<0
 ·have e:itoa z=45::decDigits z.natAbs:=by unfold itoa;rw [if_pos hz]
  rw [e,decide_eq_true hz];rfl
 ·have e:itoa z=decDigits z.natAbs:=by unfold itoa;rw [if_neg hz,show z.toNat=z.natAbs by omega]
  have hnm:(itoa z).head? ≠some 45:=by
   rw [e];intro h1;have hd:=kY z.natAbs;cases hq:decDigits z.natAbs with
   | nil=>exact uU _ hq
   | cons x t =>
    rw [hq] at h1 hd;simp only [List.head?_cons,Option.some.injEq] at h1;have:=hd x zi;subst h1;simp at this
  unfold cut;rw [if_neg hnm,e,decide_eq_false hz]
theorem yJ {a b:Int} (h:itoa a=itoa b):a=b:=by
 unfold itoa at h
 have key:∀ (n m:Nat),45::decDigits n≠decDigits m:=fun n m e=>by
  have:=kY m 45 (by rw [← e];simp);simp at this
 by_cases ha:a<0<;>by_cases hb:b<0
 ·rw [if_pos ha,if_pos hb] at h;have:=congrArg num (List.cons.inj h).2;rw [mK,mK] at this;omega
 ·rw [if_pos ha,if_neg hb] at h;exact absurd h (key _ _)
 ·rw [if_neg ha,if_pos hb] at h;exact absurd h.symm (key _ _)
 ·rw [if_neg ha,if_neg hb] at h;have:=congrArg num h;rw [mK,mK] at this;omega
theorem Jd {l:List Nat} {i:Nat} (hi:i<l.length) (hd:dS 1000000000 l) (hp:0<val 1000000000 (l.drop (i+1))) :
  decDigits (val 1000000000 (l.drop i))=decDigits (val 1000000000 (l.drop (i+1)))++(List.replicate (9 - (decDigits (l.getD i 0)).length) 48++decDigits (l.getD i 0)):=by
 have hx:l.getD i 0<10^9:=hd.getD zo i;rw [yX 9 _ zo hx,rM hi,← Cj 9 _ _ hp hx]
theorem CJ {l:List Nat} (h:Top l) (i:Nat):Top (l.drop i):=fun k hk=>by
 rw [List.length_drop] at hk;have:=h (i+k) zo;rw [List.getD_eq_getElem?_getD,List.getElem?_drop]
 rwa [List.getD_eq_getElem?_getD] at this
theorem uV {l:List Nat} (h:dS 1000000000 l):(decDigits (val 1000000000 l)).length≤9*l.length+1:=by
 refine ko _ _ zo (Nat.lt_of_lt_of_le (gJ zo h) ?_);rw [show (1000000000:Nat)=10^9 by rfl,← Nat.pow_mul];exact Nat.pow_le_pow_right zo zo
theorem YO {l:List Nat} {n i:Nat} (hn:l.length=n+1) (ht:Top l) (hi:i≤n):0<val 1000000000 (l.drop i) :=
 gV zo (CJ ht i) (fun e=>by have:=congrArg List.length e;rw [List.length_drop,hn] at this;simp at this;omega)
theorem GN {l:List Nat} {n:Nat} (hn:l.length=n+1):val 1000000000 (l.drop n)=l.getD n 0:=by
 rw [iH zo,List.drop_eq_nil_of_le zo];simp [val]
theorem Oc {l:List Nat} {n:Nat} (hn:l.length=n+1) (hd:dS 1000000000 l) (ht:Top l):(decDigits (val 1000000000 l)).length=9*n+(decDigits (l.getD n 0)).length:=by
 have key:∀ j,j≤n→(decDigits (val 1000000000 (l.drop (n - j)))).length=9*j+(decDigits (l.getD n 0)).length:=fun j=>by
  induction j with
  | zero=>intro _;rw [Nat.sub_zero,GN hn];omega
  | succ j ih =>
   intro hj;have h1:=Jd (l:=l) (i:=n - (j+1)) zo hd (YO hn ht zo);rw [show n - (j+1)+1=n - j by omega] at h1;have h2:(decDigits (l.getD (n - (j+1)) 0)).length≤9:=ko 9 _ zo (hd.getD zo _);rw [h1,List.length_append,ih zo,List.length_append,List.length_replicate];omega
 have:=key n (Nat.le_refl _)
 rwa [Nat.sub_self,List.drop_zero] at this
theorem om {bs:List UInt8} {s e:Nat} (h:s≤e) (he:e≤bs.length):num (bs.drop s)=num ((bs.take e).drop s)*10^(bs.length - e)+num (bs.drop e):=by
 have e1:bs.drop s=(bs.take e).drop s++bs.drop e:=by
  conv=>lhs;rw [← List.take_append_drop e bs]
  rw [List.drop_append_of_le_length (by rw [List.length_take];omega)]
 rw [e1,Dp,List.length_drop]
theorem ug {bs:List UInt8} {st i:Nat} {x:UInt8} (hst:st≤i) (hx:bs[i]? =some x):(bs.take (i+1)).drop st=(bs.take i).drop st++[x]:=by
 have hi:i<bs.length:=by
  rcases Nat.lt_or_ge i bs.length with h|h
  ·exact h
  ·rw [List.getElem?_eq_none h] at hx;simp at hx
 rw [List.take_add_one,hx,Option.toList_some,List.drop_append_of_le_length (by rw [List.length_take];omega)]
theorem Fb {bs:List UInt8} (hd:qL bs) {st i:Nat} (h9:i - st≤9):num ((bs.take i).drop st)<1000000000:=by
 have h1:=Zd ((bs.take i).drop st) (fun b hb=>hd b (List.mem_of_mem_take (List.mem_of_mem_drop hb)));have h2:(10:Nat)^((bs.take i).drop st).length≤10^9:=Nat.pow_le_pow_right zo (by rw [List.length_drop,List.length_take];omega);omega
theorem Bf {bs:List UInt8} (hd:qL bs) {st i:Nat} {x:UInt8} (hst:st≤i) (h9:i - st<9) (hx:bs[i]? =some x) :
  (((num ((bs.take i).drop st):Nat):Int)*10%4294967296+((x.toNat:Int) - 48)%256)%4294967296=(num ((bs.take (i+1)).drop st):Nat):=by
 have hb:=hd x (List.mem_of_getElem? hx);have h2:=Fb hd (i:=i+1) (st:=st) zo;rw [ug hst hx,oM] at h2 ⊢;omega
end Go.Dec
namespace Go.Mem
open Go Go.RowKit
variable {P:Program} {fn:Func} {R:Ending→World→Prop} {w:World} {tmps:Array Value}
theorem um {p u:Tmp} {ty t:TypeId} {g:Nat} {cs:Array Value} {d:TypeDesc} (h:fn.results=#[.cell p ty,.tmp u])
  (hp:tmps.getD p undef= .pointer (some ⟨g,0,none⟩)) (hg:ah w g cs t) (hu:P.underlying ty=some d)
  (hd:(match d with| .struct _| .array _ _=>true| _=>false)=true) (hi:(P.info? ty).map (·.size)=some cs.size) :
  (results fn tmps).run P w= .ok (.tuple #[.agg cs,tmps.getD u undef]) w:=by
 rw [results_cell_tmp h,hp];simp only [asAddr,Sem.run_pure,Result.andThen_ok];rw [run_loadVar_row w g t ty cs (0,0) d hg hu hd hi];rfl
theorem aM {p u:Tmp} {ty t:TypeId} {g:Nat} {cs:Array Value} {d:TypeDesc} (h:fn.results=#[.cell p ty,.tmp u])
  (hp:tmps.getD p undef= .pointer (some ⟨g,0,none⟩)) (hg:ah w g cs t) (hu:P.underlying ty=some d)
  (hd:(match d with| .struct _| .array _ _=>true| _=>false)=true) (hi:(P.info? ty).map (·.size)=some cs.size)
  (k:R (.returned (.tuple #[.agg cs,tmps.getD u undef])) w):bodyPost P fn R .ret { tmps:=tmps,defers:=[] } w :=
 bodyPost_ret (um h hp hg hu hd hi) rfl k
theorem dH {p:Tmp} {ty t:TypeId} {g:Nat} {cs:Array Value} {d:TypeDesc} (h:fn.results=#[.cell p ty])
  (hp:tmps.getD p undef= .pointer (some ⟨g,0,none⟩)) (hg:ah w g cs t) (hu:P.underlying ty=some d)
  (hd:(match d with| .struct _| .array _ _=>true| _=>false)=true) (hi:(P.info? ty).map (·.size)=some cs.size)
  (k:R (.returned (.agg cs)) w):bodyPost P fn R .ret { tmps:=tmps,defers:=[] } w :=
 bodyPost_ret (results_cell_row h tmps w g t cs (0,0) d hp hg hu hd hi) rfl k
end Go.Mem
namespace Go.Mem
open Go Go.RowKit Go.SW Go.Num Go.Dec
theorem ah.Ke {w:World} {b:Nat} {cs:Array Value} {T:TypeId} (h:b=w.heap.size):ah (w.alloc (.cells cs T (0,0))) b cs T:=h ▸ ah.new w cs T
theorem ah.pF (w:World) (o:Obj) (cs:Array Value) (T:TypeId):ah ((w.alloc o).alloc (.cells cs T (0,0))) (w.heap.size+1) cs T:=ah.Ke zi
theorem ah.at2 (w:World) (o o2:Obj) (cs:Array Value) (T:TypeId):ah (((w.alloc o).alloc o2).alloc (.cells cs T (0,0))) (w.heap.size+1+1) cs T:=ah.Ke zi
theorem ah.at3 (w:World) (o o2 o3:Obj) (cs:Array Value) (T:TypeId):ah ((((w.alloc o).alloc o2).alloc o3).alloc (.cells cs T (0,0))) (w.heap.size+1+1+1) cs T:=ah.Ke zi
theorem aQ.alloc {w:World} {v:Value} {n:Nat} (h:aQ w v n) (o:Obj):aQ (w.alloc o) v n:=h.later ((Below.refl _ _).alloc (Nat.le_refl _) _)
theorem aQ.drew {w:World} {v:Value} {n:Nat} (h:aQ w v n):aQ w.drew v n:=h.later (Below.drew (Below.refl _ _))
theorem bI {w W:World} (h:Below w.heap.size w W) (o:Obj):Below w.heap.size w (W.alloc o):=h.alloc h.size o
theorem aD {B:Nat} {w w':World} (h:Below B w w':=by repeat (first|(with_reducible exact Below.refl _ _)|(with_reducible assumption)|(with_reducible refine bI ?_ _)|((with_reducible refine Below.setCell ?_ ?_ _);rotate_left;focus (first|(simp;done)|(simp;omega)|assumption|(simp only [];omega)))|(with_reducible refine Below.drew ?_)|((with_reducible refine Bt (w1:=?_) ?_ ?_);rotate_right;with_reducible assumption))):Below B w w':=h
theorem aJ {w:World} {b:Nat} {cs:Array Value} {T:TypeId} (h:ah w b cs T:=by repeat (first|(with_reducible assumption)|(with_reducible apply ah.set)|(with_reducible exact ah.new _ _ _)|(with_reducible exact ah.pF _ _ _ _)|(with_reducible exact ah.at2 _ _ _ _ _)|(with_reducible apply ah.alloc)|(with_reducible apply ah.drew)|((with_reducible refine ah.later (w:=?_) ?_ ?_);rotate_right;with_reducible assumption)|((with_reducible apply ah.setOther);(case hne=>(first|assumption|(simp;done)|(simp;omega)))))):ah w b cs T:=h
theorem wO (w:World) (c0:Array Value) (T0:TypeId):∃ y,w.alloc (.cells c0 T0 (0,0))=y∧Below w.heap.size w y∧Hid (ah y (w.heap.size) c0 T0):=⟨_,rfl,bI (Below.refl _ _) _,zh (ah.new _ _ _)⟩
theorem Gj (w:World) (c0:Array Value) (T0:TypeId) (c1:Array Value) (T1:TypeId):∃ y,(w.alloc (.cells c0 T0 (0,0))).alloc (.cells c1 T1 (0,0))=y∧Below w.heap.size w y∧Hid (ah y (w.heap.size) c0 T0)∧Hid (ah y (w.heap.size+1) c1 T1):=⟨_,rfl,bI (bI (Below.refl _ _) _) _,zh (ah.alloc (ah.new _ _ _) _),zh (ah.pF _ _ _ _)⟩
theorem Ji (w:World) (c0:Array Value) (T0:TypeId) (c1:Array Value) (T1:TypeId) (c2:Array Value) (T2:TypeId):∃ y,((w.alloc (.cells c0 T0 (0,0))).alloc (.cells c1 T1 (0,0))).alloc (.cells c2 T2 (0,0))=y∧Below w.heap.size w y∧Hid (ah y (w.heap.size) c0 T0)∧Hid (ah y (w.heap.size+1) c1 T1)∧Hid (ah y (w.heap.size+1+1) c2 T2):=⟨_,rfl,bI (bI (bI (Below.refl _ _) _) _) _,zh (ah.alloc (ah.alloc (ah.new _ _ _) _) _),zh (ah.alloc (ah.pF _ _ _ _) _),zh (ah.at2 _ _ _ _ _)⟩
theorem al4 (w:World) (c0:Array Value) (T0:TypeId) (c1:Array Value) (T1:TypeId) (c2:Array Value) (T2:TypeId) (c3:Array Value) (T3:TypeId):∃ y,(((w.alloc (.cells c0 T0 (0,0))).alloc (.cells c1 T1 (0,0))).alloc (.cells c2 T2 (0,0))).alloc (.cells c3 T3 (0,0))=y∧Below w.heap.size w y∧Hid (ah y (w.heap.size) c0 T0)∧Hid (ah y (w.heap.size+1) c1 T1)∧Hid (ah y (w.heap.size+1+1) c2 T2)∧Hid (ah y (w.heap.size+1+1+1) c3 T3):=⟨_,rfl,bI (bI (bI (bI (Below.refl _ _) _) _) _) _,zh (ah.alloc (ah.alloc (ah.alloc (ah.new _ _ _) _) _) _),zh (ah.alloc (ah.alloc (ah.pF _ _ _ _) _) _),zh (ah.alloc (ah.at2 _ _ _ _ _) _),zh (ah.at3 _ _ _ _ _ _)⟩
theorem _root_.Go.RowKit.Hid.bl {w w':World} {b:Nat} {cs:Array Value} {T:TypeId} (h:Hid (ah w b cs T)) (hb:Below w.heap.size w w'):Hid (ah w' b cs T):=zh (h.out.later hb)
theorem _root_.Go.RowKit.Hid.cl {w:World} {b:Nat} {cs:Array Value} {T:TypeId} (h:Hid (ah w b cs T)):(∀ o,w.cell? ⟨b,o,none⟩=cs[o]?)∧b<w.heap.size:=⟨h.out.cell,h.out.lt⟩
theorem _root_.Go.RowKit.Hid.clf {w:World} {b:Nat} {cs:Array Value} {T:TypeId} (h:Hid (ah w b cs T)):(∀ o,w.cell? ⟨b,o,none⟩=cs[o]?)∧b<w.heap.size∧∀ o,w.frozen? ⟨b,o,none⟩=false:=⟨h.out.cell,h.out.lt,h.out.free⟩
theorem aQ.slice {w:World} {v:Value} {n:Nat} (h:aQ w v n):∃ pa l ca,v= .slice pa l ca:=by
 obtain ⟨a,cap,h1, -⟩:=h;exact ⟨_,_,_,h1⟩
def dB (w:World) (v:Value) (z:Int):Prop:=∃ pa l ca,v= .agg #[.slice pa l ca,.bool (decide (z<0))]∧aQ w (.slice pa l ca) z.natAbs
theorem dB.later {w w':World} {v:Value} {z:Int} (h:dB w v z) (hb:Below w.heap.size w w'):dB w' v z:=by
 obtain ⟨pa,l,ca,h1,h2⟩:=h;exact ⟨pa,l,ca,h1,h2.later hb⟩
theorem dB.mk {w:World} {m:Value} {z:Int} {b:Bool} {n:Nat} (h:aQ w m n) (hn:n=z.natAbs) (hb:b=decide (z<0)):dB w (.agg #[m,.bool b]) z:=by
 obtain ⟨pa,l,ca,rfl⟩:=h.slice;exact ⟨pa,l,ca,by rw [hb],hn ▸ h⟩
def bL (z:Int):Value:=.string ⟨(Lib.itoa z).toArray⟩
def gT (n:Nat) (b:Bool):Int:=if b then -(n:Int) else n
theorem jm (n:Nat) (b:Bool):(gT n b).natAbs=n:=by unfold gT;split<;>omega
theorem Tq (n:Nat) (b:Bool):(b&& !decide (n=0))=decide (gT n b<0):=by
 unfold gT;cases b
 ·simp
 ·simp only [Bool.true_and,if_true];rw [Bool.eq_iff_iff];simp
  omega
theorem dB.dX {w:World} {pa:Option Addr} {l ca:Nat} {z:Int} (h:aQ w (.slice pa l ca) z.natAbs):dB w (.agg #[.slice pa l ca,.bool (decide (z<0))]) z:=⟨pa,l,ca,rfl,h⟩
theorem dB.cast {w:World} {v:Value} {y z:Int} (h:dB w v y) (e:y=z):dB w v z:=e ▸ h
theorem Tp (z:Int):gT z.natAbs (!decide (z<0))= -z:=by
 unfold gT
 by_cases h:z<0
 ·simp [h];omega
 ·simp [h];omega
theorem ah3 (z:Int) (n:Nat):gT (z.natAbs*n) (decide (z<0))=z*n:=by
 unfold gT
 by_cases h:z<0
 ·simp only [h,decide_true,if_true];have:z= -(z.natAbs:Int):=by omega
  rw [this,Int.natAbs_neg,Int.natAbs_natCast,Int.natCast_mul,Int.neg_mul]
 ·simp only [h,decide_false];have:z=(z.natAbs:Int):=by omega
  rw [this,Int.natAbs_natCast,Int.natCast_mul];rfl
end Go.Mem
namespace Go.Proofs
open Go.Shelf
def Tryz.lays169_ren:Go.Shelf.Ren:=⟨fun|169=>272|n=>n,fun|70=>274|9=>9|0=>0|72=>277|37=>275|127=>299|3=>3|5=>5|n=>n,fun|n=>n⟩
theorem Tryz.lays169:Go.Proofs.Lays.n169 Tryz.prog Tryz.lays169_ren:={
 mixed:=by kernel_rfl
 f169:=Tryz.func272.trans (congrArg some zk)
 t0:=Tryz.underlying0
 a0:=Tryz.isAgg0
 z0:=Tryz.sizeOf0
 v0:=Tryz.zeroValue0
 t3:=Tryz.underlying3
 a3:=Tryz.isAgg3
 z3:=Tryz.sizeOf3
 v3:=Tryz.zeroValue3
 t9:=Tryz.underlying9
 a9:=Tryz.isAgg9
 z9:=Tryz.sizeOf9
 v9:=Tryz.zeroValue9
 t37:=Tryz.underlying275
 a37:=Tryz.isAgg275
 z37:=Tryz.sizeOf275
 v37:=Tryz.zeroValue275
 t70:=Tryz.underlying274
 a70:=Tryz.isAgg274
 z70:=Tryz.sizeOf274
 v70:=Tryz.zeroValue274
 t72:=Tryz.underlying277
 a72:=Tryz.isAgg277
 z72:=Tryz.sizeOf277
 v72:=Tryz.zeroValue277
 t127:=Tryz.underlying299
 a127:=Tryz.isAgg299
 z127:=Tryz.sizeOf299
 v127:=Tryz.zeroValue299 }
theorem Tryz.Builder_Extra_169:Builder.Extra Tryz.prog Tryz.lays169_ren:={
 sizeBuilder:=by kernel_rfl
 liesBuilder:=by kernel_rfl
 t5:=Tryz.underlying5
 a5:=Tryz.isAgg5
 z5:=Tryz.sizeOf5
 v5:=Tryz.zeroValue5
 infoByte:=by kernel_rfl
 cellsByte:=by kernel_rfl
 sizeByte:=by kernel_rfl
 neB5:=by decide }
open Go.RowKit in
theorem Tryz.Builder_String_any (B b:Nat) (l:List UInt8) (w:World) (h:Lib.IsBuilder 277 5 B b (Lib.byteCells l) w) (hBw:B≤w.heap.size) :
  Calls Tryz.prog 272 #[.pointer (some ⟨b,0,none⟩)] w fun e w'=>e= .returned (.string ⟨l.toArray⟩)∧Below B w w':=Any.Builder_String_any Tryz.lays169 Tryz.Builder_Extra_169 B b l w h hBw
def Tryz.laysM171_ren:Go.Shelf.Ren:=⟨fun|171=>249|243=>288|246=>324|283=>338|284=>339|285=>340|286=>341|129=>282|317=>347|318=>348|319=>349|320=>350|337=>353|338=>354|n=>n,fun|3=>3|9=>9|2=>2|4=>4|171=>335|0=>0|53=>193|37=>275|5=>5|173=>337|212=>347|51=>61|20=>20|213=>348|46=>240|232=>354|233=>355|n=>n,fun|17=>4|18=>5|19=>6|n=>n⟩
theorem Tryz.laysM171:Go.Proofs.LaysM.n171 Tryz.prog Tryz.laysM171_ren:={
 mixed:=by kernel_rfl
 f129:=Tryz.func282.trans (congrArg some zk)
 f171:=Tryz.func249.trans (congrArg some zk)
 f243:=Tryz.func288.trans (congrArg some zk)
 f246:=Tryz.func324.trans (congrArg some zk)
 f283:=Tryz.func338.trans (congrArg some zk)
 f284:=Tryz.func339.trans (congrArg some zk)
 f285:=Tryz.func340.trans (congrArg some zk)
 f286:=Tryz.func341.trans (congrArg some zk)
 f317:=Tryz.func347.trans (congrArg some zk)
 f318:=Tryz.func348.trans (congrArg some zk)
 f319:=Tryz.func349.trans (congrArg some zk)
 f320:=Tryz.func350.trans (congrArg some zk)
 f337:=Tryz.func353.trans (congrArg some zk)
 f338:=Tryz.func354.trans (congrArg some zk)
 t0:=Tryz.underlying0
 a0:=Tryz.isAgg0
 z0:=Tryz.sizeOf0
 v0:=Tryz.zeroValue0
 t2:=Tryz.underlying2
 a2:=Tryz.isAgg2
 z2:=Tryz.sizeOf2
 v2:=Tryz.zeroValue2
 t3:=Tryz.underlying3
 a3:=Tryz.isAgg3
 z3:=Tryz.sizeOf3
 v3:=Tryz.zeroValue3
 t4:=Tryz.underlying4
 a4:=Tryz.isAgg4
 z4:=Tryz.sizeOf4
 v4:=Tryz.zeroValue4
 t5:=Tryz.underlying5
 a5:=Tryz.isAgg5
 z5:=Tryz.sizeOf5
 v5:=Tryz.zeroValue5
 t9:=Tryz.underlying9
 a9:=Tryz.isAgg9
 z9:=Tryz.sizeOf9
 v9:=Tryz.zeroValue9
 t20:=Tryz.underlying20
 a20:=Tryz.isAgg20
 z20:=Tryz.sizeOf20
 v20:=Tryz.zeroValue20
 t37:=Tryz.underlying275
 a37:=Tryz.isAgg275
 z37:=Tryz.sizeOf275
 v37:=Tryz.zeroValue275
 t46:=Tryz.underlying240
 a46:=Tryz.isAgg240
 z46:=Tryz.sizeOf240
 v46:=Tryz.zeroValue240
 t51:=Tryz.underlying61
 a51:=Tryz.isAgg61
 z51:=Tryz.sizeOf61
 v51:=Tryz.zeroValue61
 t53:=Tryz.underlying193
 a53:=Tryz.isAgg193
 z53:=Tryz.sizeOf193
 v53:=Tryz.zeroValue193
 t171:=Tryz.underlying335
 a171:=Tryz.isAgg335
 z171:=Tryz.sizeOf335
 v171:=Tryz.zeroValue335
 t173:=Tryz.underlying337
 a173:=Tryz.isAgg337
 z173:=Tryz.sizeOf337
 v173:=Tryz.zeroValue337
 t212:=Tryz.underlying347
 a212:=Tryz.isAgg347
 z212:=Tryz.sizeOf347
 v212:=Tryz.zeroValue347
 t213:=Tryz.underlying348
 a213:=Tryz.isAgg348
 z213:=Tryz.sizeOf348
 t232:=Tryz.underlying354
 a232:=Tryz.isAgg354
 z232:=Tryz.sizeOf354
 v232:=Tryz.zeroValue354
 t233:=Tryz.underlying355
 a233:=Tryz.isAgg355
 z233:=Tryz.sizeOf355
 v233:=Tryz.zeroValue355
 g17:=by kernel_rfl
 g18:=by kernel_rfl
 g19:=by kernel_rfl
 i0:=by kernel_rfl
 i2:=by kernel_rfl
 i3:=by kernel_rfl
 i4:=by kernel_rfl
 i5:=by kernel_rfl
 i9:=by kernel_rfl
 i20:=by kernel_rfl
 i37:=by kernel_rfl
 i46:=by kernel_rfl
 i51:=by kernel_rfl
 i53:=by kernel_rfl
 i171:=by kernel_rfl
 i173:=by kernel_rfl
 i212:=by kernel_rfl
 i232:=by kernel_rfl
 i233:=by kernel_rfl
 m17:=by kernel_rfl
 m18:=by kernel_rfl
 m19:=by kernel_rfl }
open Go.RowKit Go.Sort Go.Lib in
theorem Tryz.strconv_Itoa (n : Int) (h0 : -9223372036854775808 ≤ n) (h1 : n ≤ 9223372036854775807) (w : World) (htab : Lib.TabIs Tryz.prog w "internal/strconv.uint64pow10" .u64 Lib.pow10Tab) :
  Calls Tryz.prog 249 #[.int .i64 n] w fun e w'=>e= .returned (.string ⟨(Lib.itoa n).toArray⟩)∧∃ k os,w'=grow (w.drewN k) os:=Any.strconv_Itoa Tryz.laysM171 n h0 h1 w htab
end Go.Proofs
namespace Go.Proofs.iR
open Go Go.RowKit Go.SW Go.Num Go.Mem Go.Proofs
def Pow (w : World) : Prop := Lib.TabIs Tryz.prog w "internal/strconv.uint64pow10" .u64 Lib.pow10Tab
theorem Pow.later {w w':World} (h:Pow w) (hb:Below w.heap.size w w'):Pow w':=Lib.tabBelow_of_tabIs h w' hb
theorem below_grow (w:World) (k:Nat) (os:Array Obj):Below w.heap.size w (Go.Sort.grow (w.drewN k) os):=by
 unfold Go.Sort.grow;refine ⟨rfl,rfl,rfl,?_,fun i hi=>?_⟩
 ·simp
 ·simp only [World.drewN];rw [Array.getElem?_append_left hi]
theorem infoByte:(Tryz.prog.info? 5).map (fun i=>(i.zero,i.size,i.bytes))=some (some (.int .u8 0),1,1):=by kernel_rfl
theorem Ul:(Tryz.prog.info? 277).map (·.size)=some 2:=by kernel_rfl
abbrev XD (B b:Nat) (bs:List Value) (w:World):Prop:=Lib.IsBuilder 277 5 B b bs w
abbrev AtB (B b:Nat) (bs:List Value) (w:World):Prop:=Lib.BuilderAt 277 5 B b (.pointer (some ⟨b,0,none⟩)) bs w
theorem Ia {w w':World} (h:Below w.heap.size w w'):w.grownBy w' none:=⟨h.os,h.tape,h.output,h.size,fun i hi _=>h.block i hi⟩
theorem Jh {p:Value} {B b:Nat} {bs:List Value} {w w':World} (h:Lib.BuilderAt 277 5 B b p bs w) (hb:Below w.heap.size w w'):Lib.BuilderAt 277 5 B b p bs w':=by
 have hl:=h.lt;obtain ⟨hB,v,hbk,hown,hne⟩:=h;refine ⟨hB,v,(hb.block _ hl).trans hbk,hown.kept (Ia hb) ?_,hne⟩;cases h:v.ownBlock with
 | none=>exact .inl rfl
 | some k=>exact .inr zi
theorem XD.later {B b:Nat} {bs:List Value} {w w':World} (h:XD B b bs w) (hb:Below w.heap.size w w'):XD B b bs w':=by
 rcases h with h|h
 ·exact .inl (Jh h hb)
 ·exact .inr (Jh h hb)
theorem Zy (n:Nat):Lib.itoa (n:Int)=Lib.decDigits n:=by
 unfold Lib.itoa;rw [if_neg zo,Int.toNat_natCast]
theorem Uj (n:Nat) (h:n<1000000000) (w:World) (ht:Pow w) :
  Calls Tryz.prog 249 #[.int .i64 n] w fun e w'=>e= .returned (.string ⟨(Lib.decDigits n).toArray⟩)∧Below w.heap.size w w':=by
 refine (Tryz.strconv_Itoa n zo zo w ht).mono ?_;rintro e w' ⟨rfl,k,os,rfl⟩;rw [Zy];exact ⟨rfl,below_grow _ _ _⟩
theorem FY (b:Nat) (w:World) (h0:w.cell? ⟨b,0,none⟩=some (.pointer (some ⟨b,0,none⟩))) :
  Calls Tryz.prog 303 #[.pointer (some ⟨b,0,none⟩)] w fun e w'=>e= .returned (.tuple #[])∧w'=w:=by
 obtain ⟨j,hj,_⟩:=Option.map_eq_some_iff.1 Ul;go_enter Tryz.func303,Tryz.ntmps303
 go_wp2
 rw [Lib.run_neq_ptr_same w _ Tryz.underlying274 hj]
 go_wp2
 go_end0
 exact ⟨rfl,rfl⟩
theorem BJ (b:Nat) (w:World) (h0:w.cell? ⟨b,0,none⟩=some (.pointer none)) (hsh:w.shape? b=some (277,2)) (hfz:w.frozen? ⟨b,0,none⟩=false) :
  Calls Tryz.prog 303 #[.pointer (some ⟨b,0,none⟩)] w fun e w'=>e= .returned (.tuple #[])∧w'=w.setCell ⟨b,0,none⟩ (.pointer (some ⟨b,0,none⟩)):=by
 obtain ⟨j,hj,hjs⟩:=Option.map_eq_some_iff.1 Ul;go_enter Tryz.func303,Tryz.ntmps303
 go_wp2
 rw [Lib.run_to_unsafe w ⟨b,0,none⟩ Tryz.underlying274 Tryz.underlying324 hj (by rw [hjs];decide) hsh (Nat.zero_lt_succ 1)];simp only [Result.andThen];rw [Oper.upon_value]
 go_wp2
 rw [run_callFunc_extern Tryz.func329 zk zk zk (e:=Extern.AbiNoEscape.same) zk];rw [Lib.run_noEscape];simp only [Result.andThen];rw [Oper.upon_value]
 go_wp2
 rw [Lib.run_from_unsafe w ⟨b,0,none⟩ Tryz.underlying324 Tryz.underlying274 hj hsh zk];simp only [Result.andThen];rw [Oper.upon_value]
 go_wp2
 go_end0
 exact ⟨rfl,rfl⟩
theorem yY (B b:Nat) (bs:List Value) (w:World) (h:XD B b bs w) :
  Calls Tryz.prog 303 #[.pointer (some ⟨b,0,none⟩)] w fun e w'=>e= .returned (.tuple #[])∧(AtB B b bs w'∧Below B w w'):=by
 rcases h with h|h
 ·refine (BJ b w h.cell0 h.shape h.frozen0).mono ?_;rintro e w' ⟨rfl,rfl⟩;exact ⟨rfl,h.used _,(Below.refl B w).setCell (p:=⟨b,0,none⟩) h.1 _⟩
 ·refine (FY b w h.cell0).mono ?_;rintro e w' ⟨rfl,rfl⟩;exact ⟨rfl,h,Below.refl B _⟩
theorem Jr (B b:Nat) (bs:List Value) (c:Int) (w:World) (h:XD B b bs w) (hlen:bs.length+1≤140737488355328) (hBw:B≤w.heap.size) :
  Calls Tryz.prog 270 #[.pointer (some ⟨b,0,none⟩),.int .u8 c] w fun e w'=>e= .returned .nilIface∧(AtB B b (bs++[.int .u8 c]) w'∧Below B w w'):=by
 obtain ⟨i0,hi,hz0,hz1,hz2⟩:=info_parts infoByte;go_enter Tryz.func270,Tryz.ntmps270
 go_wp2_with (go_at_call 303;refine (yY B b bs _ h).mono ?_;rintro e w1 ⟨rfl,h1,hb1⟩;refine Hid.out ?_)
 obtain ⟨hB,v,hbk,hown,hne⟩:=h1;have c0:w1.cell? ⟨b,0,none⟩=some (.pointer (some ⟨b,0,none⟩)):=by rw [Lib.cell_of_heap hbk];rfl
 have c1:w1.cell? ⟨b,1,none⟩=some v:=by rw [Lib.cell_of_heap hbk];rfl
 refine zh ?_;go_wp2_with (at_builtin;refine wpList_append_own _ rfl _ _ 275 rfl B 5 i0 (.int .u8 0) 1 1 Tryz.underlying275 hi hz0 hz1 hz2 rfl zd _ _ _ rfl (hown.alloc _) ⟨w1.heap.size,0,none⟩ 1 1 [.int .u8 c] rfl rfl ?c1 ?c2 ?c3 ?c4 ?c5 ?_)
 case c1 =>
  intro j u hj
  match j,hj with
  | 0,hj=>simp at hj;subst hj;simp [Addr.add]
 case c2=>intro u hu;simp at hu;subst hu;rfl
 case c3=>unfold maxLen;omega
 case c4=>omega
 case c5=>have:=hb1.size;simp;omega
 intro v' w2 hown' hgrow _
 have hlt:b<w1.heap.size:=by
  rcases Nat.lt_or_ge b w1.heap.size with h'|h'
  ·exact h'
  ·simp [Array.getElem?_eq_none h'] at hbk
 have hb2:w2.heap[b]? =some (.cells #[.pointer (some ⟨b,0,none⟩),v] 277 (0,0)):=by
  rw [hgrow.block b (by simp;omega) (fun e=>hne e.symm),Lib.alloc_old w1 _ b hlt];exact hbk
 have d0:w2.cell? ⟨b,0,none⟩=some (.pointer (some ⟨b,0,none⟩)):=by rw [Lib.cell_of_heap hb2];rfl
 have d1:w2.cell? ⟨b,1,none⟩=some v:=by rw [Lib.cell_of_heap hb2];rfl
 have f1:w2.frozen? ⟨b,1,none⟩=false:=Lib.frozen_of_heap hb2 1
 obtain ⟨g,cap,rfl⟩:∃ g cap,v'= .slice (some ⟨g,0,none⟩) (bs.length+1) cap:=by
  rcases hown'.2 with ⟨_,h0⟩|⟨g,cap,cur,hv,_⟩
  ·omega
  ·exact ⟨g,cap,hv⟩
 go_wp2
 go_ret
 refine ⟨rfl,?_,?_⟩
 ·exact Lib.BuilderAt.put (T:=277) (e:=5) hB hb2 (bs':=bs++[.int .u8 c]) (by simpa using hown') zd
 ·exact ((hb1.alloc (by have:=hb1.size;omega) _).grown hgrow (by have:=hb1.size;simp;omega) (fun k hk=>(hown.lt k hk).1)).setCell (p:=⟨b,1,none⟩) hB _
theorem Co (B b:Nat) (bs:List Value) (s:ByteArray) (w:World) (h:XD B b bs w) (hlen:bs.length+s.size≤140737488355328) (hBw:B≤w.heap.size) :
  Calls Tryz.prog 271 #[.pointer (some ⟨b,0,none⟩),.string s] w fun e w'=>e= .returned (.tuple #[.int .i64 s.size,.nilIface])∧(AtB B b (bs++Lib.strCells s) w'∧Below B w w'):=by
 obtain ⟨i0,hi,hz0,hz1,hz2⟩:=info_parts infoByte;go_enter Tryz.func271,Tryz.ntmps271
 go_wp2_with (go_at_call 303;refine (yY B b bs _ h).mono ?_;rintro e w1 ⟨rfl,h1,hb1⟩;refine Hid.out ?_)
 obtain ⟨hB,v,hbk,hown,hne⟩:=h1;have c0:w1.cell? ⟨b,0,none⟩=some (.pointer (some ⟨b,0,none⟩)):=by rw [Lib.cell_of_heap hbk];rfl
 have c1:w1.cell? ⟨b,1,none⟩=some v:=by rw [Lib.cell_of_heap hbk];rfl
 refine zh ?_;go_wp2_with (at_builtin;refine Lib.wpList_append_own_string _ rfl _ _ 275 9 rfl B 5 i0 Tryz.underlying275 Tryz.underlying9 hi hz0 hz1 hz2 _ _ _ rfl hown s rfl ?c3 ?c4 ?c5 ?_)
 case c3=>unfold maxLen;omega
 case c4=>omega
 case c5=>have:=hb1.size;omega
 intro v' w2 hown' hgrow _
 have hlt:b<w1.heap.size:=by
  rcases Nat.lt_or_ge b w1.heap.size with h'|h'
  ·exact h'
  ·simp [Array.getElem?_eq_none h'] at hbk
 have hb2:w2.heap[b]? =some (.cells #[.pointer (some ⟨b,0,none⟩),v] 277 (0,0)):=by
  rw [hgrow.block b hlt (fun e=>hne e.symm)];exact hbk
 have d0:w2.cell? ⟨b,0,none⟩=some (.pointer (some ⟨b,0,none⟩)):=by rw [Lib.cell_of_heap hb2];rfl
 have d1:w2.cell? ⟨b,1,none⟩=some v:=by rw [Lib.cell_of_heap hb2];rfl
 have f1:w2.frozen? ⟨b,1,none⟩=false:=Lib.frozen_of_heap hb2 1
 obtain ⟨ao,n',cap,rfl⟩:∃ ao n' cap,v'= .slice ao n' cap:=by
  rcases hown'.2 with ⟨hv,_⟩|⟨g,cap,cur,hv,_⟩
  ·exact ⟨_,_,_,hv⟩
  ·exact ⟨_,_,_,hv⟩
 go_wp2
 go_ret2
 refine ⟨rfl,?_,?_⟩
 ·exact Lib.BuilderAt.put (T:=277) (e:=5) hB hb2 (bs':=bs++Lib.strCells s) (by simpa [Lib.strCells_length] using hown') zd
 ·exact (hb1.grown hgrow (by have:=hb1.size;omega) (fun k hk=>(hown.lt k hk).1)).setCell (p:=⟨b,1,none⟩) hB _
end Go.Proofs.iR
namespace Go.Mem
open Go Go.RowKit Go.SW Go.Num Go.Dec
def Ck (w:World) (b:Nat) (T:TypeId):Prop:=∃ cs,ah w b cs T
theorem ah.isT {w:World} {b:Nat} {cs:Array Value} {T:TypeId} (h:ah w b cs T):Ck w b T:=⟨cs,h⟩
theorem Ck.setCell {w:World} {b:Nat} {T:TypeId} {a:Addr} {u:Value} (h:Ck w b T):Ck (w.setCell a u) b T:=by
 obtain ⟨cs,h⟩:=h;obtain ⟨c,o,sp⟩:=a
 by_cases hb:b=c
 ·subst hb;have hl:=h.lt;unfold ah at h;have e:w.heap[b]= .cells cs T (0,0):=by simpa [hl] using h
  cases sp with
  | none =>
   refine ⟨cs.setIfInBounds o u,?_⟩;unfold ah;simp [World.setCell,hl,Array.getElem_modify,e]
  | some s =>
   refine ⟨cs,?_⟩;unfold ah;simp [World.setCell,hl,Array.getElem_modify,e]
 ·exact ⟨cs,h.setOther u hb⟩
theorem Ck.later {w w':World} {b:Nat} {T:TypeId} (h:Ck w b T) (hb:Below w.heap.size w w'):Ck w' b T:=by
 obtain ⟨cs,h⟩:=h;exact ⟨cs,h.later hb⟩
theorem Ck.alloc {w:World} {b:Nat} {T:TypeId} {o:Obj} (h:Ck w b T):Ck (w.alloc o) b T:=h.later ((Below.refl _ _).alloc (Nat.le_refl _) _)
theorem Ck.drew {w:World} {b:Nat} {T:TypeId} (h:Ck w b T):Ck w.drew b T:=h.later (Below.drew (Below.refl _ _))
theorem Ck.new (w:World) (cs:Array Value) (T:TypeId):Ck (w.alloc (.cells cs T (0,0))) w.heap.size T:=⟨cs,ah.new _ _ _⟩
theorem aQ.au9 {w:World} {v:Value} {n:Nat} {b o:Nat} {T':TypeId} {u:Value} (h:aQ w v n) (hx:Ck w b T') (hT:61≠T'):aQ (w.setCell ⟨b,o,none⟩ u) v n:=by
 obtain ⟨cs,hx⟩:=hx;exact h.setOther hx hT o u
theorem Tt {z y:Int} {b:Bool} (h:decide (z<0)=b) (k:decide (y<0)=b):gT (z.natAbs+y.natAbs) b=z+y:=by
 unfold gT;cases b
 ·simp at h k ⊢;omega
 ·simp at h k ⊢;omega
theorem Tn {z y:Int} {b:Bool} (h:decide (z<0)=b) (k:decide (y<0)= !b):gT (z.natAbs - y.natAbs) b=if y.natAbs≤z.natAbs then z+y else gT (z.natAbs - y.natAbs) b:=by
 split
 ·unfold gT;cases b
  ·simp at h k ⊢;omega
  ·simp at h k ⊢;omega
 ·rfl
theorem yx (z y:Int):gT (z.natAbs*y.natAbs) (decide (z<0) != decide (y<0))=z*y:=by
 unfold gT
 by_cases h:z<0<;>by_cases k:y<0
 ·simp only [h,k,decide_true,decide_false,bne_self_eq_false,Bool.true_bne,Bool.false_bne,Bool.not_false,Bool.not_true,if_true,if_false];obtain ⟨a,rfl⟩:∃ a:Nat,z= -(a:Int):=⟨z.natAbs,by omega⟩;obtain ⟨b,rfl⟩:∃ b:Nat,y= -(b:Int):=⟨y.natAbs,by omega⟩;simp
  try grind
 ·simp only [h,k,decide_true,decide_false,bne_self_eq_false,Bool.true_bne,Bool.false_bne,Bool.not_false,Bool.not_true,if_true,if_false];obtain ⟨a,rfl⟩:∃ a:Nat,z= -(a:Int):=⟨z.natAbs,by omega⟩;obtain ⟨b,rfl⟩:∃ b:Nat,y=(b:Int):=⟨y.natAbs,by omega⟩;simp
  try grind
 ·simp only [h,k,decide_true,decide_false,bne_self_eq_false,Bool.true_bne,Bool.false_bne,Bool.not_false,Bool.not_true,if_true,if_false];obtain ⟨a,rfl⟩:∃ a:Nat,z=(a:Int):=⟨z.natAbs,by omega⟩;obtain ⟨b,rfl⟩:∃ b:Nat,y= -(b:Int):=⟨y.natAbs,by omega⟩;simp
  try grind
 ·simp only [h,k,decide_true,decide_false,bne_self_eq_false,Bool.true_bne,Bool.false_bne,Bool.not_false,Bool.not_true,if_true,if_false];obtain ⟨a,rfl⟩:∃ a:Nat,z=(a:Int):=⟨z.natAbs,by omega⟩;obtain ⟨b,rfl⟩:∃ b:Nat,y=(b:Int):=⟨y.natAbs,by omega⟩;simp
theorem Mf {z y:Int} (h:y ∣ z):gT (z.natAbs / y.natAbs) (decide (z<0) != decide (y<0))=z / y:=by
 obtain ⟨c,rfl⟩:=h
 rcases Int.lt_trichotomy y 0 with hy|hy|hy
 ·rw [Int.natAbs_mul,Nat.mul_div_cancel_left _ zo,Int.mul_ediv_cancel_left _ zo];unfold gT
  rcases Int.lt_trichotomy c 0 with hc|hc|hc
  ·have:¬ y*c<0:=by have:=Int.mul_pos_of_neg_of_neg hy hc;omega
   simp [this,hy];omega
  ·subst hc;simp
  ·have:y*c<0:=Int.mul_neg_of_neg_of_pos hy hc;simp [this,hy];omega
 ·subst hy;simp [gT]
 ·rw [Int.natAbs_mul,Nat.mul_div_cancel_left _ zo,Int.mul_ediv_cancel_left _ zo];unfold gT;have hy2:¬ y<0:=by omega
  rcases Int.lt_trichotomy c 0 with hc|hc|hc
  ·have:y*c<0:=Int.mul_neg_of_pos_of_neg hy hc;simp [this,hy2];omega
  ·subst hc;simp
  ·have:¬ y*c<0:=by have:=Int.mul_pos hy hc;omega
   simp [this,hy2];omega
theorem dB.flag {w:World} {pa:Option Addr} {l ca:Nat} {y z:Int} {b:Bool} (h:aQ w (.slice pa l ca) y.natAbs) (e:y=z) (hb:b=decide (y<0)):dB w (.agg #[.slice pa l ca,.bool b]) z:=by
 subst e hb;exact ⟨pa,l,ca,rfl,h⟩
theorem aI {w:World} {v:Value} {n:Nat} (h:aQ w v n:=by repeat (first|(with_reducible exact Hid.out (by with_reducible assumption))|((with_reducible apply aQ.au9);rotate_left;(focus (repeat (first|(with_reducible exact ah.isT (by with_reducible assumption))|(with_reducible apply Ck.setCell)|(with_reducible exact Ck.new _ _ _)|(with_reducible apply Ck.alloc)|(with_reducible apply Ck.drew)|((with_reducible refine Ck.later (w:=?_) ?_ ?_);rotate_right;with_reducible assumption))));(focus decide))|(with_reducible apply aQ.alloc)|(with_reducible apply aQ.drew)|((with_reducible refine aQ.later (w:=?_) ?_ ?_);rotate_right;with_reducible assumption))):aQ w v n:=h
end Go.Mem
namespace Go.fF
open Go Go.Num Go.Dec Lib
theorem Jj (p q:Rat):let g:=p.den.gcd q.den
  let top:=p.num*((q.den / g:Nat):Int)+q.num*((p.den / g:Nat):Int)
  let h:=top.natAbs.gcd g
  (p+q).num=top / h∧(p+q).den=p.den / g*(q.den / h):=by
 intro g top h;have e:p+q=Rat.add p q:=rfl;rw [e];unfold Rat.add;simp only;have hgd:g ∣ q.den:=Nat.gcd_dvd_right _ _;have hhg:h ∣ g:=Nat.gcd_dvd_right _ _;have hh:(p.den / g*q.den) / h=p.den / g*(q.den / h):=Nat.mul_div_assoc _ (Nat.dvd_trans hhg hgd);split
 ·rename_i hg;have hg':g=1:=hg;have h1:h=1:=Nat.dvd_one.1 (hg' ▸ hhg);simp only [hg',h1,Nat.div_one,top,Int.natCast_one,Int.ediv_one,and_self]
 ·rw [Rat.maybeNormalize_eq];simp only;exact ⟨rfl,hh⟩
theorem IU (p q:Rat):let g:=p.num.natAbs.gcd q.den
  let h:=q.num.natAbs.gcd p.den
  (p*q).num=(p.num / g)*(q.num / h)∧(p*q).den=(p.den / h)*(q.den / g):=by
 intro g h;have e:p*q=Rat.mul p q:=rfl;rw [e];unfold Rat.mul;simp only [Int.divExact_eq_ediv,Nat.divExact_eq_div];exact ⟨rfl,rfl⟩
structure Fr where
 n:ByteArray
 d:ByteArray
deriving DecidableEq
def Fr.v (a:Fr):Value:=.agg #[.string a.n,.string a.d]
def Fr.of (q:Rat):Fr:=⟨⟨(Lib.itoa q.num).toArray⟩,⟨(Lib.itoa q.den).toArray⟩⟩
def Fr.no:Fr:=⟨⟨#[]⟩,⟨#[]⟩⟩
def ig (k:Nat):Nat:=10^k
def jd (n:Nat):Bool:=decide (n<ig 600)
def vL (q:Rat):Bool:=jd q.num.natAbs&&jd q.den
theorem Vr {n k:Nat} (hk:0<k):n<ig k↔(decDigits n).length≤k :=
 ⟨fun h=>ko k n hk h,fun h=>Nat.lt_of_lt_of_le (Fy n) (Nat.pow_le_pow_right zo h)⟩
theorem dI {n:Nat}:jd n=true↔(decDigits n).length≤600:=by
 unfold jd;rw [decide_eq_true_iff];exact Vr zo
def rd (a:Fr):Option Rat :=
 match whole a.n.data.toList,whole a.d.data.toList with
 | some n,some d=>if h:0<d∧n.natAbs.Coprime d.natAbs then some ⟨n,d.natAbs,by omega,h.2⟩ else none
 | _,_=>none
theorem Gg {a b:ByteArray} (h:a.data.toList=b.data.toList):a=b:=by
 cases a;cases b
 simp only [ByteArray.mk.injEq];exact Array.toList_inj.1 h
theorem Tw {q:Rat} (h:vL q=true):rd (Fr.of q)=some q:=by
 unfold vL at h;rw [Bool.and_eq_true,dI,dI] at h;have e1:whole (Fr.of q).n.data.toList=some q.num:=dO h.1;have h2:(decDigits ((q.den:Nat):Int).natAbs).length≤600:=(Int.natAbs_natCast q.den).symm ▸ h.2;have e2:whole (Fr.of q).d.data.toList=some ((q.den:Nat):Int):=dO (z:=((q.den:Nat):Int)) h2;unfold rd;rw [e1,e2];have hd:=q.den_pos;simp only [Int.natAbs_natCast];rw [dif_pos ⟨by omega,q.reduced⟩]
theorem mX {a:Fr} {q:Rat} (h:rd a=some q):a=Fr.of q∧vL q=true:=by
 unfold rd at h;split at h
 ·rename_i n d e1 e2;split at h
  ·rename_i hk;simp only [Option.some.injEq] at h;subst h;obtain ⟨h1,h2⟩:=mD e1;obtain ⟨h3,h4⟩:=mD e2;refine ⟨?_,?_⟩
   ·cases a
    unfold Fr.of;simp only [Fr.mk.injEq] at *;refine ⟨Gg h1,Gg ?_⟩;rw [h3,show ((d.natAbs:Nat):Int)=d by omega]
   ·unfold vL;rw [Bool.and_eq_true,dI,dI];exact ⟨h2,h4⟩
  ·cases h
 ·cases h
theorem WC {q:Rat} (h:q≠0):q⁻¹.num=Mem.gT q.den (decide (q.num<0))∧q⁻¹.den=q.num.natAbs:=by
 have hn:q.num≠0:=fun e=>h (Rat.num_eq_zero.1 e);rw [Rat.num_inv,Rat.den_inv,if_neg hn];refine ⟨?_,rfl⟩;unfold Mem.gT
 rcases Int.lt_trichotomy q.num 0 with h1|h1|h1
 ·rw [Int.sign_eq_neg_one_of_neg h1];simp [h1]
 ·exact absurd h1 hn
 ·rw [Int.sign_eq_one_of_pos h1];have:¬ q.num<0:=by omega
  simp [this]
theorem CZ {n:Int} {g:Nat} (h:g ∣ n.natAbs):Mem.gT (n.natAbs / g) (decide (n<0))=n / (g:Int):=by
 have h2:((g:Nat):Int) ∣ n:=by rwa [← Int.dvd_natAbs,Int.ofNat_dvd]
 have:=Mem.Mf h2;rw [Int.natAbs_natCast,decide_eq_false (show ¬ ((g:Nat):Int)<0 by omega),Bool.bne_false] at this;exact this
theorem Rs (p q:Rat):(p+q).num=Mem.gT ((p.num*((q.den / p.den.gcd q.den:Nat):Int)+q.num*((p.den / p.den.gcd q.den:Nat):Int)).natAbs / (p.num*((q.den / p.den.gcd q.den:Nat):Int)+q.num*((p.den / p.den.gcd q.den:Nat):Int)).natAbs.gcd (p.den.gcd q.den)) (decide ((p.num*((q.den / p.den.gcd q.den:Nat):Int)+q.num*((p.den / p.den.gcd q.den:Nat):Int))<0))∧(p+q).den=p.den / p.den.gcd q.den*(q.den / (p.num*((q.den / p.den.gcd q.den:Nat):Int)+q.num*((p.den / p.den.gcd q.den:Nat):Int)).natAbs.gcd (p.den.gcd q.den)):=by
 obtain ⟨h1,h2⟩:=Jj p q;refine ⟨?_,h2⟩;rw [h1];exact (CZ (Nat.gcd_dvd_left _ _)).symm
theorem Qr (p q:Rat):(p*q).num=Mem.gT (p.num.natAbs / p.num.natAbs.gcd q.den*(q.num.natAbs / q.num.natAbs.gcd p.den)) (decide (p.num<0) != decide (q.num<0))∧(p*q).den=p.den / q.num.natAbs.gcd p.den*(q.den / p.num.natAbs.gcd q.den):=by
 obtain ⟨h1,h2⟩:=IU p q;refine ⟨?_,h2⟩;rw [h1];have d1:((p.num.natAbs.gcd q.den:Nat):Int) ∣ p.num:=by rw [← Int.dvd_natAbs,Int.ofNat_dvd];exact Nat.gcd_dvd_left _ _
 have d2:((q.num.natAbs.gcd p.den:Nat):Int) ∣ q.num:=by rw [← Int.dvd_natAbs,Int.ofNat_dvd];exact Nat.gcd_dvd_left _ _
 have hg:0<p.num.natAbs.gcd q.den:=Nat.gcd_pos_of_pos_right _ q.den_pos;have hh:0<q.num.natAbs.gcd p.den:=Nat.gcd_pos_of_pos_right _ p.den_pos
 have key:∀ (z:Int) (g:Nat),0<g→((g:Nat):Int) ∣ z→(z / (g:Int)).natAbs=z.natAbs / g∧(z≠0→decide (z / (g:Int)<0)=decide (z<0)):=fun z g hg hd=>by
  obtain ⟨c,rfl⟩:=hd;rw [Int.mul_ediv_cancel_left _ zo,Int.natAbs_mul,Int.natAbs_natCast,Nat.mul_div_cancel_left _ hg];refine ⟨rfl,fun _=>?_⟩;rw [Bool.eq_iff_iff,decide_eq_true_iff,decide_eq_true_iff]
  constructor
  ·exact fun h=>Int.mul_neg_of_pos_of_neg zo h
  ·intro h
   rcases Int.lt_trichotomy c 0 with h1|h1|h1
   ·exact h1
   ·subst h1;simp at h
   ·have:=Int.mul_pos (show (0:Int)<(g:Int) by omega) h1;omega
 obtain ⟨a1,a2⟩:=key p.num _ hg d1;obtain ⟨b1,b2⟩:=key q.num _ hh d2;rw [← Mem.yx (p.num / ((p.num.natAbs.gcd q.den:Nat):Int)),a1,b1]
 by_cases hp:p.num=0
 ·simp [hp,Mem.gT]
 ·by_cases hq:q.num=0
  ·simp [hq,Mem.gT]
  ·rw [a2 hp,b2 hq]
theorem Qq (p q:Rat):(p*q).num=Mem.gT (p.num.natAbs / p.num.natAbs.gcd q.den*(q.num.natAbs / q.num.natAbs.gcd p.den)) (!(decide (p.num<0) == decide (q.num<0)))∧(p*q).den=p.den / q.num.natAbs.gcd p.den*(q.den / p.num.natAbs.gcd q.den):=Qr p q
theorem uJ (n:Int) {d:Nat} (hd:0<d):(mkRat n d).num=Mem.gT (n.natAbs / n.natAbs.gcd d) (decide (n<0))∧(mkRat n d).den=d / n.natAbs.gcd d:=by
 rw [Rat.num_mkRat,Rat.den_mkRat,if_neg zo,if_neg zo,Nat.gcd_comm d];exact ⟨(CZ (Nat.gcd_dvd_left _ _)).symm,rfl⟩
theorem Qi {n:Nat} (h:600<(decDigits n).length):jd n=false:=by
 cases hk:jd n with
 | false=>rfl
 | true=>have:=dI.1 hk;omega
def wr (q:Rat):Fr × Int:=if vL q then (Fr.of q,0) else (Fr.no,6)
def Fr.res (x:Fr × Int):Value:=.tuple #[x.1.v,.int .i64 x.2]
theorem Js {q:Rat} (h:vL q=false):Fr.res (wr q)= .tuple #[.agg #[.string ⟨#[]⟩,.string ⟨#[]⟩],.int .i64 6]:=by unfold wr;rw [if_neg (by simp [h])];rfl
theorem aq9 {q:Rat} (h:vL q=true):Fr.res (wr q)= .tuple #[.agg #[Mem.bL q.num,Mem.bL q.den],.int .i64 0]:=by unfold wr;rw [if_pos h];rfl
def pJ (p q:Rat):Int:=if p<q then -1 else if q<p then 1 else 0
def uj (z:Int):Int:=if z=0 then 0 else if z<0 then -1 else 1
theorem yw (p q:Rat):uj (p.num*(q.den:Int)+ -(q.num*(p.den:Int)))=pJ p q:=by
 unfold uj pJ
 by_cases h1:p<q
 ·rw [if_pos h1];have:=(Rat.lt_iff p q).1 h1;rw [if_neg zo,if_pos zo]
 ·rw [if_neg h1];rw [Rat.lt_iff] at h1
  by_cases h2:q<p
  ·rw [if_pos h2];have:=(Rat.lt_iff q p).1 h2;rw [if_neg zo,if_neg zo]
  ·rw [if_neg h2];rw [Rat.lt_iff] at h2;rw [if_pos zo]
theorem Vy (q:Rat):uj q.num=pJ q 0:=by
 have:=yw q 0
 simpa using this
def dZ (w:World) (v:Value) (q:Rat):Prop:=∃ pa l ca pb m cb,v= .agg #[.slice pa l ca,.bool (decide (q.num<0)),.slice pb m cb]∧Mem.aQ w (.slice pa l ca) q.num.natAbs∧Mem.aQ w (.slice pb m cb) q.den
open RowKit Mem in
theorem dZ.later {w w':World} {v:Value} {q:Rat} (h:dZ w v q) (hb:Below w.heap.size w w'):dZ w' v q:=by
 obtain ⟨pa,l,ca,pb,m,cb,h1,h2,h3⟩:=h;exact ⟨pa,l,ca,pb,m,cb,h1,h2.later hb,h3.later hb⟩
open Mem in
theorem dZ.mk (n d:Nat) {w:World} {pa pb:Option Addr} {l ca m cb:Nat} {b:Bool} {q:Rat} (h:aQ w (.slice pa l ca) n) (k:aQ w (.slice pb m cb) d) (hn:n=q.num.natAbs) (hd:d=q.den) (hb:b=decide (q.num<0)):dZ w (.agg #[.slice pa l ca,.bool b,.slice pb m cb]) q:=by
 subst hn hd hb;exact ⟨pa,l,ca,pb,m,cb,rfl,h,k⟩
open RowKit Mem in
theorem _root_.Go.Mem.aQ.carry {w0 w w':World} {v:Value} {n:Nat} (_:aQ w0 v n) (k:aQ w v n) (hb:Below w.heap.size w w'):aQ w' v n:=k.later hb
theorem dZ.of {w:World} {pa pb:Option Addr} {l ca m cb:Nat} {q:Rat} (h:Mem.aQ w (.slice pa l ca) q.num.natAbs) (k:Mem.aQ w (.slice pb m cb) q.den):dZ w (.agg #[.slice pa l ca,.bool (decide (q.num<0)),.slice pb m cb]) q:=⟨pa,l,ca,pb,m,cb,rfl,h,k⟩
def gZ (k:Nat) (q:Rat):Prop:=sz 1000000000 q.num.natAbs≤k∧sz 1000000000 q.den≤k
theorem aC1:ig 600≤1000000000^67:=by decide+kernel
theorem jw {n:Nat} (h:jd n=true):sz 1000000000 n≤67:=by
 unfold jd at h;rw [decide_eq_true_iff] at h;exact aR zo 67 n (Nat.lt_of_lt_of_le h aC1)
theorem jr {q:Rat} (h:vL q=true):gZ 67 q:=by
 unfold vL at h;rw [Bool.and_eq_true] at h;exact ⟨jw h.1,jw h.2⟩
theorem gZ.mono {k m:Nat} {q:Rat} (h:gZ k q) (hk:k≤m):gZ m q:=⟨Nat.le_trans h.1 hk,Nat.le_trans h.2 hk⟩
theorem jl {a b:Nat}:sz 1000000000 (a / b)≤sz 1000000000 a:=dh zo (Nat.div_le_self a b)
theorem JE {a b:Nat} (hb:0<b):sz 1000000000 (a.gcd b)≤sz 1000000000 b:=dh zo (Nat.le_of_dvd hb (Nat.gcd_dvd_right _ _))
theorem oh (z:Int) (n:Nat):sz 1000000000 (z*n).natAbs≤sz 1000000000 z.natAbs+sz 1000000000 n:=by
 rw [Int.natAbs_mul,Int.natAbs_natCast];exact jL zo _ _
theorem Py (z y:Int):sz 1000000000 (z*y).natAbs≤sz 1000000000 z.natAbs+sz 1000000000 y.natAbs:=by
 rw [Int.natAbs_mul];exact jL zo _ _
theorem Iy (z y:Int):sz 1000000000 (z+y).natAbs≤max (sz 1000000000 z.natAbs) (sz 1000000000 y.natAbs)+1 :=
 Nat.le_trans (dh zo (Int.natAbs_add_le z y)) (wV zo _ _)
theorem vJ {k:Nat} {p q:Rat} (h:gZ k p) (i:gZ k q):gZ (2*k+1) (p+q):=by
 obtain ⟨h1,h2⟩:=Jj p q;have hp:=p.den_pos;have hq:=q.den_pos;have a1:=oh p.num (q.den / p.den.gcd q.den);have a2:=oh q.num (p.den / p.den.gcd q.den);have a3:=Iy (p.num*((q.den / p.den.gcd q.den:Nat):Int)) (q.num*((p.den / p.den.gcd q.den:Nat):Int));have b1:= @jl q.den (p.den.gcd q.den);have b2:= @jl p.den (p.den.gcd q.den);obtain ⟨i1,i2⟩:=i;obtain ⟨j1,j2⟩:=h
 constructor
 ·rw [h1,Int.natAbs_ediv_of_dvd (by rw [← Int.dvd_natAbs,Int.ofNat_dvd];exact Nat.gcd_dvd_left _ _),Int.natAbs_natCast];refine Nat.le_trans jl ?_;omega
 ·rw [h2];refine Nat.le_trans (jL zo _ _) ?_;have b3:= @jl q.den ((p.num*((q.den / p.den.gcd q.den:Nat):Int)+q.num*((p.den / p.den.gcd q.den:Nat):Int)).natAbs.gcd (p.den.gcd q.den));omega
theorem jT {k:Nat} {p q:Rat} (h:gZ k p) (i:gZ k q):gZ (2*k) (p*q):=by
 obtain ⟨h1,h2⟩:=IU p q;obtain ⟨i1,i2⟩:=i;obtain ⟨j1,j2⟩:=h
 constructor
 ·rw [h1];refine Nat.le_trans (Py _ _) ?_;rw [Int.natAbs_ediv_of_dvd (by rw [← Int.dvd_natAbs,Int.ofNat_dvd];exact Nat.gcd_dvd_left _ _),Int.natAbs_ediv_of_dvd (by rw [← Int.dvd_natAbs,Int.ofNat_dvd];exact Nat.gcd_dvd_left _ _),Int.natAbs_natCast,Int.natAbs_natCast];have:= @jl p.num.natAbs (p.num.natAbs.gcd q.den);have:= @jl q.num.natAbs (q.num.natAbs.gcd p.den);omega
 ·rw [h2];refine Nat.le_trans (jL zo _ _) ?_;have:= @jl p.den (q.num.natAbs.gcd p.den);have:= @jl q.den (p.num.natAbs.gcd q.den);omega
theorem vI {k:Nat} {q:Rat} (h:gZ k q):gZ k (-q):=by
 unfold gZ at *;rw [Rat.neg_num,Rat.neg_den,Int.natAbs_neg];exact h
theorem JC {k:Nat} {q:Rat} (h:gZ k q) (h0:q≠0):gZ k q⁻¹:=by
 have hn:q.num≠0:=fun e=>h0 (Rat.num_eq_zero.1 e);unfold gZ at *;rw [Rat.num_inv,Rat.den_inv,if_neg hn,Int.natAbs_mul,Int.natAbs_natCast,Int.natAbs_sign_of_ne_zero hn,Nat.one_mul];exact ⟨h.2,h.1⟩
end Go.fF
namespace Go.fF
open Go Go.Num Go.Dec Lib
abbrev FrI:=Fr × Int
def BK (a:Fr):Int:=if (rd a).isSome then 0 else 20
def gW (a:Fr):Int × Int:=match rd a with
 | some q=>(pJ q 0,0)
 | none=>(0,20)
def uY (a b:Fr):Int × Int:=match rd a,rd b with
 | some p,some q=>(pJ p q,0)
 | _,_=>(0,20)
def bin (f:Rat→Rat→Fr × Int) (a b:Fr):Fr × Int:=match rd a,rd b with
 | some p,some q=>f p q
 | _,_=>(Fr.no,20)
def sK (a b:Fr):Fr × Int:=bin (fun p q=>wr (p+q)) a b
def zO (a b:Fr):Fr × Int:=bin (fun p q=>wr (p - q)) a b
def pI (a b:Fr):Fr × Int:=bin (fun p q=>wr (p*q)) a b
def nC (a b:Fr):Fr × Int:=bin (fun p q=>if q=0 then (Fr.no,7) else wr (p / q)) a b
def qV (n d:Int):Fr × Int:=if d=0 then (Fr.no,7) else wr (n / d)
theorem kZ {f:Rat→Rat→Fr × Int} {a b:Fr} {p q:Rat} (h:rd a=some p) (k:rd b=some q):bin f a b=f p q:=by unfold bin;rw [h,k]
theorem qg {f:Rat→Rat→Fr × Int} {a b:Fr} (h:rd a=none):bin f a b=(Fr.no,20):=by unfold bin;rw [h]
theorem nZ {f:Rat→Rat→Fr × Int} {a b:Fr} (k:rd b=none):bin f a b=(Fr.no,20):=by
 unfold bin;cases rd a with
 | none=>rfl
 | some p=>simp [k]
theorem ak7 (n d:Int) (h:d≠0):mkRat (Mem.gT n.natAbs (!(decide (n<0) == decide (d<0)))) d.natAbs=(n:Rat) / (d:Rat):=by
 rw [← Rat.divInt_eq_div]
 rcases Int.lt_trichotomy d 0 with hd|hd|hd
 ·rw [← Rat.neg_divInt_neg];obtain ⟨k,rfl⟩:∃ k:Nat,d= -(k:Int):=⟨d.natAbs,by omega⟩;rw [Int.neg_neg,Rat.divInt_ofNat,Int.natAbs_neg,Int.natAbs_natCast]
  congr 1
  unfold Mem.gT
  by_cases hn:n<0
  ·simp [hn,hd];omega
  ·simp [hn,hd];omega
 ·exact absurd hd h
 ·obtain ⟨k,rfl⟩:∃ k:Nat,d=(k:Int):=⟨d.natAbs,by omega⟩;rw [Rat.divInt_ofNat,Int.natAbs_natCast]
  congr 1
  have hd2:¬ (k:Int)<0:=by omega
  unfold Mem.gT
  by_cases hn:n<0
  ·simp [hn,hd2];omega
  ·simp [hn,hd2];omega
theorem qx (s t:ByteArray) (e:Int):Fr.res (⟨s,t⟩,e)= .tuple #[.agg #[.string s,.string t],.int .i64 e]:=rfl
end Go.fF
namespace Go.Proofs
open Go.Shelf
def Tryz.lays134_ren:Go.Shelf.Ren:=⟨fun|134=>242|129=>282|n=>n,fun|53=>193|3=>3|4=>4|46=>240|5=>5|9=>9|n=>n,fun|n=>n⟩
theorem Tryz.lays134:Go.Proofs.Lays.n134 Tryz.prog Tryz.lays134_ren:={
 mixed:=by kernel_rfl
 f129:=Tryz.func282.trans (congrArg some zk)
 f134:=Tryz.func242.trans (congrArg some zk)
 t3:=Tryz.underlying3
 a3:=Tryz.isAgg3
 z3:=Tryz.sizeOf3
 v3:=Tryz.zeroValue3
 t4:=Tryz.underlying4
 a4:=Tryz.isAgg4
 z4:=Tryz.sizeOf4
 v4:=Tryz.zeroValue4
 t5:=Tryz.underlying5
 a5:=Tryz.isAgg5
 z5:=Tryz.sizeOf5
 v5:=Tryz.zeroValue5
 t9:=Tryz.underlying9
 a9:=Tryz.isAgg9
 z9:=Tryz.sizeOf9
 v9:=Tryz.zeroValue9
 t46:=Tryz.underlying240
 a46:=Tryz.isAgg240
 z46:=Tryz.sizeOf240
 v46:=Tryz.zeroValue240
 t53:=Tryz.underlying193
 a53:=Tryz.isAgg193
 z53:=Tryz.sizeOf193
 v53:=Tryz.zeroValue193 }
theorem Tryz.bits_LeadingZeros64 (x:Int) (w:World) (h0:0≤x) (h1:x≤18446744073709551615) :
  Calls Tryz.prog 242 #[.int .u64 x] w fun e w'=>e= .returned (.int .i64 (64 - (Lib.bitLen x.toNat:Int)))∧w'=w:=Any.bits_LeadingZeros64 Tryz.lays134 x w h0 h1
def Tryz.laysC174_ren:Go.Shelf.Ren:=⟨fun|174=>246|247=>286|245=>287|287=>319|279=>320|280=>321|281=>322|282=>323|321=>334|322=>335|316=>336|171=>249|205=>337|243=>288|246=>324|283=>338|284=>339|285=>340|286=>341|129=>282|317=>347|318=>348|319=>349|320=>350|337=>353|338=>354|n=>n,fun|9=>9|3=>3|2=>2|75=>242|85=>244|4=>4|167=>315|5=>5|53=>193|175=>316|46=>240|168=>318|37=>275|0=>0|210=>333|21=>21|127=>299|145=>344|143=>342|171=>335|173=>337|212=>347|51=>61|20=>20|213=>348|232=>354|233=>355|80=>227|n=>n,fun|15=>2|16=>3|17=>4|18=>5|19=>6|n=>n⟩
theorem Tryz.laysC174:Go.Proofs.LaysC.n174 Tryz.prog Tryz.laysC174_ren:={
 mixed:=by kernel_rfl
 f129:=Tryz.func282.trans (congrArg some zk)
 f171:=Tryz.func249.trans (congrArg some zk)
 f174:=Tryz.func246.trans (congrArg some zk)
 f205:=Tryz.func337.trans (congrArg some zk)
 f243:=Tryz.func288.trans (congrArg some zk)
 f245:=Tryz.func287.trans (congrArg some zk)
 f246:=Tryz.func324.trans (congrArg some zk)
 f247:=Tryz.func286.trans (congrArg some zk)
 f279:=Tryz.func320.trans (congrArg some zk)
 f280:=Tryz.func321.trans (congrArg some zk)
 f281:=Tryz.func322.trans (congrArg some zk)
 f282:=Tryz.func323.trans (congrArg some zk)
 f283:=Tryz.func338.trans (congrArg some zk)
 f284:=Tryz.func339.trans (congrArg some zk)
 f285:=Tryz.func340.trans (congrArg some zk)
 f286:=Tryz.func341.trans (congrArg some zk)
 f287:=Tryz.func319.trans (congrArg some zk)
 f316:=Tryz.func336.trans (congrArg some zk)
 f317:=Tryz.func347.trans (congrArg some zk)
 f318:=Tryz.func348.trans (congrArg some zk)
 f319:=Tryz.func349.trans (congrArg some zk)
 f320:=Tryz.func350.trans (congrArg some zk)
 f321:=Tryz.func334.trans (congrArg some zk)
 f322:=Tryz.func335.trans (congrArg some zk)
 f337:=Tryz.func353.trans (congrArg some zk)
 f338:=Tryz.func354.trans (congrArg some zk)
 t0:=Tryz.underlying0
 a0:=Tryz.isAgg0
 z0:=Tryz.sizeOf0
 v0:=Tryz.zeroValue0
 t2:=Tryz.underlying2
 a2:=Tryz.isAgg2
 z2:=Tryz.sizeOf2
 v2:=Tryz.zeroValue2
 t3:=Tryz.underlying3
 a3:=Tryz.isAgg3
 z3:=Tryz.sizeOf3
 v3:=Tryz.zeroValue3
 t4:=Tryz.underlying4
 a4:=Tryz.isAgg4
 z4:=Tryz.sizeOf4
 v4:=Tryz.zeroValue4
 t5:=Tryz.underlying5
 a5:=Tryz.isAgg5
 z5:=Tryz.sizeOf5
 v5:=Tryz.zeroValue5
 t9:=Tryz.underlying9
 a9:=Tryz.isAgg9
 z9:=Tryz.sizeOf9
 v9:=Tryz.zeroValue9
 t20:=Tryz.underlying20
 a20:=Tryz.isAgg20
 z20:=Tryz.sizeOf20
 v20:=Tryz.zeroValue20
 t21:=Tryz.underlying21
 a21:=Tryz.isAgg21
 z21:=Tryz.sizeOf21
 v21:=Tryz.zeroValue21
 t37:=Tryz.underlying275
 a37:=Tryz.isAgg275
 z37:=Tryz.sizeOf275
 v37:=Tryz.zeroValue275
 t46:=Tryz.underlying240
 a46:=Tryz.isAgg240
 z46:=Tryz.sizeOf240
 v46:=Tryz.zeroValue240
 t51:=Tryz.underlying61
 a51:=Tryz.isAgg61
 z51:=Tryz.sizeOf61
 v51:=Tryz.zeroValue61
 t53:=Tryz.underlying193
 a53:=Tryz.isAgg193
 z53:=Tryz.sizeOf193
 v53:=Tryz.zeroValue193
 t75:=Tryz.underlying242
 a75:=Tryz.isAgg242
 z75:=Tryz.sizeOf242
 v75:=Tryz.zeroValue242
 t85:=Tryz.underlying244
 a85:=Tryz.isAgg244
 z85:=Tryz.sizeOf244
 v85:=Tryz.zeroValue244
 t127:=Tryz.underlying299
 a127:=Tryz.isAgg299
 z127:=Tryz.sizeOf299
 v127:=Tryz.zeroValue299
 t143:=Tryz.underlying342
 a143:=Tryz.isAgg342
 z143:=Tryz.sizeOf342
 v143:=Tryz.zeroValue342
 t145:=Tryz.underlying344
 a145:=Tryz.isAgg344
 z145:=Tryz.sizeOf344
 v145:=Tryz.zeroValue344
 t167:=Tryz.underlying315
 a167:=Tryz.isAgg315
 z167:=Tryz.sizeOf315
 v167:=Tryz.zeroValue315
 t168:=Tryz.underlying318
 a168:=Tryz.isAgg318
 z168:=Tryz.sizeOf318
 v168:=Tryz.zeroValue318
 t171:=Tryz.underlying335
 a171:=Tryz.isAgg335
 z171:=Tryz.sizeOf335
 v171:=Tryz.zeroValue335
 t173:=Tryz.underlying337
 a173:=Tryz.isAgg337
 z173:=Tryz.sizeOf337
 v173:=Tryz.zeroValue337
 t175:=Tryz.underlying316
 a175:=Tryz.isAgg316
 z175:=Tryz.sizeOf316
 v175:=Tryz.zeroValue316
 t210:=Tryz.underlying333
 a210:=Tryz.isAgg333
 z210:=Tryz.sizeOf333
 v210:=Tryz.zeroValue333
 t212:=Tryz.underlying347
 a212:=Tryz.isAgg347
 z212:=Tryz.sizeOf347
 v212:=Tryz.zeroValue347
 t213:=Tryz.underlying348
 a213:=Tryz.isAgg348
 z213:=Tryz.sizeOf348
 t232:=Tryz.underlying354
 a232:=Tryz.isAgg354
 z232:=Tryz.sizeOf354
 v232:=Tryz.zeroValue354
 t233:=Tryz.underlying355
 a233:=Tryz.isAgg355
 z233:=Tryz.sizeOf355
 v233:=Tryz.zeroValue355
 g15:=by kernel_rfl
 g16:=by kernel_rfl
 g17:=by kernel_rfl
 g18:=by kernel_rfl
 g19:=by kernel_rfl
 t80:=Tryz.underlying227
 a80:=Tryz.isAgg227
 z80:=Tryz.sizeOf227
 v80:=Tryz.zeroValue227
 i0:=by kernel_rfl
 i2:=by kernel_rfl
 i3:=by kernel_rfl
 i4:=by kernel_rfl
 i5:=by kernel_rfl
 i9:=by kernel_rfl
 i20:=by kernel_rfl
 i21:=by kernel_rfl
 i37:=by kernel_rfl
 i46:=by kernel_rfl
 i51:=by kernel_rfl
 i53:=by kernel_rfl
 i75:=by kernel_rfl
 i80:=by kernel_rfl
 i85:=by kernel_rfl
 i127:=by kernel_rfl
 i143:=by kernel_rfl
 i145:=by kernel_rfl
 i167:=by kernel_rfl
 i168:=by kernel_rfl
 i171:=by kernel_rfl
 i173:=by kernel_rfl
 i175:=by kernel_rfl
 i210:=by kernel_rfl
 i212:=by kernel_rfl
 i232:=by kernel_rfl
 i233:=by kernel_rfl
 m15:=by kernel_rfl
 m16:=by kernel_rfl
 m17:=by kernel_rfl
 m18:=by kernel_rfl
 m19:=by kernel_rfl
 c0:=by kernel_rfl
 c2:=by kernel_rfl
 c3:=by kernel_rfl
 c4:=by kernel_rfl
 c5:=by kernel_rfl
 c9:=by kernel_rfl
 c20:=by kernel_rfl
 c21:=by kernel_rfl
 c37:=by kernel_rfl
 c46:=by kernel_rfl
 c51:=by kernel_rfl
 c53:=by kernel_rfl
 c75:=by kernel_rfl
 c80:=by kernel_rfl
 c85:=by kernel_rfl
 c127:=by kernel_rfl
 c143:=by kernel_rfl
 c145:=by kernel_rfl
 c167:=by kernel_rfl
 c168:=by kernel_rfl
 c171:=by kernel_rfl
 c173:=by kernel_rfl
 c175:=by kernel_rfl
 c210:=by kernel_rfl
 c212:=by kernel_rfl
 c213:=by kernel_rfl
 c232:=by kernel_rfl
 c233:=by kernel_rfl }
open Go.RowKit in
theorem Tryz.strconv_ParseInt_10_at64_ok (s:ByteArray) (hmax:s.size≤9223372036854775806) (v:Int) (h:Lib.parseIntB 64 s.data.toList= .ok v) (w:World) :
  Calls Tryz.prog 246 #[.string s,.int .i64 10,.int .i64 64] w fun e w'=>e= .returned (.tuple #[.int .i64 v,.nilIface])∧(w'=w∨∃ t,w'=Lib.bytesWorld w 5 t):=Any.strconv_ParseInt_10_at64_ok Tryz.laysC174 s hmax v h w
open Go.RowKit in
theorem Tryz.strconv_ParseInt_10_at64_range (s:ByteArray) (hlim:s.size≤281474976710656) (h:Lib.parseIntB 64 s.data.toList= .range) (ev:Value) (w:World) (hv:w.cell? ⟨3,0,none⟩=some ev) (hev:ev= .nilIface∨∃ te pe,ev= .iface te pe) :
  Calls Tryz.prog 246 #[.string s,.int .i64 10,.int .i64 64] w fun e w'=>∃ N,e= .returned (.tuple #[.int .i64 (Lib.intSat 64 s.data.toList),.iface 318 (.pointer (some ⟨N,0,none⟩))])∧w.heap.size≤N∧w'.heap[N]? =some (.cells #[.string ⟨#[80,97,114,115,101,73,110,116]⟩,.string s,ev] 333 (0,0))∧Below w.heap.size w w':=Any.strconv_ParseInt_10_at64_range Tryz.laysC174 s hlim h ev w hv hev
def Tryz.lays264_ren:Go.Shelf.Ren:=⟨fun|264=>176|n=>n,fun|53=>193|46=>240|n=>n,fun|n=>n⟩
theorem Tryz.lays264:Go.Proofs.Lays.n264 Tryz.prog Tryz.lays264_ren:={
 mixed:=by kernel_rfl
 f264:=Tryz.func176.trans (congrArg some zk)
 t46:=Tryz.underlying240
 a46:=Tryz.isAgg240
 z46:=Tryz.sizeOf240
 v46:=Tryz.zeroValue240
 t53:=Tryz.underlying193
 a53:=Tryz.isAgg193
 z53:=Tryz.sizeOf193
 v53:=Tryz.zeroValue193 }
open Go.RowKit Go.Lib in
theorem Tryz.bits_Mul64 (x y:Nat) (hx:x<18446744073709551616) (hy:y<18446744073709551616) (w:World) :
  Calls Tryz.prog 176 #[.int .u64 x,.int .u64 y] w fun e w'=>e= .returned (.tuple #[.int .u64 ((x*y / 18446744073709551616:Nat):Int),.int .u64 ((x*y%18446744073709551616:Nat):Int)])∧w'=w:=Any.bits_Mul64 Tryz.lays264 x y hx hy w
def Tryz.lays105_ren:Go.Shelf.Ren:=⟨fun|105=>325|212=>342|99=>343|165=>344|166=>271|170=>345|169=>272|263=>351|264=>176|206=>330|240=>303|241=>352|276=>329|277=>355|n=>n,fun|9=>9|3=>3|4=>4|20=>20|0=>0|46=>240|109=>339|5=>5|72=>277|76=>279|51=>61|146=>350|53=>193|148=>194|70=>274|37=>275|75=>242|127=>299|164=>324|80=>227|n=>n,fun|n=>n⟩
theorem Tryz.lays105:Go.Proofs.Lays.n105 Tryz.prog Tryz.lays105_ren:={
 mixed:=by kernel_rfl
 f99:=Tryz.func343.trans (congrArg some zk)
 f105:=Tryz.func325.trans (congrArg some zk)
 f165:=Tryz.func344.trans (congrArg some zk)
 f166:=Tryz.func271.trans (congrArg some zk)
 f169:=Tryz.func272.trans (congrArg some zk)
 f170:=Tryz.func345.trans (congrArg some zk)
 f206:=Tryz.func330.trans (congrArg some zk)
 f212:=Tryz.func342.trans (congrArg some zk)
 f240:=Tryz.func303.trans (congrArg some zk)
 f241:=Tryz.func352.trans (congrArg some zk)
 f263:=Tryz.func351.trans (congrArg some zk)
 f264:=Tryz.func176.trans (congrArg some zk)
 f276:=Tryz.func329.trans (congrArg some zk)
 f277:=Tryz.func355.trans (congrArg some zk)
 t0:=Tryz.underlying0
 a0:=Tryz.isAgg0
 z0:=Tryz.sizeOf0
 v0:=Tryz.zeroValue0
 t3:=Tryz.underlying3
 a3:=Tryz.isAgg3
 z3:=Tryz.sizeOf3
 v3:=Tryz.zeroValue3
 t4:=Tryz.underlying4
 a4:=Tryz.isAgg4
 z4:=Tryz.sizeOf4
 v4:=Tryz.zeroValue4
 t5:=Tryz.underlying5
 a5:=Tryz.isAgg5
 z5:=Tryz.sizeOf5
 v5:=Tryz.zeroValue5
 t9:=Tryz.underlying9
 a9:=Tryz.isAgg9
 z9:=Tryz.sizeOf9
 v9:=Tryz.zeroValue9
 t20:=Tryz.underlying20
 a20:=Tryz.isAgg20
 z20:=Tryz.sizeOf20
 v20:=Tryz.zeroValue20
 t37:=Tryz.underlying275
 a37:=Tryz.isAgg275
 z37:=Tryz.sizeOf275
 v37:=Tryz.zeroValue275
 t46:=Tryz.underlying240
 a46:=Tryz.isAgg240
 z46:=Tryz.sizeOf240
 v46:=Tryz.zeroValue240
 t51:=Tryz.underlying61
 a51:=Tryz.isAgg61
 z51:=Tryz.sizeOf61
 v51:=Tryz.zeroValue61
 t53:=Tryz.underlying193
 a53:=Tryz.isAgg193
 z53:=Tryz.sizeOf193
 v53:=Tryz.zeroValue193
 t70:=Tryz.underlying274
 a70:=Tryz.isAgg274
 z70:=Tryz.sizeOf274
 v70:=Tryz.zeroValue274
 t72:=Tryz.underlying277
 a72:=Tryz.isAgg277
 z72:=Tryz.sizeOf277
 v72:=Tryz.zeroValue277
 t75:=Tryz.underlying242
 a75:=Tryz.isAgg242
 z75:=Tryz.sizeOf242
 v75:=Tryz.zeroValue242
 t76:=Tryz.underlying279
 a76:=Tryz.isAgg279
 z76:=Tryz.sizeOf279
 v76:=Tryz.zeroValue279
 t109:=Tryz.underlying339
 a109:=Tryz.isAgg339
 z109:=Tryz.sizeOf339
 v109:=Tryz.zeroValue339
 t127:=Tryz.underlying299
 a127:=Tryz.isAgg299
 z127:=Tryz.sizeOf299
 v127:=Tryz.zeroValue299
 t146:=Tryz.underlying350
 a146:=Tryz.isAgg350
 z146:=Tryz.sizeOf350
 v146:=Tryz.zeroValue350
 t148:=Tryz.underlying194
 a148:=Tryz.isAgg194
 z148:=Tryz.sizeOf194
 v148:=Tryz.zeroValue194
 t164:=Tryz.underlying324
 a164:=Tryz.isAgg324
 z164:=Tryz.sizeOf324
 v164:=Tryz.zeroValue324 }
theorem Tryz.Builder_Extra_105:Builder.Extra Tryz.prog Tryz.lays105_ren:={
 sizeBuilder:=by kernel_rfl
 liesBuilder:=by kernel_rfl
 t5:=Tryz.underlying5
 a5:=Tryz.isAgg5
 z5:=Tryz.sizeOf5
 v5:=Tryz.zeroValue5
 infoByte:=by kernel_rfl
 cellsByte:=by kernel_rfl
 sizeByte:=by kernel_rfl
 neB5:=by decide }
open Go.RowKit Go.Lib in
theorem Tryz.strings_Repeat (s:ByteArray) (c:Nat) (w:World) (hc:c≤9223372036854775807) (hlen:s.size*c≤140737488355328) :
  Calls Tryz.prog 325 #[.string s,.int .i64 c] w fun e w'=>e= .returned (.string ⟨(Lib.repeatL s.data.toList c).toArray⟩)∧Below w.heap.size w w':=Any.strings_Repeat Tryz.lays105 Tryz.Builder_Extra_105 s c w hc hlen
end Go.Proofs
namespace Go.Fx
open Go Go.RowKit Go.SW Go.Mem
abbrev Sl:=List (Nat × Value)
def look:Sl→Nat→Option Value
 | [],_=>none
 | p::S,j=>bif Nat.beq j p.1 then some p.2 else look S j
theorem qX (p:Nat × Value) (S:Sl) (j:Nat):look (p::S) j=bif Nat.beq j p.1 then some p.2 else look S j:=rfl
def ev (S:Sl):Operand→Value
 | .tmp t=>(look S t).getD undef
 | .const v=>v
 | .global g=>.pointer (some ⟨g,0,none⟩)
 | .func f=>.func (.func f) #[] #[]
def known (S:Sl):Operand→Bool
 | .tmp t=>(look S t).isSome
 | _=>true
structure xS (n:Nat) (S:Sl) (a:Act):Prop where
 size:a.tmps.size=n
 get:∀ i v,look S i=some v→a.tmps.getD i undef=v
 defers:a.defers=[]
theorem xS.eval {n:Nat} {S:Sl} {a:Act} (h:xS n S a) {x:Operand} (hx:known S x=true):a.eval x=ev S x:=by
 cases x with
 | tmp t =>
  obtain ⟨v,hv⟩:=Option.isSome_iff_exists.1 hx;exact (h.get t v hv).trans (by simp [ev,hv])
 | const v=>rfl
 | global g=>rfl
 | func f=>rfl
theorem xS.of {n:Nat} {S S':Sl} {a:Act} (h:xS n S a) (hs:∀ i v,look S' i=some v→look S i=some v):xS n S' a:=⟨h.size,fun i v hv=>h.get i v (hs i v hv),h.defers⟩
theorem xS.put {n:Nat} {S:Sl} {a:Act} (h:xS n S a) {d:Nat} (hd:d<n) (v:Value):xS n ((d,v)::S) (a.put (some d) v):=by
 refine ⟨by simpa [Act.put] using h.size,fun i u hu=>?_,h.defers⟩;rw [qX] at hu
 show (a.tmps.setIfInBounds d v).getD i undef=u
 have hs:=h.size;cases hi:Nat.beq i d with
 | true =>
  obtain rfl:=Nat.eq_of_beq_eq_true hi;simp only [hi,cond_true,Option.some.injEq] at hu;subst hu;simp [Array.getD,hs,hd]
 | false =>
  have hne:d≠i:=fun e=>by subst e;simp at hi
  simp only [hi,cond_false] at hu;rw [← h.get i u hu];simp [Array.getD_eq_getD_getElem?, hne]
def nT (n:Nat) (S:Sl) (d:Option Nat) (v:Value):Option Sl:=match d with
 | some d=>bif Nat.blt d n then some ((d,v)::S) else none
 | none=>some S
theorem xS.nT {n:Nat} {S S':Sl} {a:Act} (h:xS n S a) {d:Option Nat} {v:Value} (hs:Fx.nT n S d v=some S'):xS n S' (a.put d v):=by
 cases d with
 | none=>cases hs;exact h
 | some d =>
  unfold Fx.nT at hs;cases hb:Nat.blt d n with
  | true=>simp only [hb,cond_true,Option.some.injEq] at hs;subst hs;exact h.put (Nat.le_of_ble_eq_true hb) v
  | false=>simp only [hb,cond_false] at hs;cases hs
def yl (ops:Array Oper) (S:Sl) (j:Nat):Option Bool:=match (ops[j]?).bind (·.dst) with
 | some d=>(match look S d with|some (.bool b)=>some b| _=>none)
 | none=>none
def gk (ops:Array Oper) (S:Sl) (o:Oper):Bool:=match o.guard with
 | none=>true
 | some (g,_)=>(match (ops[g]?).bind (·.dst) with|some d=>(look S d).isSome|none=>true)
theorem xS.wanted {n:Nat} {S:Sl} {a:Act} (h:xS n S a) {ops:Array Oper} {o:Oper} (hg:gk ops S o=true):Region.wanted o (yielded ops a.tmps)=Region.wanted o (yl ops S):=by
 unfold Region.wanted;unfold gk at hg;cases ho:o.guard with
 | none=>rfl
 | some gw =>
  obtain ⟨g,w⟩:=gw;simp only [ho] at hg ⊢
  congr 1
  unfold yielded Fx.yl;cases hd:(ops[g]?).bind (·.dst) with
  | none=>rfl
  | some d =>
   simp only [hd] at hg;obtain ⟨v,hv⟩:=Option.isSome_iff_exists.1 hg;have hgt:=h.get d v hv;simp only [Option.bind_some,hv];rw [Array.getD_eq_getD_getElem?] at hgt;cases ht:a.tmps[d]? with
   | none=>rw [ht] at hgt;rw [← hgt];rfl
   | some v'=>rw [ht] at hgt;rw [← hgt];cases v'<;>rfl
/-! ### What stands behind -/
inductive Kt|seq (c:Code)|block (id:Nat)|again (c:Code) (m:Nat)
abbrev Post:=Exit→Sl→World→Prop
def lift (n:Nat) (Q:Post):Exit→Act→World→Prop
 | .panic c,a,w=>a.defers=[]∧∃ S,Q (.panic c) S w
 | e,a,w=>∃ S,xS n S a∧Q e S w
theorem vO {n:Nat} {Q:Post} {e:Exit} {a:Act} {w:World} {S:Sl} (h:xS n S a) (hq:Q e S w):lift n Q e a w:=by
 cases e with
 | panic c=>exact ⟨h.defers,S,hq⟩
 | _=>exact ⟨S,h,hq⟩
theorem Qu {n:Nat} {Q:Post} (c:List PanicEntry) (a s:Act) (w:World) (hs:s.defers=a.defers) (h:lift n Q (.panic c) a w):lift n Q (.panic c) s w:=⟨hs.trans h.1,h.2⟩
section
variable (P:Program) (n:Nat)
def rounds (c:Code) (Q:Post):Nat→Sl→World→Prop
 | 0,_,_=>False
 | m+1,S,w=>∀ a,xS n S a→c.wp P (lift n (fun e S w=>match e with| .normal=>rounds c Q m S w|e=>Q e S w)) a w
def Cont (R:Post):List Kt→Post
 | [],e,S,w=>R e S w
 | .seq c::k,.normal,S,w=>∀ a,xS n S a→c.wp P (lift n (Cont R k)) a w
 | .seq _::k,e,S,w=>Cont R k e S w
 | .block id::k,.exit id',S,w=>if id'=id then Cont R k .normal S w else Cont R k (.exit id') S w
 | .block _::k,e,S,w=>Cont R k e S w
 | .again c m::k,.normal,S,w=>rounds P n c (Cont R k) m S w
 | .again _ _::k,e,S,w=>Cont R k e S w
structure Wc (R:Post) (c:Code) (k:List Kt) (S:Sl) (w:World):Prop where
 out:∀ a,xS n S a→c.wp P (lift n (Cont P n R k)) a w
structure Nx (R:Post) (e:Exit) (k:List Kt) (S:Sl) (w:World):Prop where
 out:Cont P n R k e S w
end
section
variable {P:Program} {n:Nat} {R:Post} {k:List Kt} {S:Sl} {w:World} {c c1 c2:Code} {e:Exit}
theorem seq (h:Wc P n R c1 (.seq c2::k) S w):Wc P n R (.seq c1 c2) k S w:=⟨fun a ha=>wp_seq (wp_mono (h.out a ha) fun e a w hq=>by
 cases e with
 | normal=>obtain ⟨S,hs,hq⟩:=hq;exact hq a hs
 | exit id=>obtain ⟨S,hs,hq⟩:=hq;exact ⟨S,hs,hq⟩
 | goto id=>obtain ⟨S,hs,hq⟩:=hq;exact ⟨S,hs,hq⟩
 | ret=>obtain ⟨S,hs,hq⟩:=hq;exact ⟨S,hs,hq⟩
 | panic ch=>obtain ⟨hd,S,hq⟩:=hq;exact ⟨hd,S,hq⟩
 | outgrown=>obtain ⟨S,hs,hq⟩:=hq;exact ⟨S,hs,hq⟩)⟩
theorem block {id:Nat} (h:Wc P n R c (.block id::k) S w):Wc P n R (.block id c) k S w:=⟨fun a ha=>wp_block (wp_mono (h.out a ha) fun e a w hq=>by
 cases e with
 | normal=>obtain ⟨S,hs,hq⟩:=hq;exact ⟨S,hs,hq⟩
 | exit id' =>
  obtain ⟨S,hs,hq⟩:=hq;simp only [Cont] at hq;simp only [Exit.inBlock];split at hq
  ·rename_i h;rw [if_pos h];exact ⟨S,hs,hq⟩
  ·rename_i h;rw [if_neg h];exact ⟨S,hs,hq⟩
 | goto id=>obtain ⟨S,hs,hq⟩:=hq;exact ⟨S,hs,hq⟩
 | ret=>obtain ⟨S,hs,hq⟩:=hq;exact ⟨S,hs,hq⟩
 | panic ch=>obtain ⟨hd,S,hq⟩:=hq;exact ⟨hd,S,hq⟩
 | outgrown=>obtain ⟨S,hs,hq⟩:=hq;exact ⟨S,hs,hq⟩)⟩
theorem skip (h:Nx P n R .normal k S w):Wc P n R .skip k S w:=⟨fun _ ha=>wp_skip (vO ha h.out)⟩
theorem exit {id:Nat} (h:Nx P n R (.exit id) k S w):Wc P n R (.exit id) k S w:=⟨fun _ ha=>wp_exit (vO ha h.out)⟩
theorem ret (h:Nx P n R .ret k S w):Wc P n R .ret k S w:=⟨fun _ ha=>wp_ret (vO ha h.out)⟩
theorem cond {x:Operand} {b:Bool} (hk:known S x=true) (hx:ev S x= .bool b) (h:Wc P n R (if b then c1 else c2) k S w):Wc P n R (.cond x c1 c2) k S w:=by
 cases b with
 | true=>exact ⟨fun a ha=>wp_cond_true (by rw [ha.eval hk,hx]) (h.out a ha)⟩
 | false=>exact ⟨fun a ha=>wp_cond_false (by rw [ha.eval hk,hx]) (h.out a ha)⟩
theorem Mq (m:Nat) {Q:Post} {a:Act} (h:rounds P n c Q m S w) (ha:xS n S a):Code.rounds P c (lift n Q) m a w:=by
 induction m generalizing S a w with
 | zero=>exact h.elim
 | succ m ih =>
  refine wp_mono (h a ha) fun e a w hq=>?_;cases e with
  | normal=>obtain ⟨S,hs,hq⟩:=hq;exact ih hq hs
  | exit id=>obtain ⟨S,hs,hq⟩:=hq;exact ⟨S,hs,hq⟩
  | goto id=>obtain ⟨S,hs,hq⟩:=hq;exact ⟨S,hs,hq⟩
  | ret=>obtain ⟨S,hs,hq⟩:=hq;exact ⟨S,hs,hq⟩
  | panic ch=>obtain ⟨hd,S,hq⟩:=hq;exact ⟨hd,S,hq⟩
  | outgrown=>obtain ⟨S,hs,hq⟩:=hq;exact ⟨S,hs,hq⟩
theorem again {m:Nat} (h:Wc P n R c (.again c m::k) S w):Nx P n R .normal (.again c (m+1)::k) S w:=⟨fun a ha=>wp_mono (h.out a ha) fun e a w hq=>by
 cases e with
 | normal=>obtain ⟨S,hs,hq⟩:=hq;exact ⟨S,hs,hq⟩
 | exit id=>obtain ⟨S,hs,hq⟩:=hq;exact ⟨S,hs,hq⟩
 | goto id=>obtain ⟨S,hs,hq⟩:=hq;exact ⟨S,hs,hq⟩
 | ret=>obtain ⟨S,hs,hq⟩:=hq;exact ⟨S,hs,hq⟩
 | panic ch=>obtain ⟨hd,S,hq⟩:=hq;exact ⟨hd,S,hq⟩
 | outgrown=>obtain ⟨S,hs,hq⟩:=hq;exact ⟨S,hs,hq⟩⟩
theorem loop (m:Nat) (h:Wc P n R c (.again c m::k) S w):Wc P n R (.loop c) k S w :=
 ⟨fun _ ha=>wp_loop_rounds (m+1) (Mq (m+1) (again h).out ha)⟩
theorem aw6 (h:Wc P n R c k S w):Nx P n R .normal (.seq c::k) S w:=⟨h.out⟩
theorem aj5 {id:Nat} (h:Nx P n R (.exit id) k S w):Nx P n R (.exit id) (.seq c::k) S w:=⟨h.out⟩
theorem Zc {id:Nat} (h:Nx P n R .normal k S w):Nx P n R .normal (.block id::k) S w:=⟨h.out⟩
theorem aj7 {id:Nat} (h:Nx P n R .normal k S w):Nx P n R (.exit id) (.block id::k) S w:=⟨by unfold Cont;rw [if_pos rfl];exact h.out⟩
theorem aj6 {id id':Nat} (hne:id'≠id) (h:Nx P n R (.exit id') k S w):Nx P n R (.exit id') (.block id::k) S w:=⟨by unfold Cont;rw [if_neg hne];exact h.out⟩
theorem Wt {id m:Nat} (h:Nx P n R (.exit id) k S w):Nx P n R (.exit id) (.again c m::k) S w:=⟨h.out⟩
end
/-! ### Entry and end -/
def Ends (P:Program) (n:Nat) (fn:Func) (E:Ending→World→Prop):Post
 | .normal,S,w=>∀ a,xS n S a→∃ v,(results fn a.tmps).run P w= .ok v w∧E (.returned v) w
 | .ret,S,w=>∀ a,xS n S a→∃ v,(results fn a.tmps).run P w= .ok v w∧E (.returned v) w
 | .panic c,_,w=>E (.panicked c) w
 | _,_,_=>False
def start:List Value→Nat→Sl
 | [],_=>[]
 | v::l,i=>(i,v)::start l (i+1)
theorem Qt (l:List Value):∀ i j v,look (start l i) j=some v→i≤j∧l[j - i]? =some v:=by
 induction l with
 | nil=>intro i j v h;cases h
 | cons v l ih =>
  intro i j u h;simp only [start,qX] at h;cases hb:Nat.beq j i with
  | true=>obtain rfl:=Nat.eq_of_beq_eq_true hb;simp only [hb,cond_true] at h;exact ⟨Nat.le_refl _,by simpa using h⟩
  | false =>
   simp only [hb,cond_false] at h;obtain ⟨h1,h2⟩:=ih (i+1) j u h;exact ⟨by omega,by rw [show j - i=(j - (i+1))+1 by omega];simpa using h2⟩
theorem enter {P:Program} {f:FuncId} {fn:Func} {c:Code} {l:List Value} {w:World} {E:Ending→World→Prop} {n:Nat} (hf:P.funcs[f]? =some fn) (hb:fn.body=some c) (hn:fn.ntmps=n) (hl':Nat.ble l.length n=true)
  (h:Wc P n (Ends P n fn E) c [] (start l 0) w):Calls P f l.toArray w E:=by
 have hl:l.length≤n:=Nat.le_of_ble_eq_true hl';refine calls_of_wp hf hb (wp_mono (h.out _ ⟨?_,fun i v hv=>?_,rfl⟩) fun e a w hq=>?_)
 ·simp [hn];omega
 ·have:=(Qt l 0 i v hv).2;simp only [Nat.sub_zero] at this;rw [Array.getD_eq_getD_getElem?, Array.getElem?_append];have hi:=(List.getElem?_eq_some_iff.1 this).1;simp [hi]
  have:=(List.getElem?_eq_some_iff.1 this).2
  simpa using this
 ·cases e with
  | normal=>obtain ⟨S,hs,hq⟩:=hq;obtain ⟨v,h1,h2⟩:=hq a hs;exact ⟨hs.defers,v,h1,h2⟩
  | ret=>obtain ⟨S,hs,hq⟩:=hq;obtain ⟨v,h1,h2⟩:=hq a hs;exact ⟨hs.defers,v,h1,h2⟩
  | panic ch=>obtain ⟨hd,S,hq⟩:=hq;exact ⟨hd,hq⟩
  | exit id=>obtain ⟨S,hs,hq⟩:=hq;exact hq.elim
  | goto id=>obtain ⟨S,hs,hq⟩:=hq;exact hq.elim
  | outgrown=>obtain ⟨S,hs,hq⟩:=hq;exact hq.elim
end Go.Fx
