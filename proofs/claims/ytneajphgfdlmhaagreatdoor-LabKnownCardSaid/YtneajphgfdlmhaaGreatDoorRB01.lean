/- Lemmas for the proof. No condition. -/
import Derived.Orders
import Derived.Below
import Derived.Tactics
import Derived.WalkKit
import Derived.WalkSpells
import Derived.WalkLawsBesides
import Derived.Lib.Hide
import Derived.Laws.OwnMore
import Derived.Lib.ItoaNum
import Derived.Laws.ResultCell
import Derived.Laws.Rows
import Derived.Test.YtneajphgfdlmhaaGreatDoorProg
set_option linter.unusedVariables false
set_option linter.unusedSimpArgs false
set_option maxRecDepth 100000
set_option maxHeartbeats 16000000
namespace Go
theorem zo {G:Prop} (h:G:=by omega):G:=h
theorem zk {G:Prop} (h:G:=by kernel_rfl):G:=h
theorem zd {G:Prop} (h:G:=by decide):G:=h
theorem zi {G:Prop} (h:G:=by simp):G:=h
theorem zh {G:Prop} (h:G):Go.RowKit.Hid G:=h
theorem zR {G:Prop} (h:G:=by exact Ar (by kernel_rfl)):G:=h
theorem zP {G:Prop} (h:G:=by exact fun _ _ _ _ hd h=>And.intro (hd.trans (And.left h)) (And.right h)):G:=h
theorem zS {G R:Prop} (r:R) (h:Go.RowKit.Hid R→G:=by intro r;(repeat (first|(apply UQ;(rfl);(rfl);(rfl);(intro J hJ;go_simp;(with_reducible refine hJ _ ?_);clear hJ J))|(apply YJ;(rfl);(rfl);(rfl);(rfl);(exact zk);(intro J hJ;go_simp;(with_reducible refine hJ _ ?_);clear hJ J))|(apply LV;(rfl);(rfl);(intro J hJ;go_simp;(with_reducible refine hJ _ ?_);clear hJ J))|(apply UR;(rfl);(rfl);(rfl);(rfl);(intro J hJ;go_simp;(with_reducible refine hJ _ ?_);clear hJ J;try go_simp))));exact r.out):G:=h (zh r)
theorem zU {G R:Prop} (r:R) (h:Go.RowKit.Hid R→G:=by intro r;(first|(apply UQ;(rfl);(rfl);(rfl);(intro J hJ;go_simp;(with_reducible refine hJ _ ?_);clear hJ J))|(apply YJ;(rfl);(rfl);(rfl);(rfl);(exact zk);(intro J hJ;go_simp;(with_reducible refine hJ _ ?_);clear hJ J))|(apply LV;(rfl);(rfl);(intro J hJ;go_simp;(with_reducible refine hJ _ ?_);clear hJ J))|(apply UR;(rfl);(rfl);(rfl);(rfl);(intro J hJ;go_simp;(with_reducible refine hJ _ ?_);clear hJ J;try go_simp)));exact r.out):G:=h (zh r)
theorem zT {G R:Prop} (r:R) (h:Go.RowKit.Hid R→G:=by intro r;(repeat (first|(apply bk8;(rfl);(rfl);(rfl);(intro J hJ;go_simp;(with_reducible refine hJ _ ?_);clear hJ J))|(apply bk9;(rfl);(rfl);(intro J hJ;go_simp;(with_reducible refine hJ _ ?_);clear hJ J))|(apply bl0;(rfl);(rfl);(rfl);(rfl);(intro J hJ;go_simp;(with_reducible refine hJ _ ?_);clear hJ J;try go_simp))));exact r.out):G:=h (zh r)
theorem zV {G R:Prop} (r:R) (h:Go.RowKit.Hid R→G:=by intro r;(repeat (first|(refine rQ rfl rfl fun J h=>?_;go_simp;refine h _ ?_;clear h J)|(refine Kz rfl rfl rfl rfl fun J h=>?_;go_simp;refine h _ ?_;clear h J;try go_simp)));exact r.out):G:=h (zh r)
theorem zW {G R:Prop} (r:R) (h:Go.RowKit.Hid R→G:=by intro r;(repeat (first|(refine rQ rfl rfl fun J h=>?_;go_simp;refine h _ ?_;clear h J)|(refine Kz rfl rfl rfl rfl fun J h=>?_;go_simp;refine h _ ?_;clear h J;try go_simp)|(refine FH rfl rfl fun J h=>?_;go_simp;refine h _ ?_;clear h J)|(refine FY rfl rfl rfl rfl fun J h=>?_;go_simp;refine h _ ?_;clear h J;try go_simp)));exact r.out):G:=h (zh r)
theorem zM {G:Prop} (h:G:=by simp [intOf];omega):G:=h
end Go
namespace Go.Proofs.whole
open Go Go.RowKit
abbrev zq1:= @Tryz.func327
abbrev zq2:= @Tryz.ntmps327
abbrev zq3:= @Tryz.func292
abbrev zq4:= @Tryz.ntmps292
abbrev Ow:Go.TypeId:=255
abbrev Rh:= @Tryz.underlying255
abbrev zq7:= @Tryz.func295
abbrev zq8:= @Tryz.ntmps295
abbrev zq9:= @Tryz.func317
abbrev ay9:= @Tryz.ntmps317
abbrev aR0:= @Tryz.func315
abbrev aQ9:= @Tryz.ntmps315
abbrev aQ8:= @Tryz.func326
abbrev aQ7:= @Tryz.ntmps326
abbrev aQ6:= @Tryz.func296
abbrev aQ5:= @Tryz.ntmps296
abbrev aQ4:= @Tryz.func316
abbrev aQ3:= @Tryz.ntmps316
abbrev aQ2:= @Tryz.func346
abbrev aQ1:= @Tryz.ntmps346
abbrev aQ0:= @Tryz.func314
abbrev aP9:= @Tryz.ntmps314
abbrev aP8:= @Tryz.func333
abbrev aP7:= @Tryz.ntmps333
abbrev ai9:= @Tryz.func313
abbrev ai8:= @Tryz.ntmps313
abbrev aP6:= @Tryz.func328
abbrev aP5:= @Tryz.ntmps328
abbrev ay8:= @Tryz.func294
abbrev ay7:= @Tryz.ntmps294
abbrev ay6:= @Tryz.func293
abbrev ay5:= @Tryz.ntmps293
abbrev aP4:= @Tryz.func332
abbrev aP3:= @Tryz.ntmps332
abbrev aP2:= @Tryz.func256
abbrev aP1:= @Tryz.ntmps256
abbrev WI:= @Tryz.underlying257
abbrev aP0:= @Tryz.func331
abbrev aO9:= @Tryz.ntmps331
abbrev ai7:= @Tryz.func308
abbrev ai6:= @Tryz.ntmps308
end Go.Proofs.whole
namespace Go.Proofs.fM
open Go Go.RowKit
abbrev zq1:= @Tryz.func227
abbrev zq2:= @Tryz.ntmps227
abbrev zq3:= @Tryz.func274
abbrev zq4:= @Tryz.ntmps274
abbrev Ow:Go.TypeId:=104
abbrev Rh:= @Tryz.underlying104
abbrev zq7:= @Tryz.func201
abbrev zq8:= @Tryz.ntmps201
abbrev zq9:= @Tryz.func223
abbrev ay9:= @Tryz.ntmps223
abbrev aR0:= @Tryz.func228
abbrev aQ9:= @Tryz.ntmps228
abbrev aQ8:= @Tryz.func229
abbrev aQ7:= @Tryz.ntmps229
abbrev aQ6:= @Tryz.func145
abbrev aQ5:= @Tryz.ntmps145
abbrev aQ4:= @Tryz.func225
abbrev aQ3:= @Tryz.ntmps225
abbrev aQ2:= @Tryz.func224
abbrev aQ1:= @Tryz.ntmps224
abbrev aQ0:= @Tryz.func190
abbrev aP9:= @Tryz.ntmps190
abbrev aP8:= @Tryz.func226
abbrev aP7:= @Tryz.ntmps226
abbrev ai9:= @Tryz.func143
abbrev ai8:= @Tryz.ntmps143
abbrev aP6:= @Tryz.func269
abbrev aP5:= @Tryz.ntmps269
abbrev ay8:= @Tryz.func220
abbrev ay7:= @Tryz.ntmps220
abbrev ay6:= @Tryz.func219
abbrev ay5:= @Tryz.ntmps219
abbrev aP4:= @Tryz.func142
abbrev aP3:= @Tryz.ntmps142
abbrev aP2:= @Tryz.func144
abbrev aP1:= @Tryz.ntmps144
abbrev WI:= @Tryz.underlying106
abbrev aP0:= @Tryz.func148
abbrev aO9:= @Tryz.ntmps148
abbrev ai7:= @Tryz.func147
abbrev ai6:= @Tryz.ntmps147
end Go.Proofs.fM
namespace Go.Num
def val (B:Nat):List Nat→Nat
 | []=>0
 | d::l=>d+B*val B l
def iM (B:Nat) (l:List Nat):Prop:=∀ d∈l,d<B
theorem iM.nil {B:Nat}:iM B []:=fun _ h=>by cases h
theorem iM.cons {B d:Nat} {l:List Nat} (h:d<B) (k:iM B l):iM B (d::l):=fun x hx=>by
 rcases List.mem_cons.1 hx with e|e
 ·rw [e];exact h
 ·exact k x e
theorem iM.head {B d:Nat} {l:List Nat} (h:iM B (d::l)):d<B:=h d zi
theorem iM.tail {B d:Nat} {l:List Nat} (h:iM B (d::l)):iM B l:=fun x hx=>h x (by simp [hx])
theorem iM.append {B:Nat} {l m:List Nat} (h:iM B l) (k:iM B m):iM B (l++m):=fun x hx=>by
 rcases List.mem_append.1 hx with e|e
 ·exact h x e
 ·exact k x e
theorem iM.snoc {B d:Nat} {l:List Nat} (h:iM B l) (k:d<B):iM B (l++[d]):=h.append (iM.nil.cons k)
theorem iM.take {B:Nat} {l:List Nat} (h:iM B l) (n:Nat):iM B (l.take n):=fun x hx=>h x (List.mem_of_mem_take hx)
theorem iM.drop {B:Nat} {l:List Nat} (h:iM B l) (n:Nat):iM B (l.drop n):=fun x hx=>h x (List.mem_of_mem_drop hx)
theorem iM.get {B:Nat} {l:List Nat} (h:iM B l) {i:Nat} (hi:i<l.length):l[i]<B:=h _ (List.getElem_mem hi)
theorem iM.getD {B:Nat} {l:List Nat} (h:iM B l) (hB:0<B) (i:Nat):l.getD i 0<B:=by
 by_cases hi:i<l.length
 ·simpa [hi] using h.get hi
 ·simpa [Nat.le_of_not_lt hi] using hB
theorem val_append (B:Nat):∀ (l m:List Nat),val B (l++m)=val B l+B^l.length*val B m
 | [],m=>by simp [val]
 | d::l,m=>by
  simp only [List.cons_append,val,val_append B l m,List.length_cons,Nat.pow_succ,Nat.mul_add,Nat.add_assoc];rw [show B*(B^l.length*val B m)=B^l.length*B*val B m by rw [← Nat.mul_assoc,Nat.mul_comm B]]
theorem mW (B:Nat) (l:List Nat) (d:Nat):val B (l++[d])=val B l+B^l.length*d:=by
 rw [val_append];simp [val]
theorem xu (B n:Nat):val B (List.replicate n 0)=0:=by
 induction n with
 | zero=>rfl
 | succ n ih=>simp [List.replicate_succ,val,ih]
theorem jL {B:Nat} (hB:0<B):∀ {l:List Nat},iM B l→val B l<B^l.length
 | [],_=>by simp [val]
 | d::l,h=>by
  have h1:=jL hB h.tail;have h2:=h.head;simp only [val,List.length_cons,Nat.pow_succ];have:B*(val B l+1)≤B*B^l.length:=Nat.mul_le_mul_left B h1;rw [Nat.mul_comm (B^l.length) B];rw [Nat.mul_add] at this;omega
def eO (B n:Nat):List Nat:=if _h:1<B∧0<n then n%B::eO B (n / B) else []
termination_by n
decreasing_by exact Nat.div_lt_self _h.2 _h.1
theorem jk (B:Nat):eO B 0=[]:=by unfold eO;simp
theorem nG {B n:Nat} (hB:1<B) (h:0<n):eO B n=n%B::eO B (n / B):=by rw [eO];simp [hB,h]
theorem aR {B:Nat} (hB:1<B) (n:Nat):val B (eO B n)=n:=by
 induction n using Nat.strongRecOn with
 | _ n ih =>
  rcases Nat.eq_zero_or_pos n with h|h
  ·subst h;simp [jk,val]
  ·rw [nG hB h,val,ih _ (Nat.div_lt_self h hB)];exact Nat.mod_add_div n B
theorem bg {B:Nat} (hB:1<B) (n:Nat):iM B (eO B n):=by
 induction n using Nat.strongRecOn with
 | _ n ih =>
  rcases Nat.eq_zero_or_pos n with h|h
  ·subst h;rw [jk];exact iM.nil
  ·rw [nG hB h];exact (ih _ (Nat.div_lt_self h hB)).cons (Nat.mod_lt _ zo)
def Top (l:List Nat):Prop:=∀ k,l.length=k+1→l.getD k 0≠0
theorem Top.nil:Top []:=fun _ h=>by cases h
theorem Top.tail {d:Nat} {l:List Nat} (h:Top (d::l)):Top l:=fun k hk=>by
 have:=h (k+1) (by simp [hk])
 simpa using this
theorem Top.snoc {l:List Nat} {d:Nat} (h:d≠0):Top (l++[d]):=fun k hk=>by
 have:k=l.length:=by simp at hk;omega
 subst this;simpa using h
theorem Top.cons {d:Nat} {l:List Nat} (h:Top l) (hn:l≠[]):Top (d::l):=fun k hk=>by
 simp at hk
 cases k with
 | zero=>exact absurd (List.length_eq_zero_iff.1 hk) hn
 | succ k=>have:=h k hk;simpa using this
theorem qI {B n:Nat} (hB:1<B):eO B n=[]↔n=0:=by
 constructor
 ·intro h
  rcases Nat.eq_zero_or_pos n with h0|h0
  ·exact h0
  ·rw [nG hB h0] at h;cases h
 ·rintro rfl;exact jk B
theorem qD {B:Nat} (hB:1<B) (n:Nat):Top (eO B n):=by
 induction n using Nat.strongRecOn with
 | _ n ih =>
  rcases Nat.eq_zero_or_pos n with h|h
  ·subst h;rw [jk];exact Top.nil
  ·rw [nG hB h]
   by_cases h2:n / B=0
   ·rw [h2,jk];intro k hk;have:k=0:=by simp at hk;omega
    subst this;have:n<B:=(Nat.div_eq_zero_iff_lt zo).1 h2
    simpa [Nat.mod_eq_of_lt this] using Nat.pos_iff_ne_zero.1 h
   ·exact (ih _ (Nat.div_lt_self h hB)).cons (fun e=>h2 ((qI hB).1 e))
theorem jS {B:Nat} (hB:0<B):∀ {l:List Nat},Top l→l≠[]→0<val B l
 | [],_,h=>absurd rfl h
 | [d],h,_=>by have:=h 0 rfl;simp [val] at this ⊢;omega
 | d::e::l,h,_=>by
  have:=jS hB h.tail zi;simp only [val] at this ⊢;have:0<B*(e+B*val B l):=Nat.mul_pos hB this;omega
theorem IL {B:Nat} (hB:1<B):∀ {l:List Nat},iM B l→Top l→eO B (val B l)=l
 | [],_,_=>by simp [val,jk]
 | d::l,hd,ht=>by
  have hp:=jS (B:=B) zo ht zi;rw [nG hB hp];simp only [val];have h1:(d+B*val B l)%B=d:=by rw [Nat.add_mul_mod_self_left];exact Nat.mod_eq_of_lt hd.head
  have h2:(d+B*val B l) / B=val B l:=by
   rw [Nat.add_mul_div_left _ _ zo,Nat.div_eq_of_lt hd.head,Nat.zero_add]
  rw [h1,h2,IL hB hd.tail ht.tail]
theorem mY {l:List Nat} {k:Nat} (h:k<l.length):l.take (k+1)=l.take k++[l.getD k 0]:=by
 rw [List.take_succ_eq_append_getElem h];simp [h]
theorem dh (B:Nat) {l:List Nat} {k:Nat} (h:k<l.length):val B (l.take (k+1))=val B (l.take k)+B^k*l.getD k 0:=by
 rw [mY h,mW];simp [Nat.min_eq_left (Nat.le_of_lt h)]
def sz (B n:Nat):Nat:=(eO B n).length
theorem DI (B:Nat):sz B 0=0:=by simp [sz,jk]
theorem ku {B:Nat} (hB:1<B) (n:Nat):n<B^sz B n:=by
 have:=jL zo (bg hB n)
 rwa [aR hB] at this
theorem bH {B:Nat} (hB:1<B):∀ (k n:Nat),n<B^k→sz B n≤k
 | 0,n,h=>by
  have:n=0:=by simpa using h
  subst this;simp [DI]
 | k+1,n,h=>by
  rcases Nat.eq_zero_or_pos n with h0|h0
  ·subst h0;simp [DI]
  ·unfold sz;rw [nG hB h0,List.length_cons]
   have:n / B<B^k:=by
    rw [Nat.div_lt_iff_lt_mul zo]
    rwa [Nat.pow_succ] at h
   have:=bH hB k (n / B) this;unfold sz at this;omega
theorem MW {B:Nat} (hB:1<B) {n k:Nat} (h:sz B n=k+1):B^k≤n:=by
 rcases Nat.lt_or_ge n (B^k) with h1|h1
 ·have:=bH hB k n h1;omega
 ·exact h1
theorem jO {B:Nat} (hB:1<B) {m n:Nat} (h:m≤n):sz B m≤sz B n :=
 bH hB _ _ (Nat.lt_of_le_of_lt h (ku hB n))
theorem Bh {B:Nat} (hB:1<B) (m n:Nat):sz B (m+n)≤max (sz B m) (sz B n)+1:=by
 refine bH hB _ _ ?_;have h1:=ku hB m;have h2:=ku hB n;have h3:B^sz B m≤B^max (sz B m) (sz B n):=Nat.pow_le_pow_right zo (Nat.le_max_left _ _);have h4:B^sz B n≤B^max (sz B m) (sz B n):=Nat.pow_le_pow_right zo (Nat.le_max_right _ _);rw [Nat.pow_succ];have:B^max (sz B m) (sz B n)*2≤B^max (sz B m) (sz B n)*B:=Nat.mul_le_mul_left _ hB;omega
theorem oM {B:Nat} (hB:1<B) (m n:Nat):sz B (m*n)≤sz B m+sz B n:=by
 refine bH hB _ _ ?_;rw [Nat.pow_add];exact Nat.mul_lt_mul'' (ku hB m) (ku hB n)
def trimLen (l:List Nat):Nat→Nat
 | 0=>0
 | n+1=>if l.getD n 0=0 then trimLen l n else n+1
theorem trimLen_le (l:List Nat):∀ n,trimLen l n≤n
 | 0=>Nat.le_refl _
 | n+1=>by
  unfold trimLen;split
  ·exact Nat.le_succ_of_le (trimLen_le l n)
  ·exact Nat.le_refl _
theorem zA (l:List Nat):∀ n,n≤l.length→Top (l.take (trimLen l n))
 | 0,_=>Top.nil
 | n+1,h=>by
  unfold trimLen;split
  ·exact zA l n zo
  ·rename_i h0;intro k hk;have:k=n:=by simp [Nat.min_eq_left h] at hk;omega
   subst this;rw [mY zo];have hl:(l.take k).length=k:=by simp;omega
   rw [List.getD_eq_getElem?_getD,List.getElem?_append_right zo]
   simpa [hl] using h0
theorem zy (B:Nat) (l:List Nat):∀ n,n≤l.length→val B (l.take (trimLen l n))=val B (l.take n)
 | 0,_=>rfl
 | n+1,h=>by
  unfold trimLen;split
  ·rename_i h0;rw [zy B l n zo,dh B zo,h0];simp
  ·rfl
theorem xw {B:Nat} (hB:0<B) {l m:List Nat} {k:Nat} (hl:iM B l) (hk:k<l.length) (hk':k<m.length) (hd:l.drop (k+1)=m.drop (k+1)) (h:l.getD k 0<m.getD k 0):val B l<val B m:=by
 have e:∀ x:List Nat,k<x.length→val B x=val B (x.take k)+B^k*x.getD k 0+B^(k+1)*val B (x.drop (k+1)):=fun x hx=>by
  have h1:x=x.take (k+1)++x.drop (k+1):=(List.take_append_drop _ _).symm;have h2:(x.take (k+1)).length=k+1:=by simp;omega
  conv=>lhs;rw [h1,val_append,h2,dh B hx]
 rw [e l hk,e m hk',hd];have h1:=jL hB (hl.take k);have h2:(l.take k).length=k:=by simp;omega
 rw [h2] at h1;have h3:B^k*(l.getD k 0+1)≤B^k*m.getD k 0:=Nat.mul_le_mul_left _ h;rw [Nat.mul_add] at h3;omega
theorem wL {B:Nat} (hB:1<B) {a b:Nat} (h:sz B a<sz B b):a<b:=by
 rcases Nat.lt_or_ge a b with h1|h1
 ·exact h1
 ·have:=jO hB h1;omega
theorem kP {l:List Nat} {k:Nat} (h:k<l.length):l.drop k=l.getD k 0::l.drop (k+1):=by
 rw [List.drop_eq_getElem_cons h];simp [h]
theorem Ru {B:Nat} (hB:1<B) {l s:List Nat} (ht:Top l) (hs:iM B s) (hlen:s.length=l.length) (h:val B l≤val B s):Top s:=by
 intro k hk h0;have hk':l.length=k+1:=by omega
 have h1:=ht k hk'
 have h2:val B s<B^k:=by
  have e:s=s.take k++[s.getD k 0]:=by rw [← mY zo,← hk,List.take_length]
  rw [e,h0,mW,Nat.mul_zero,Nat.add_zero];have:=jL (by omega:0<B) (hs.take k)
  rwa [show (s.take k).length=k by simp;omega] at this
 have h3:B^k≤val B l:=by
  have e:l=l.take k++[l.getD k 0]:=by rw [← mY zo,← hk',List.take_length]
  rw [e,mW,show (l.take k).length=k by simp;omega];have:B^k*1≤B^k*l.getD k 0:=Nat.mul_le_mul_left _ zo;omega
 omega
theorem set_mid {s:List Nat} {n k d:Nat} (hs:s.length=k) (hk:k<n):(s++List.replicate (n - k) 0).set k d=(s++[d])++List.replicate (n - (k+1)) 0:=by
 obtain ⟨j,hj⟩:∃ j,n - k=j+1:=⟨n - k - 1,by omega⟩;rw [hj,show n - (k+1)=j by omega,List.replicate_succ,List.set_append_right _ _ zo,hs,Nat.sub_self];simp
theorem ad5 {s:List Nat} {n k:Nat} (hs:s.length=k):(s++List.replicate n 0).getD k 0=0:=by
 rw [List.getD_eq_getElem?_getD,List.getElem?_append_right zo,hs,Nat.sub_self];cases n<;>simp [List.replicate_succ]
theorem GR {B:Nat} {l m s:List Nat} {k c d c':Nat} (hk:k<l.length) (hs:s.length=k) (he:val B s+val B (m.take k)=val B (l.take k)+c*B^k) (h:d+m.getD k 0+c=l.getD k 0+c'*B) :
  val B (s++[d])+val B (m.take (k+1))=val B (l.take (k+1))+c'*B^(k+1):=by
 have hm:val B (m.take (k+1))=val B (m.take k)+B^k*m.getD k 0:=by
  by_cases hkm:k<m.length
  ·exact dh B hkm
  ·rw [List.take_of_length_le zo,List.take_of_length_le zo];simp [Nat.le_of_not_lt hkm]
 rw [mW,dh B hk,hm,hs,Nat.pow_succ];have h2:=congrArg (B^k* ·) h;simp only [Nat.mul_add] at h2;rw [show c'*(B^k*B)=B^k*(c'*B) by rw [Nat.mul_left_comm]];rw [Nat.mul_comm c (B^k)] at he;omega
theorem LY (B:Nat):∀ (l:List Nat) (t x:Nat),t<l.length→val B (l.set t x)+B^t*l.getD t 0=val B l+B^t*x
 | [],_,_,h=>by cases h
 | a::l,0,x,_=>by simp [val];omega
 | a::l,t+1,x,h=>by
  have ih:=LY B l t x (by simpa using h);simp only [List.set_cons_succ,val,List.getD_cons_succ,Nat.pow_succ];have h2:=congrArg (B* ·) ih;simp only [Nat.mul_add] at h2;rw [show B^t*B*l.getD t 0=B*(B^t*l.getD t 0) by rw [Nat.mul_comm (B^t) B,Nat.mul_assoc],show B^t*B*x=B*(B^t*x) by rw [Nat.mul_comm (B^t) B,Nat.mul_assoc]];omega
theorem iM.set {B:Nat} {l:List Nat} (h:iM B l) (t:Nat) {x:Nat} (hx:x<B):iM B (l.set t x):=fun y hy=>by
 rcases List.mem_or_eq_of_mem_set hy with e|e
 ·exact h y e
 ·rw [e];exact hx
theorem DU {l:List Nat} {t u x:Nat} (h:t≠u):(l.set t x).getD u 0=l.getD u 0:=by simp [List.getElem?_set_ne h]
theorem Gf {B:Nat} {m p:List Nat} {i j c d V:Nat} (hj:j<m.length) (hp:i+j<p.length) (he:val B p+c*B^(i+j)=V+B^i*(d*val B (m.take j))) :
  val B (p.set (i+j) ((c+(p.getD (i+j) 0+d*m.getD j 0))%B))+(c+(p.getD (i+j) 0+d*m.getD j 0)) / B*B^(i+j+1)=V+B^i*(d*val B (m.take (j+1))):=by
 have h1:=LY B p (i+j) ((c+(p.getD (i+j) 0+d*m.getD j 0))%B) hp;rw [dh B hj];generalize hX:c+(p.getD (i+j) 0+d*m.getD j 0)=X at *
 have h2:B^(i+j)*(X%B)+X / B*B^(i+j+1)=B^(i+j)*X:=by
  rw [Nat.pow_succ,show X / B*(B^(i+j)*B)=B^(i+j)*(B*(X / B)) by rw [Nat.mul_left_comm,Nat.mul_comm (X / B) B],← Nat.mul_add,Nat.mod_add_div]
 have h3:B^(i+j)*X=c*B^(i+j)+B^(i+j)*p.getD (i+j) 0+B^i*(d*(B^j*m.getD j 0)):=by
  rw [← hX,Nat.mul_add,Nat.mul_add,Nat.mul_comm c,Nat.pow_add];rw [show B^i*(d*(B^j*m.getD j 0))=B^i*B^j*(d*m.getD j 0) by rw [Nat.mul_assoc (B^i),Nat.mul_left_comm d]];omega
 rw [Nat.mul_add d,Nat.mul_add (B^i)];omega
theorem Cr {B c x d e:Nat} (hc:c<B) (hx:x<B) (hd:d<B) (he:e<B):(c+(x+d*e)) / B<B:=by
 rw [Nat.div_lt_iff_lt_mul zo];have h1:d*e≤(B - 1)*(B - 1):=Nat.mul_le_mul zo zo;obtain ⟨b,rfl⟩:∃ b,B=b+1:=⟨B - 1,by omega⟩;simp only [Nat.add_sub_cancel] at h1;have h2:(b+1)*(b+1)=b*b+2*b+1:=by simp only [Nat.add_mul,Nat.mul_add];omega
 omega
theorem Co {B:Nat} {l m p:List Nat} {i c:Nat} (hi:i<l.length) (hp:i+m.length<p.length) (hz:p.getD (i+m.length) 0=0)
  (he:val B p+c*B^(i+m.length)=val B (l.take i)*val B m+B^i*(l.getD i 0*val B m)):val B (p.set (i+m.length) c)=val B (l.take (i+1))*val B m:=by
 have h1:=LY B p (i+m.length) c hp;rw [hz,Nat.mul_zero,Nat.add_zero,Nat.mul_comm _ c] at h1;rw [h1,he,dh B hi,Nat.add_mul,Nat.mul_assoc]
theorem Gj {B:Nat} {l s:List Nat} {j d r:Nat} (hj:j<l.length) (he:val B (l.drop (j+1))=d*val B s+r) :
  val B (l.drop j)=d*val B ((r*B+l.getD j 0) / d::s)+(r*B+l.getD j 0)%d:=by
 rw [kP hj];simp only [val];rw [he];have h:=Nat.div_add_mod (r*B+l.getD j 0) d;have e1:d*((r*B+l.getD j 0) / d+B*val B s)=d*((r*B+l.getD j 0) / d)+B*(d*val B s):=by rw [Nat.mul_add,Nat.mul_left_comm]
 have e2:B*(d*val B s+r)=B*(d*val B s)+r*B:=by rw [Nat.mul_add,Nat.mul_comm B r]
 rw [e1,e2];omega
theorem Ct {B d r x:Nat} (hr:r<d) (hx:x<B):(r*B+x) / d<B:=by
 rw [Nat.div_lt_iff_lt_mul zo];have h:(r+1)*B≤d*B:=Nat.mul_le_mul_right _ hr;rw [Nat.add_mul,Nat.one_mul] at h;rw [Nat.mul_comm B d];omega
theorem zG {s:List Nat} {k d:Nat}:(List.replicate (k+1) 0++s).set k d=List.replicate k 0++d::s:=by
 rw [List.replicate_succ',List.append_assoc,List.set_append_right _ _ zi];simp
theorem xC {s:List Nat} {k j:Nat} (h:j<k):(List.replicate k 0++s).getD j 0=0:=by
 rw [List.getD_eq_getElem?_getD,List.getElem?_append_left (by simpa using h)];simp [h]
theorem vC {B:Nat} {l:List Nat} {j:Nat} (hj:j<l.length):val B (l.drop j)=val B (l.drop (j+1))*B+l.getD j 0:=by
 rw [kP hj];simp only [val];rw [Nat.mul_comm B,Nat.add_comm]
theorem Cn (B:Nat) (hB:0<B):∀ (l:List Nat) (k:Nat),val B (l.drop k)≤val B l
 | [],k=>by simp
 | d::l,0=>by simp
 | d::l,k+1=>by
  have h:=Cn B hB l k;have h2:val B l*1≤val B l*B:=Nat.mul_le_mul_left _ hB;rw [List.drop_succ_cons];simp only [val];rw [Nat.mul_comm B];omega
theorem MF {pre s u post:List Nat} {i j d:Nat} (hj:pre.length=j) (hs:s.length=i) (hi:i<u.length):(pre++(s++u.drop i)++post).set (j+i) d=pre++((s++[d])++u.drop (i+1))++post:=by
 rw [List.append_assoc,List.set_append_right _ _ zo,hj,Nat.add_sub_cancel_left,List.append_assoc s,List.set_append_right _ _ zo,hs,Nat.sub_self,kP hi,List.cons_append,List.set_cons_zero];simp
theorem getD_in {s u:List Nat} {i t:Nat} (hs:s.length=i) (ht:i≤t):(s++u.drop i).getD t 0=u.getD t 0:=by
 rw [List.getD_eq_getElem?_getD,List.getElem?_append_right zo,List.getElem?_drop,hs,Nat.add_sub_cancel' ht,← List.getD_eq_getElem?_getD]
end Go.Num
namespace Go.SW
open Go Go.RowKit
inductive K where
 | pure|read|alloc (cs:Array Value) (T:TypeId)|ext|fin
def K.jV:K→Bool
 | .alloc .. =>true
 | _=>false
def K.isFin:K→Bool
 | .fin=>true
 | _=>false
section
variable (P:Program) (ops:Array Oper) (Q:Exit→Act→World→Prop)
def walk (N:Nat):List (K × Nat)→List Nat→Act→World→Prop
 | [],_,a,w=>∀ w',Below w.heap.size w w'→Q .normal a w'
 | (k,i)::is,A,a,w =>
  match ops[i]? with
  | none=>False
  | some o =>
   match k with
   | .pure=>if Region.wanted o (yielded ops a.tmps) then ∃ v,(∀ w',(execOp a.eval o).run P w'= .ok (.value v) w')∧walk N is A (a.put o.dst v) w else walk N is A (a.put o.dst undef) w
   | .read=>if Region.wanted o (yielded ops a.tmps) then ∃ v,(∀ w',Below w.heap.size w w'→(execOp a.eval o).run P w'= .ok (.value v) w')∧walk N is A (a.put o.dst v) w else walk N is A (a.put o.dst undef) w
   | .alloc cs T=>∀ b w',Below w.heap.size w w'→N≤b→b<w'.heap.size→b∉A→w'.heap[b]? =some (.cells cs T (0,0))→walk N is (b::A) (a.put o.dst (.pointer (some ⟨b,0,none⟩))) w'
   | .ext=>if Region.wanted o (yielded ops a.tmps) then ∀ w',Below w.heap.size w w'→o.wp P a w' (fun a' w''=>Below w'.heap.size w' w''∧walk N is A a' w'') Q else walk N is A (a.put o.dst undef) w
   | .fin=>∀ w',Below w.heap.size w w'→wpOps P ops Q (i::is.map (·.2)) a w'
end
section
variable {P:Program} {ops:Array Oper} {Q:Exit→Act→World→Prop}
theorem nH {w w1 w2:World} (h:Below w.heap.size w w1) (k:Below w1.heap.size w1 w2):Below w.heap.size w w2 :=
 h.trans (k.mono h.size)
theorem rH {N:Nat}:∀ (is:List (K × Nat)) (A:List Nat) (a:Act) (w w1:World),Below w.heap.size w w1→walk P ops Q N is A a w→walk P ops Q N is A a w1
 | [],_,_,_,_,hb,h=>fun w' hw'=>h w' (nH hb hw')
 | (k,i)::is,A,a,w,w1,hb,h=>by
  unfold walk at h ⊢;cases ho:ops[i]? with
  | none=>simp only [ho] at h
  | some o =>
   simp only [ho] at h ⊢;cases k with
   | pure =>
    simp only at h ⊢;split at h
    ·rename_i hw;obtain ⟨v,h1,h2⟩:=h;simp only [hw,if_true];exact ⟨v,h1,rH is _ _ _ _ hb h2⟩
    ·rename_i hw;simp only [hw,if_false,Bool.false_eq_true];exact rH is _ _ _ _ hb h
   | read =>
    simp only at h ⊢;split at h
    ·rename_i hw;obtain ⟨v,h1,h2⟩:=h;simp only [hw,if_true];exact ⟨v,fun w' hw'=>h1 w' (nH hb hw'),rH is _ _ _ _ hb h2⟩
    ·rename_i hw;simp only [hw,if_false,Bool.false_eq_true];exact rH is _ _ _ _ hb h
   | alloc cs T=>exact fun b w' hw'=>h b w' (nH hb hw')
   | ext =>
    simp only at h ⊢;split at h
    ·rename_i hw;simp only [hw,if_true];exact fun w' hw'=>h w' (nH hb hw')
    ·rename_i hw;simp only [hw,if_false,Bool.false_eq_true];exact rH is _ _ _ _ hb h
   | fin=>exact fun w' hw'=>h w' (nH hb hw')
/-! ### The check on a region, by computation -/
def anc (ops:Array Oper):Nat→Nat→Nat→Bool
 | 0,_,_=>false
 | n+1,i,u=>match ops[i]? with
  | none=>false
  | some o=>o.after.any (fun e=>Region.binds .any e&&e.on == u) || o.after.any (fun e=>Region.binds .any e&&anc ops n e.on u)
def edge (ops:Array Oper) (i u:Nat):Bool:=match ops[i]? with
 | none=>false
 | some o=>o.after.any (fun e=>Region.binds .any e&&e.on == u)
def fwd (ops:Array Oper) (p q:Nat):Bool:=match ops[p]?, ops[q]? with
 | some x,some y =>
  (match y.dst with|some d=> !(x.looksAt ops).contains d&&x.dst != some d|none=>true) &&
  (match x.dst with|some d=> !(y.looksAt ops).contains d || edge ops q p|none=>true)
 | _,_=>false
def yH (ops:Array Oper) (p:Nat):Bool:=match ops[p]? with
 | some x=>(match x.dst with|some d=> !(x.looksAt ops).contains d|none=>true)
 | none=>false
theorem vJ {s a:Act} {o:Oper} (hs:∀ cs b,o.op≠ .select cs b) (h:∀ t,t∈o.looksAt ops→s.tmps[t]? =a.tmps[t]?):execOp s.eval o=execOp a.eval o :=
 execOp_congr o hs fun x hx=>by
  cases x with
  | tmp t =>
   have:=h t (List.mem_append_left _ (List.mem_filterMap.2 ⟨.tmp t,by simpa using hx,rfl⟩));simp only [Act.eval,Array.getD_eq_getD_getElem?, this]
  | const v=>rfl
  | global g=>rfl
  | func f=>rfl
theorem ru {s a:Act} {o:Oper} (h:∀ t,t∈o.looksAt ops→s.tmps[t]? =a.tmps[t]?):Region.wanted o (yielded ops s.tmps)=Region.wanted o (yielded ops a.tmps):=by
 unfold Region.wanted;cases hg:o.guard with
 | none=>rfl
 | some gw =>
  obtain ⟨g,want⟩:=gw
  have hy:yielded ops s.tmps g=yielded ops a.tmps g:=by
   unfold yielded;cases ht:(ops[g]?).bind (·.dst) with
   | none=>rfl
   | some t =>
    have:=h t (by simp [Oper.looksAt,hg,ht]);simp [this]
  simp only [hy]
theorem Fj {i:Nat} {o:Oper} {s a:Act} {w:World} {K K':Act→World→Prop} (hi:ops[i]? =some o) (hs:∀ cs b,o.op≠ .select cs b)
  (hl:∀ t,t∈o.looksAt ops→s.tmps[t]? =a.tmps[t]?) (hd:s.defers=a.defers)
  (hQ:∀ c (a s:Act) w,s.defers=a.defers→Q (.panic c) a w→Q (.panic c) s w)
  (hK:∀ ds v w',K (({ a with defers:=ds }:Act).put o.dst v) w'→K' (({ s with defers:=ds }:Act).put o.dst v) w')
  (h:wpOp P ops Q i K a w):wpOp P ops Q i K' s w:=by
 have hev:=vJ hs hl;have hw:=ru (ops:=ops) hl
 have hK0:∀ v w',K (a.put o.dst v) w'→K' (s.put o.dst v) w':=fun v w' hk=>by
  have:=hK a.defers v w' hk;rw [← hd] at this;exact this
 unfold wpOp at *;simp only [hi] at *;rw [hw];split
 ·rename_i hwt;simp only [hwt,if_true] at h
  rcases h with h|⟨hasks,hlets⟩
  case inr=>exact .inr ⟨by unfold Oper.asks at*; rw [hev];exact hasks,hlets⟩
  refine .inl ?_;unfold Oper.wp at *;rw [hev];generalize (execOp a.eval o).run P w=r at *;cases r with
  | ok n w' =>
   cases n<;>simp only [Oper.upon] at h ⊢
   case value u=>exact hK0 _ _ h
   case skip=>exact hK0 _ _ h
   case defer d=>rw [hd];exact hK _ _ _ h
   case enter f args =>
    refine Calls.mono h fun e w'' he=>?_;cases e with
    | returned u=>exact hK0 _ _ he
    | panicked c=>exact hQ _ _ _ _ hd he
    | outgrown=>exact he
   case row row args=>exact Rows.mono h fun u w'' he=>hK0 _ _ he
  | halt x w' =>
   cases x<;>simp only [Oper.upon] at h ⊢
   case panic u=>exact hQ _ _ _ _ hd h
 ·rename_i hwt;simp only [hwt,if_false,Bool.false_eq_true] at h;exact hK0 _ _ h
def tL (ops:Array Oper) (i:Nat):Option Tmp:=(ops[i]?).bind (·.dst)
theorem iU {i:Nat} {o:Oper} (h:ops[i]? =some o):tL ops i=o.dst:=by simp [tL,h]
theorem pE {p q:Nat} {x y:Oper} (hx:ops[p]? =some x) (hy:ops[q]? =some y) (h:fwd ops p q=true) :
  (∀ d,y.dst=some d→d∉x.looksAt ops∧x.dst≠some d)∧(∀ d,x.dst=some d→d∈y.looksAt ops→edge ops q p=true):=by
 unfold fwd at h;simp only [hx,hy,Bool.and_eq_true] at h;refine ⟨fun d hd=>?_,fun d hd hm=>?_⟩
 ·have h1:=h.1;simp only [hd,Bool.and_eq_true,Bool.not_eq_true',bne_iff_ne,ne_eq] at h1;exact ⟨by simpa using h1.1,h1.2⟩
 ·have h2:=h.2;simp only [hd,Bool.or_eq_true,Bool.not_eq_true'] at h2
  rcases h2 with h2|h2
  ·simp [hm] at h2
  ·exact h2
theorem xE {q p:Nat} {y:Oper} (hy:ops[q]? =some y) (h:edge ops q p=true):∃ e∈y.after,Region.binds .any e=true∧e.on=p:=by
 unfold edge at h;simp only [hy] at h;obtain ⟨e,he,hb⟩:=Array.any_eq_true'.1 h;simp only [Bool.and_eq_true,beq_iff_eq] at hb;exact ⟨e,he,hb.1,hb.2⟩
def Closed (ops:Array Oper) (listed:Array Bool):Prop:=∀ j o,ops[j]? =some o→listed.getD j false=true→∀ e∈o.after,Region.binds .any e=true→listed.getD e.on false=true
theorem Je {listed:Array Bool} (hc:Closed ops listed):∀ (n i u:Nat),anc ops n i u=true→(∀ o,ops[i]? =some o→∀ e∈o.after,Region.binds .any e=true→listed.getD e.on false=true)→listed.getD u false=true
 | 0,_,_,h,_=>by simp [anc] at h
 | n+1,i,u,h,hr=>by
  unfold anc at h;cases ho:ops[i]? with
  | none=>simp only [ho] at h;cases h
  | some o =>
   simp only [ho,Bool.or_eq_true] at h
   rcases h with h|h
   ·obtain ⟨e,he,hb⟩:=Array.any_eq_true'.1 h;simp only [Bool.and_eq_true,beq_iff_eq] at hb;exact hb.2 ▸ hr o ho e he hb.1
   ·obtain ⟨e,he,hb⟩:=Array.any_eq_true'.1 h;simp only [Bool.and_eq_true] at hb;have hl:=hr o ho e he hb.1;exact Je hc n e.on u hb.2 fun o' ho' e' he' hb'=>hc e.on o' ho' hl e' he' hb'
theorem vM {listed:Array Bool} {r:Nat} {o:Oper} (hc:Closed ops listed) (hr:ops[r]? =some o) (br8:∀ e∈o.after,Region.binds .any e=true→listed.getD e.on false=true) :
  Closed ops (listed.setIfInBounds r true):=by
 intro j oj hj hl e he hb;refine getD_set_true ?_
 by_cases h:r=j
 ·subst h;rw [hr] at hj;cases hj;exact br8 e he hb
 ·rw [getD_set_ne false h] at hl;exact hc j oj hj hl e he hb
def Oi (P:Program) (ops:Array Oper) (u:Bool × Nat) (a:Act) (w:World):Prop :=
 ∃ o,ops[u.2]? =some o∧∃ v,(∀ d,o.dst=some d→d<a.tmps.size→a.tmps[d]? =some v) ∧
  ((Region.wanted o (yielded ops a.tmps)=true∧∀ w',(u.1=false→Below w.heap.size w w')→(execOp a.eval o).run P w'= .ok (.value v) w') ∨
   (Region.wanted o (yielded ops a.tmps)=false∧v=undef))
theorem oU (a:Act) {x:Option Tmp} {t:Tmp} (v:Value) (h:x≠some t):(a.put x v).tmps[t]? =a.tmps[t]? :=by
 cases x with
 | none=>rfl
 | some d =>
  have:d≠t:=fun e=>h (by rw [e]);simp [Act.put,Array.getElem?_setIfInBounds_ne this]
theorem put_eq (a:Act) {t:Tmp} (v:Value) (h:t<a.tmps.size):(a.put (some t) v).tmps[t]? =some v:=by
 simp [Act.put,h]
theorem je (a:Act) (x:Option Tmp) (v:Value):(a.put x v).tmps.size=a.tmps.size:=by
 cases x<;>simp [Act.put]
theorem ou (a:Act) (x:Option Tmp) (v:Value):(a.put x v).defers=a.defers:=by cases x<;>rfl
theorem Oi.put {u:Bool × Nat} {a:Act} {w:World} (hs:Region.noSelect ops=true) (h:Oi P ops u a w) {x:Option Tmp} (v:Value)
  (hx:∀ o,ops[u.2]? =some o→∀ d,x=some d→d∉o.looksAt ops∧o.dst≠some d):Oi P ops u (a.put x v) w:=by
 obtain ⟨o,ho,v',h1,h2⟩:=h;have hl:∀ t,t∈o.looksAt ops→(a.put x v).tmps[t]? =a.tmps[t]? :=fun t ht=>oU a v fun e=>(hx o ho t e).1 ht;have hsel:=fun cs b=>Region.noSelect_spec hs u.2 o cs b ho;refine ⟨o,ho,v',fun d hd hlt=>?_,?_⟩
 ·rw [oU a v fun e=>(hx o ho d e).2 hd];exact h1 d hd (by rwa [je] at hlt)
 ·rw [ru hl,vJ hsel hl];exact h2
theorem Oi.later {u:Bool × Nat} {a:Act} {w w1:World} (h:Oi P ops u a w) (hb:u.1=false→Below w.heap.size w w1):Oi P ops u a w1:=by
 obtain ⟨o,ho,v',h1,h2⟩:=h;exact ⟨o,ho,v',h1,h2.imp (fun ⟨x,y⟩=>⟨x,fun w' hw'=>y w' fun hu=>nH (hb hu) (hw' hu)⟩) id⟩
def compat (ops:Array Oper) (x y:Nat):Prop :=
 (∀ d,tL ops x=some d→tL ops y≠some d)∧(∀ d o,tL ops x=some d→ops[y]? =some o→d∈o.looksAt ops→edge ops y x=true)
theorem mF {p q:Nat} (h:fwd ops p q=true):compat ops p q∧compat ops q p:=by
 unfold fwd at h;cases hx:ops[p]? with
 | none=>simp [hx] at h
 | some x =>
  cases hy:ops[q]? with
  | none=>simp [hx,hy] at h
  | some y =>
   have hf:fwd ops p q=true:=by unfold fwd;simpa [hx,hy] using h
   obtain ⟨h1,h2⟩:=pE hx hy hf;refine ⟨⟨fun d hd hd'=>?_,fun d o hd ho hm=>?_⟩,⟨fun d hd hd'=>?_,fun d o hd ho hm=>?_⟩⟩
   ·rw [iU hx] at hd;rw [iU hy] at hd';exact (h1 d hd').2 hd
   ·rw [hy] at ho;cases ho;rw [iU hx] at hd;exact h2 d hd hm
   ·rw [iU hy] at hd;rw [iU hx] at hd';exact (h1 d hd).2 hd'
   ·rw [hx] at ho;cases ho;rw [iU hy] at hd;exact absurd hm (h1 d hd).1
structure Inv (P:Program) (ops:Array Oper) (L:List Nat) (U:List (Bool × Nat)) (E:List (Nat × Nat)) (listed:Array Bool) (s a:Act) (w:World):Prop where
 size:listed.size=ops.size
 Me:∀ i,i<ops.size→(listed.getD i true=false↔(i∈L∧i∉E.map (·.1))∨i∈U.map (·.2))
 closed:Closed ops listed
 defers:s.defers=a.defers
 UY:s.tmps.size=a.tmps.size
 agree:∀ t,(∀ u∈U,tL ops u.2≠some t)→(∀ p∈E,tL ops p.1≠some t)→s.tmps[t]? =a.tmps[t]?
 pend:∀ u∈U,Oi P ops u a w
 Ga:∀ u∈U,yH ops u.2=true
 uu:∀ u∈U,∀ v∈U,u.2≠v.2→compat ops u.2 v.2
 ue:∀ u∈U,∀ p∈E,fwd ops u.2 p.1=true
theorem jm {listed:Array Bool} {r:Nat} (hr:r∈Region.ready .any ops listed):∃ o,ops[r]? =some o∧listed.getD r true=false∧∀ e∈o.after,Region.binds .any e=true→listed.getD e.on false=true:=by
 obtain ⟨h0,o,ho,h⟩:=mem_ready.1 hr;exact ⟨o,ho,h0,h⟩
theorem getD_both {listed:Array Bool} {i:Nat} (h:listed.getD i true=false):listed.getD i false=false:=by
 rcases Nat.lt_or_ge i listed.size with h'|h'
 ·simpa [h'] using h
 ·simp [Array.getElem?_eq_none h'] at h
theorem rF {listed:Array Bool} {r i:Nat} (hi:i<listed.size):(listed.setIfInBounds r true).getD i true=false↔listed.getD i true=false∧i≠r:=by
 by_cases h:r=i
 ·subst h;simp [hi]
 ·rw [getD_set_ne true h];exact ⟨fun x=>⟨x,fun e=>h e.symm⟩,fun x=>x.1⟩
theorem Cv {L:List Nat} {U:List (Bool × Nat)} {E:List (Nat × Nat)} {listed:Array Bool} {s a:Act} {w:World} (hs:Region.noSelect ops=true) (I:Inv P ops L U E listed s a w) {r:Nat}
  (hr:r∈Region.ready .any ops listed) (hU:r∈U.map (·.2)) {K:Act→World→Prop}
  (hL:r∉L∨r∈E.map (·.1))
  (hK:∀ v,Inv P ops L (U.filter (fun u=>u.2 != r)) E (listed.setIfInBounds r true) (s.put (tL ops r) v) a w→K (s.put (tL ops r) v) w):wpOp P ops Q r K s w:=by
 obtain ⟨u,hu,rfl⟩:=List.mem_map.1 hU;obtain ⟨o,ho,hun,hall⟩:=jm hr;obtain ⟨o',ho',v,hv,hrun⟩:=I.pend u hu;rw [ho] at ho';cases ho';have hsel:=fun cs b=>Region.noSelect_spec hs u.2 o cs b ho;have hself:=I.Ga u hu
 have Ll:∀ t,t∈o.looksAt ops→s.tmps[t]? =a.tmps[t]? :=fun t ht=>by
  refine I.agree t (fun u' hu' hd=>?_) (fun p hp hd=>?_)
  ·by_cases he:u'.2=u.2
   ·rw [he,iU ho] at hd;unfold yH at hself;simp only [ho,hd] at hself;simp [ht] at hself
   ·have hc:=(I.uu u' hu' u hu he).2 t o hd ho ht;obtain ⟨e,he1,he2,he3⟩:=xE ho hc;have hl:=hall e he1 he2;rw [he3] at hl
    have hlt:u'.2<ops.size:=by
     obtain ⟨o2,h2,_⟩:=I.pend u' hu';exact (Array.getElem?_eq_some_iff.1 h2).1
    have:=(I.Me u'.2 hlt).2 (.inr (List.mem_map.2 ⟨u',hu',rfl⟩));rw [getD_both this] at hl;cases hl
  ·have hf:=I.ue u hu p hp;cases hy:ops[p.1]? with
   | none=>simp [tL,hy] at hd
   | some y=>exact ((pE ho hy hf).1 t (by rw [iU hy] at hd;exact hd)).1 ht
 have hev:=vJ hsel Ll;have hwt:=ru (ops:=ops) Ll
 have hI:Inv P ops L (U.filter (fun x=>x.2 != u.2)) E (listed.setIfInBounds u.2 true) (s.put o.dst v) a w:=by
  refine ⟨by simpa using I.size,fun i hi=>?_,vM I.closed ho hall,by rw [ou];exact I.defers,by rw [je];exact I.UY,fun t h1 h2=>?_,fun x hx=>I.pend x (List.mem_filter.1 hx).1,
   fun x hx=>I.Ga x (List.mem_filter.1 hx).1,fun x hx y hy hne=>I.uu x (List.mem_filter.1 hx).1 y ((List.mem_filter.1 hy).1) hne,fun x hx p hp=>I.ue x (List.mem_filter.1 hx).1 p hp⟩
  ·rw [rF (by rw [I.size];exact hi),I.Me i hi]
   constructor
   ·rintro ⟨h|h,hne⟩
    ·exact .inl h
    ·obtain ⟨x,hx,rfl⟩:=List.mem_map.1 h;exact .inr (List.mem_map.2 ⟨x,List.mem_filter.2 ⟨hx,by simpa using hne⟩,rfl⟩)
   ·rintro (h|h)
    ·refine ⟨.inl h,?_⟩;rintro rfl
     rcases hL with hL|hL
     ·exact hL h.1
     ·exact h.2 hL
    ·obtain ⟨x,hx,rfl⟩:=List.mem_map.1 h;obtain ⟨hx1,hx2⟩:=List.mem_filter.1 hx;exact ⟨.inr (List.mem_map.2 ⟨x,hx1,rfl⟩),by simpa using hx2⟩
  ·by_cases hd:o.dst=some t
   ·by_cases hlt:t<a.tmps.size
    ·rw [hd,put_eq _ _ (by rw [I.UY];exact hlt),hv t hd hlt]
    ·rw [Array.getElem?_eq_none (by rw [je,I.UY];exact Nat.le_of_not_lt hlt),Array.getElem?_eq_none (Nat.le_of_not_lt hlt)]
   ·rw [oU _ _ hd];refine I.agree t (fun x hx=>?_) h2
    by_cases he:x.2=u.2
    ·rw [he,iU ho];exact hd
    ·exact h1 x (List.mem_filter.2 ⟨hx,by simpa using he⟩)
 rw [iU ho] at hK;have hKv:=hK _ hI;unfold wpOp;simp only [ho];rw [hwt]
 rcases hrun with ⟨hw1,hw2⟩|⟨hw1,rfl⟩
 ·simp only [hw1,if_true];refine .inl ?_;unfold Oper.wp;rw [hev,hw2 w fun _=>Below.refl _ _];exact hKv
 ·simp only [hw1,Bool.false_eq_true,if_false];exact hKv
def ordered (ops:Array Oper):Bool:=(List.range ops.size).all fun i=>match ops[i]? with
 | some o=>o.after.all (fun e=> !Region.binds .any e || e.on<i)
 | none=>true
theorem Uk {listed:Array Bool} (ho:ordered ops=true) (hsz:listed.size=ops.size) (hr:Region.ready .any ops listed=[]):∀ i,i<ops.size→listed.getD i true=true:=by
 intro i
 induction i using Nat.strongRecOn with
 | _ i ih =>
  intro hi;cases hl:listed.getD i true with
  | true=>rfl
  | false =>
   exfalso
   have ho':ops[i]? =some ops[i]:=by simp [hi]
   have hmem:i∈Region.ready .any ops listed:=mem_ready.2 ⟨hl,ops[i],ho',fun e he hb=>by
    unfold ordered at ho;have h1:=List.all_eq_true.1 ho i (List.mem_range.2 hi);simp only [ho'] at h1;have h2:=Array.all_eq_true_iff_forall_mem.1 h1 e he;simp only [hb,Bool.not_true,Bool.false_or,decide_eq_true_eq] at h2;have h3:=ih e.on h2 zo;have:e.on<listed.size:=by omega
    simpa [this] using h3⟩
   rw [hr] at hmem;cases hmem
def Led (ops:Array Oper):Prop:=∀ (listed:Array Bool),listed.size=ops.size→Region.ready .any ops listed=[]→∀ i,i<ops.size→listed.getD i true=true
theorem aB2 (ho:ordered ops=true):Led ops:=fun _ hsz hr=>Uk ho hsz hr
theorem Wv {s a:Act} (hd:s.defers=a.defers) (h:∀ t:Nat,s.tmps[t]? =a.tmps[t]?):s=a:=by
 obtain ⟨t,d⟩:=s;obtain ⟨t',d'⟩:=a;simp only at hd h;rw [hd,Array.ext_getElem? h]
def K.isPure:K→Bool
 | .pure=>true
 | _=>false
def oV (ops:Array Oper) (x q:K × Nat):Bool:=if q.1.isFin then (anc ops ops.size q.2 x.2 || (x.1.isPure&&fwd ops x.2 q.2)) else fwd ops x.2 q.2
def blocked (ops:Array Oper) (i:Nat) (is:List (K × Nat)) (q:K × Nat):Bool:=q.1.jV || edge ops q.2 i || is.any (fun r=> !r.1.jV&&edge ops q.2 r.2)
def kW (ops:Array Oper):List (K × Nat)→Bool
 | []=>true
 | (k,i)::is=>(match k with
  | .pure| .read=>yH ops i&&is.all (oV ops (k,i))
  | .alloc .. =>is.all (oV ops (k,i))&&is.all (blocked ops i is)
  | .ext=>is.all (oV ops (k,i))&&is.all (blocked ops i is)
  | .fin=>is.all (·.1.isFin)&&is.all (blocked ops i is))&&(ops[i]?).isSome&&kW ops is
def check (ops:Array Oper) (is:List (K × Nat)):Bool :=
 Region.noSelect ops&&ordered ops&&kW ops is&&decide (is.map (·.2)).Nodup&&decide (is.length≤ops.size)&&(List.range ops.size).all (fun i=>(is.map (·.2)).contains i)
theorem jB {listed:Array Bool} {q r:Nat} (hr:q∈Region.ready .any ops listed) (he:edge ops q r=true) (hun:listed.getD r true=false):False:=by
 obtain ⟨o,ho,_,hall⟩:=jm hr;obtain ⟨e,h1,h2,h3⟩:=xE ho he;have:=hall e h1 h2;rw [h3,getD_both hun] at this;cases this
theorem zJ {listed:Array Bool} {q:Nat} (hr:q∈Region.ready .any ops listed):q<ops.size:=by
 obtain ⟨o,ho,_⟩:=jm hr;exact (Array.getElem?_eq_some_iff.1 ho).1
theorem KU (hs:Region.noSelect ops=true) (ab9:Led ops)
  (hQ:∀ c (a s:Act) w,s.defers=a.defers→Q (.panic c) a w→Q (.panic c) s w) :
  ∀ (fuel:Nat) (is:List (K × Nat)) (U:List (Bool × Nat)) (listed:Array Bool) (s a:Act) (w:World),
   is.length+U.length≤fuel→Inv P ops (is.map (·.2)) U [] listed s a w→kW ops is=true→is.all (·.1.isFin)=true→(is.map (·.2)).Nodup →
   (∀ u∈U,u.2∉is.map (·.2))→(∀ u∈U,∀ q∈is,oV ops (if u.1 then .pure else .read,u.2) q=true) →
   wpOps P ops Q (is.map (·.2)) a w→wpAny P .any ops Q fuel listed s w:=by
 intro fuel
 induction fuel with
 | zero =>
  intro is U listed s a w hm I hok hfin hnd xP hpr h;have h1:is=[]:=List.length_eq_zero_iff.1 zo;have h2:U=[]:=List.length_eq_zero_iff.1 zo;subst h1 h2;have hsa:s=a:=Wv I.defers fun t=>I.agree t zi zi;refine ⟨?_,by rw [hsa];simpa [wpOps] using h⟩;cases hr:Region.ready .any ops listed with
  | nil=>rfl
  | cons r rs =>
   have hm:r∈Region.ready .any ops listed:=by rw [hr];simp
   have:=(I.Me r (zJ hm)).1 (jm hm).choose_spec.2.1;simp at this
 | succ fuel ih =>
  intro is U listed s a w hm I hok hfin hnd xP hpr h;refine ⟨fun hr=>?_,fun r hr=>?_⟩
  ·have hall:=ab9 _ I.size hr
   have h1:is=[]:=by
    cases is with
    | nil=>rfl
    | cons x xs =>
     unfold kW at hok;simp only [Bool.and_eq_true] at hok
     have hlt:x.2<ops.size:=by
      have:=hok.1.2;cases hx:ops[x.2]? with
      | none=>simp [hx] at this
      | some o=>exact (Array.getElem?_eq_some_iff.1 hx).1
     have:=(I.Me x.2 hlt).2 (.inl ⟨by simp,by simp⟩);rw [hall x.2 hlt] at this;cases this
   have h2:U=[]:=by
    cases U with
    | nil=>rfl
    | cons x xs =>
     obtain ⟨o,ho,_⟩:=I.pend x zi;have hlt:=(Array.getElem?_eq_some_iff.1 ho).1;have:=(I.Me x.2 hlt).2 (.inr zi);rw [hall x.2 hlt] at this;cases this
   subst h1 h2;have hsa:s=a:=Wv I.defers fun t=>I.agree t zi zi;rw [hsa];simpa [wpOps] using h
  ·obtain ⟨o,ho,hun,ab8⟩:=jm hr
   rcases (I.Me r (zJ hr)).1 hun with ⟨hL,_⟩|hU
   ·cases is with
    | nil=>simp at hL
    | cons x xs =>
     have hxi:r=x.2:=by
      simp only [List.map_cons,List.mem_cons] at hL
      rcases hL with hL|hL
      ·exact hL
      ·exfalso
       obtain ⟨q,hq,rfl⟩:=List.mem_map.1 hL;unfold kW at hok;simp only [List.all_cons,Bool.and_eq_true] at hfin;have hk:x.1= .fin:=by cases hk:x.1<;>simp [K.isFin,hk] at hfin ⊢
       obtain ⟨k,i⟩:=x;simp only at hk;subst hk;simp only [Bool.and_eq_true] at hok;have hb:=List.all_eq_true.1 hok.1.1.2 q hq;unfold blocked at hb;have hqf:=List.all_eq_true.1 hfin.2 q hq;have hqa:q.1.jV=false:=by cases hk:q.1<;>simp [K.isFin,K.jV,hk] at hqf ⊢
       simp only [hqa,Bool.false_or,Bool.or_eq_true] at hb
       rcases hb with hb|hb
       ·refine jB hr hb ((I.Me i ?_).2 (.inl ⟨by simp,by simp⟩));have:=hok.1.2;cases hx:ops[i]? with
        | none=>simp [hx] at this
        | some o=>exact (Array.getElem?_eq_some_iff.1 hx).1
       ·obtain ⟨y,hy,hy2⟩:=List.any_eq_true.1 hb;simp only [Bool.and_eq_true] at hy2;obtain ⟨e,he1,he2,he3⟩:=xE ho hy2.2
        by_cases hlt:y.2<ops.size
        ·exact jB hr hy2.2 ((I.Me y.2 hlt).2 (.inl ⟨by simp;exact .inr ⟨y.1,hy⟩,by simp⟩))
        ·have:=ab8 e he1 he2;rw [he3] at this;simp [I.size,Nat.le_of_not_lt hlt] at this
     subst hxi
     have hpure:∀ u∈U,u.1=true∧fwd ops u.2 x.2=true:=fun u hu=>by
      have hp:=hpr u hu x zi;have hxf:x.1.isFin=true:=by simp only [List.all_cons,Bool.and_eq_true] at hfin;exact hfin.1
      unfold oV at hp;simp only [hxf,if_true,Bool.or_eq_true,Bool.and_eq_true] at hp
      rcases hp with hp|hp
      ·exfalso
       have hl:=Je I.closed _ _ _ hp fun o' ho'=>by rw [ho] at ho';cases ho';exact ab8
       obtain ⟨o2,h2,_⟩:=I.pend u hu;have:=(I.Me u.2 (Array.getElem?_eq_some_iff.1 h2).1).2 (.inr (List.mem_map.2 ⟨u,hu,rfl⟩));rw [getD_both this] at hl;cases hl
      ·refine ⟨?_,hp.2⟩;cases hu1:u.1<;>simp [hu1,K.isPure] at hp ⊢
     have Ll:∀ t,t∈o.looksAt ops→s.tmps[t]? =a.tmps[t]? :=fun t ht=>by
      refine I.agree t (fun u hu hd=>?_) zi;have hf:=(hpure u hu).2;cases hx:ops[u.2]? with
      | none=>simp [tL,hx] at hd
      | some y =>
       have he:=(pE hx ho hf).2 t (by rw [iU hx] at hd;exact hd) ht;exact jB hr he ((I.Me u.2 (Array.getElem?_eq_some_iff.1 hx).1).2 (.inr (List.mem_map.2 ⟨u,hu,rfl⟩)))
     simp only [List.map_cons] at h;rw [wpOps_cons] at h;refine Fj ho (fun cs b=>Region.noSelect_spec hs x.2 o cs b ho) Ll I.defers hQ (fun ds v w' hk=>?_) h;have hxf:x.1.isFin=true:=by simp only [List.all_cons,Bool.and_eq_true] at hfin;exact hfin.1
     refine ih xs U (listed.setIfInBounds x.2 true) _ ({ a with defers:=ds }.put o.dst v) w' (by simp at hm;omega) ?_ (by unfold kW at hok;simp only [Bool.and_eq_true] at hok;exact hok.2) (by simp only [List.all_cons,Bool.and_eq_true] at hfin;exact hfin.2) (by simp at hnd;simpa using hnd.2)
      (fun u hu hm=>xP u hu (by simp only [List.map_cons,List.mem_cons];exact .inr hm)) (fun u hu q hq=>hpr u hu q (by simp [hq])) hk
     refine ⟨by simpa using I.size,fun i hi=>?_,vM I.closed ho ab8,by simp [ou],by rw [je,je];exact I.UY,fun t h1 h2=>?_,fun u hu=>?_,I.Ga,I.uu,by simp⟩
     ·rw [rF (by rw [I.size];exact hi),I.Me i hi];simp only [List.map_cons,List.mem_cons,List.map_nil,List.not_mem_nil,not_false_eq_true,and_true];have hnd':x.2∉xs.map (·.2):=by rw [List.map_cons,List.nodup_cons] at hnd;exact hnd.1
      constructor
      ·rintro ⟨(h|h)|h,hne⟩
       ·exact absurd h hne
       ·exact .inl h
       ·exact .inr h
      ·rintro (h|h)
       ·exact ⟨.inl (.inr h),fun e=>hnd' (by rw [← e];exact h)⟩
       ·obtain ⟨u,hu,rfl⟩:=List.mem_map.1 h;exact ⟨.inr h,fun e=>xP u hu (by simp [e])⟩
     ·by_cases hd:o.dst=some t
      ·by_cases hlt:t<a.tmps.size
       ·rw [hd,put_eq _ _ (by exact Nat.lt_of_lt_of_eq hlt I.UY.symm),put_eq _ _ (by exact hlt)]
       ·rw [Array.getElem?_eq_none (by rw [je];exact I.UY ▸ Nat.le_of_not_lt hlt),Array.getElem?_eq_none (by rw [je];exact Nat.le_of_not_lt hlt)]
      ·rw [oU _ _ hd,oU _ _ hd];exact I.agree t h1 zi
     ·have hf:=(hpure u hu).2;have h3:Oi P ops u { a with defers:=ds } w:=I.pend u hu
      exact (h3.put hs v fun o' ho' d hd=>(pE ho' ho hf).1 d hd).later fun hu1=>by rw [(hpure u hu).1] at hu1;cases hu1
   ·obtain ⟨u,hu,rfl⟩:=List.mem_map.1 hU;refine Cv hs I hr hU (.inl (xP u hu)) fun v' I'=>?_;refine ih is _ _ _ a w ?_ I' hok hfin hnd (fun x hx=>xP x (List.mem_filter.1 hx).1) (fun x hx=>hpr x (List.mem_filter.1 hx).1) h;have:(U.filter (fun x=>x.2 != u.2)).length<U.length:=List.length_filter_lt_length_iff_exists.2 ⟨u,hu,by simp⟩;omega
def Cm (P:Program) (ops:Array Oper) (is:List (K × Nat)):Prop :=
 ∀ cs T j,(K.alloc cs T,j)∈is→∀ o,ops[j]? =some o→o.guard=none∧∀ ρ w,(execOp ρ o).run P w= .ok (.value (.pointer (some ⟨w.heap.size,0,none⟩))) (w.alloc (.cells cs T (0,0)))
structure Early (ops:Array Oper) (N:Nat) (is:List (K × Nat)) (A:List Nat) (E:List (Nat × Nat)) (s a:Act) (w:World):Prop where
 good:∀ p∈E,∃ cs T,(K.alloc cs T,p.1)∈is∧w.heap[p.2]? =some (.cells cs T (0,0))∧N≤p.2∧p.2<w.heap.size∧p.2∉A
 dist:∀ p∈E,∀ q∈E,p.1≠q.1→p.2≠q.2
 slot:∀ p∈E,∀ d,tL ops p.1=some d→d<a.tmps.size→s.tmps[d]? =some (.pointer (some ⟨p.2,0,none⟩))
 old:∀ x∈A,x<w.heap.size
 base:N≤w.heap.size
def iA (is:List (K × Nat)) (E:List (Nat × Nat)):Nat:=(is.filter (fun x=> !(E.map (·.1)).contains x.2)).length
theorem yt (is:List (K × Nat)):iA is []=is.length:=by
 unfold iA;rw [List.filter_eq_self.2 zi]
theorem xX:∀ (is:List (K × Nat)),kW ops is=true→∀ x∈is,∀ y∈is,x.1.jV=true→y.1.jV=true→x.2≠y.2→compat ops x.2 y.2
 | [],_,_,hx,_,_,_,_,_=>by cases hx
 | (k,i)::is,h,x,hx,y,hy,hxa,hya,hne=>by
  unfold kW at h;have hrest:kW ops is=true:=by simp only [Bool.and_eq_true] at h;exact h.2
  have key:∀ y∈is,k.jV=true→y.1.jV=true→fwd ops i y.2=true:=fun y hy hk hya=>by
   have hp:is.all (oV ops (k,i))=true:=by
    cases k<;>simp [K.jV] at hk
    simp only [Bool.and_eq_true] at h;exact h.1.1.1
   have h2:=List.all_eq_true.1 hp y hy;unfold oV at h2;have hf:y.1.isFin=false:=by cases hk:y.1<;>simp [K.jV,K.isFin,hk] at hya ⊢
   simpa [hf] using h2
  rcases List.mem_cons.1 hx with hx|hx<;>rcases List.mem_cons.1 hy with hy|hy
  ·subst hx hy;exact absurd rfl hne
  ·subst hx;exact (mF (key y hy hxa hya)).1
  ·subst hy;exact (mF (key x hx hya hxa)).2
  ·exact xX is hrest x hx y hy hxa hya hne
theorem Sk (hs:Region.noSelect ops=true) (ab9:Led ops)
  (hQ:∀ c (a s:Act) w,s.defers=a.defers→Q (.panic c) a w→Q (.panic c) s w) (N:Nat) :
  ∀ (fuel:Nat) (is:List (K × Nat)) (A:List Nat) (U:List (Bool × Nat)) (E:List (Nat × Nat)) (listed:Array Bool) (s a:Act) (w:World),
   iA is E+U.length≤fuel→Inv P ops (is.map (·.2)) U E listed s a w→kW ops is=true→(is.map (·.2)).Nodup →
   (∀ u∈U,u.2∉is.map (·.2))→(∀ u∈U,∀ q∈is,oV ops (if u.1 then .pure else .read,u.2) q=true) →
   Cm P ops is→Early ops N is A E s a w →
   walk P ops Q N is A a w→wpAny P .any ops Q fuel listed s w:=by
 intro fuel
 induction fuel using Nat.strongRecOn with
 | _ fuel ihf =>
 intro is
 induction is with
 | nil =>
  intro A U E listed s a w hm I hok hnd xP hpr hal he h
  have hE:E=[]:=by
   cases E with
   | nil=>rfl
   | cons p ps=>obtain ⟨cs,T,hmem,_⟩:=he.good p zi;cases hmem
  subst hE;exact KU hs ab9 hQ fuel [] U listed s a w (by simp [iA] at hm;simpa using hm) I rfl rfl zi zi zi (by simp only [List.map_nil,wpOps];exact h w (Below.refl _ _))
 | cons x xs ihl =>
  intro A U E listed s a w hm I hok hnd xP hpr hal he h;obtain ⟨k,i⟩:=x;have hrest:kW ops xs=true:=by unfold kW at hok;simp only [Bool.and_eq_true] at hok;exact hok.2
  obtain ⟨o,ho⟩:∃ o,ops[i]? =some o:=by
   unfold kW at hok;simp only [Bool.and_eq_true] at hok;exact Option.isSome_iff_exists.1 hok.1.2
  have hilt:i<ops.size:=(Array.getElem?_eq_some_iff.1 ho).1;have Nk:i∉xs.map (·.2)∧(xs.map (·.2)).Nodup:=by simpa only [List.map_cons,List.nodup_cons] using hnd
  have hpx:k.isFin=false→∀ q∈xs,oV ops (k,i) q=true:=fun hk=>by
   unfold kW at hok;cases k<;>simp [K.isFin] at hk<;>simp only [Bool.and_eq_true] at hok
   ·exact fun q hq=>List.all_eq_true.1 hok.1.1.2 q hq
   ·exact fun q hq=>List.all_eq_true.1 hok.1.1.2 q hq
   ·exact fun q hq=>List.all_eq_true.1 hok.1.1.1 q hq
   ·exact fun q hq=>List.all_eq_true.1 hok.1.1.1 q hq
  have hUf:k.isFin=false→∀ u∈U,fwd ops u.2 i=true:=fun hk u hu=>by
   have:=hpr u hu (k,i) zi;unfold oV at this
   simpa [hk] using this
  have advance:∀ (b:Bool) (v:Value),k.isFin=false→k.jV=false→k.isPure=b→yH ops i=true→i∉E.map (·.1) →
    ((Region.wanted o (yielded ops a.tmps)=true∧∀ w',(b=false→Below w.heap.size w w')→(execOp a.eval o).run P w'= .ok (.value v) w')∨(Region.wanted o (yielded ops a.tmps)=false∧v=undef)) →
    (k= .pure∨k= .read)→walk P ops Q N xs A (a.put o.dst v) w→wpAny P .any ops Q fuel listed s w:=fun b v hkf hka hkb hself Nl hrun hkk hw=>by
   have hxl:∀ d,o.dst=some d→d∉o.looksAt ops:=fun d hd hm=>by unfold yH at hself;simp only [ho,hd] at hself;simp [hm] at hself
   have hl:∀ t,t∈o.looksAt ops→(a.put o.dst v).tmps[t]? =a.tmps[t]? :=fun t ht=>oU a v fun e=>hxl t e ht;refine ihl A ((b,i)::U) E listed s (a.put o.dst v) w ?_ ?_ hrest Nk.2 ?_ ?_ (fun cs T j hj=>hal cs T j (by simp [hj])) ?_ hw
   ·have:iA ((k,i)::xs) E=iA xs E+1:=by
     unfold iA;rw [List.filter_cons_of_pos (by simpa using Nl)];rfl
    simp only [List.length_cons];omega
   ·refine ⟨I.size,fun j hj=>?_,I.closed,by rw [ou];exact I.defers,by rw [je];exact I.UY,fun t h1 h2=>?_,fun u hu=>?_,fun u hu=>?_,fun u hu v' hv hne=>?_,fun u hu p hp=>?_⟩
    ·rw [I.Me j hj];simp only [List.map_cons,List.mem_cons]
     constructor
     ·rintro (⟨h|h,h2⟩|h)
      ·exact .inr (.inl h)
      ·exact .inl ⟨h,h2⟩
      ·exact .inr (.inr h)
     ·rintro (⟨h,h2⟩|h|h)
      ·exact .inl ⟨.inr h,h2⟩
      ·exact .inl ⟨.inl h,by rw [h];exact Nl⟩
      ·exact .inr h
    ·have hd:o.dst≠some t:=by have:=h1 (b,i) zi;rwa [iU ho] at this
     rw [oU _ _ hd];exact I.agree t (fun u hu=>h1 u (by simp [hu])) h2
    ·rcases List.mem_cons.1 hu with hu|hu
     ·subst hu;refine ⟨o,ho,v,fun d hd hlt=>?_,?_⟩
      ·rw [hd];exact put_eq _ _ (by rwa [je] at hlt)
      ·rw [ru hl,vJ (fun cs b=>Region.noSelect_spec hs i o cs b ho) hl];exact hrun
     ·exact (I.pend u hu).put hs v fun o' ho' d hd=>(pE ho' ho (hUf hkf u hu)).1 d hd
    ·rcases List.mem_cons.1 hu with hu|hu
     ·subst hu;exact hself
     ·exact I.Ga u hu
    ·rcases List.mem_cons.1 hu with hu|hu<;>rcases List.mem_cons.1 hv with hv|hv
     ·subst hu hv;exact absurd rfl hne
     ·subst hu;exact (mF (hUf hkf v' hv)).2
     ·subst hv;exact (mF (hUf hkf u hu)).1
     ·exact I.uu u hu v' hv hne
    ·rcases List.mem_cons.1 hu with hu|hu
     ·subst hu;obtain ⟨cs,T,hmem,_⟩:=he.good p hp
      rcases List.mem_cons.1 hmem with hmem|hmem
      ·cases hmem;simp [K.jV] at hka
      ·have:=hpx hkf _ hmem;unfold oV at this
       simpa [K.isFin] using this
     ·exact I.ue u hu p hp
   ·intro u hu
    rcases List.mem_cons.1 hu with hu|hu
    ·subst hu;exact Nk.1
    ·intro hm;exact xP u hu (by simp only [List.map_cons,List.mem_cons];exact .inr hm)
   ·intro u hu q hq
    rcases List.mem_cons.1 hu with hu|hu
    ·subst hu;have:=hpx hkf q hq
     rcases hkk with rfl|rfl<;>simp [K.isPure] at hkb<;>subst hkb<;>simpa using this
    ·exact hpr u hu q (by simp [hq])
   ·refine ⟨fun p hp=>?_,he.dist,fun p hp d hd hlt=>he.slot p hp d hd (by rwa [je] at hlt),he.old,he.base⟩;obtain ⟨cs,T,hmem,hg⟩:=he.good p hp;refine ⟨cs,T,?_,hg⟩
    rcases List.mem_cons.1 hmem with hmem|hmem
    ·cases hmem;simp [K.jV] at hka
    ·exact hmem
  have early:∀ (cs:Array Value) (T:TypeId) (r:Nat),(K.alloc cs T,r)∈(k,i)::xs→r∈Region.ready .any ops listed→r∉E.map (·.1)→∀ f,f<fuel→iA ((k,i)::xs) E+U.length≤f+1 →
    wpOp P ops Q r (wpAny P .any ops Q f (listed.setIfInBounds r true)) s w:=fun cs T r hmem hr hrE f hf hmf=>by
   obtain ⟨y,hy,aB9,PY⟩:=jm hr;obtain ⟨hg,hrun⟩:=hal cs T r hmem y hy;have bN8:=zJ hr;have hb:Below w.heap.size w (w.alloc (.cells cs T (0,0))):=(Below.refl _ _).alloc (Nat.le_refl _) _;have hsz:(w.alloc (.cells cs T (0,0))).heap.size=w.heap.size+1:=by simp
   have bc7:r∈((k,i)::xs).map (·.2):=List.mem_map.2 ⟨_,hmem,rfl⟩
   have key:wpAny P .any ops Q f (listed.setIfInBounds r true) (s.put y.dst (.pointer (some ⟨w.heap.size,0,none⟩))) (w.alloc (.cells cs T (0,0))):=by
    refine ihf f hf ((k,i)::xs) A U ((r,w.heap.size)::E) _ _ a _ ?_ ?_ hok hnd xP hpr hal ?_ (rH _ _ _ _ _ hb h)
    ·have hlt:iA ((k,i)::xs) ((r,w.heap.size)::E)<iA ((k,i)::xs) E:=by
      unfold iA
      have e:((k,i)::xs).filter (fun x=> !(((r,w.heap.size)::E).map (·.1)).contains x.2)=(((k,i)::xs).filter (fun x=> !(E.map (·.1)).contains x.2)).filter (fun x=>x.2 != r):=by
       rw [List.filter_filter]
       congr 1
       funext x
       simp only [List.map_cons,List.contains_cons,Bool.not_or];rfl
      rw [e];exact List.length_filter_lt_length_iff_exists.2 ⟨_,List.mem_filter.2 ⟨hmem,by simpa using hrE⟩,by simp⟩
     omega
    ·refine ⟨by simpa using I.size,fun j hj=>?_,vM I.closed hy PY,by rw [ou];exact I.defers,by rw [je];exact I.UY,fun t h1 h2=>?_,fun u hu=>(I.pend u hu).later fun _=>hb,I.Ga,I.uu,fun u hu p hp=>?_⟩
     ·rw [rF (by rw [I.size];exact hj),I.Me j hj];simp only [List.map_cons,List.mem_cons,not_or]
      constructor
      ·rintro ⟨⟨h,h2⟩|h,hne⟩
       ·exact .inl ⟨h,hne,h2⟩
       ·exact .inr h
      ·rintro (⟨h,hne,h2⟩|h)
       ·exact ⟨.inl ⟨h,h2⟩,hne⟩
       ·obtain ⟨u,hu,rfl⟩:=List.mem_map.1 h;exact ⟨.inr h,fun e=>xP u hu (e ▸ bc7)⟩
     ·have hd:y.dst≠some t:=by have:=h2 (r,w.heap.size) zi;rwa [iU hy] at this
      rw [oU _ _ hd];exact I.agree t h1 fun p hp=>h2 p (by simp [hp])
     ·rcases List.mem_cons.1 hp with hp|hp
      ·subst hp;have:=hpr u hu _ hmem;unfold oV at this
       simpa [K.isFin] using this
      ·exact I.ue u hu p hp
    ·refine ⟨fun p hp=>?_,fun p hp q hq hne=>?_,fun p hp d hd hlt=>?_,fun x hx=>by rw [hsz];exact Nat.lt_succ_of_lt (he.old x hx),by rw [hsz];exact Nat.le_succ_of_le he.base⟩
     ·rcases List.mem_cons.1 hp with hp|hp
      ·subst hp;exact ⟨cs,T,hmem,(by show (w.heap.push _)[w.heap.size]? =_;simp),he.base,by rw [hsz];exact Nat.lt_succ_self _,fun hA=>Nat.lt_irrefl _ (he.old _ hA)⟩
      ·obtain ⟨cs',T',hm',hh,h1,h2,h3⟩:=he.good p hp;exact ⟨cs',T',hm',by rw [Below.heap_alloc _ _ _ h2];exact hh,h1,by rw [hsz];exact Nat.lt_succ_of_lt h2,h3⟩
     ·rcases List.mem_cons.1 hp with hp|hp<;>rcases List.mem_cons.1 hq with hq|hq
      ·subst hp hq;exact absurd rfl hne
      ·subst hp;obtain ⟨_,_,_,_,_,h2,_⟩:=he.good q hq;exact fun e=>by simp only at e;omega
      ·subst hq;obtain ⟨_,_,_,_,_,h2,_⟩:=he.good p hp;exact fun e=>by simp only at e;omega
      ·exact he.dist p hp q hq hne
     ·rcases List.mem_cons.1 hp with hp|hp
      ·subst hp;rw [iU hy] at hd;rw [hd];exact put_eq _ _ (by exact Nat.lt_of_lt_of_eq hlt I.UY.symm)
      ·obtain ⟨cs',T',hm',_⟩:=he.good p hp;have hne:p.1≠r:=fun e=>hrE (e ▸ List.mem_map.2 ⟨p,hp,rfl⟩);have hc:=xX _ hok _ hm' _ hmem rfl rfl hne;rw [oU _ _ (fun e=>hc.1 d hd (by rw [iU hy];exact e))];exact he.slot p hp d hd hlt
   unfold wpOp;simp only [hy,Region.wanted,hg,if_true];refine .inl ?_;unfold Oper.wp;rw [hrun];exact key
  have hcount:i∉E.map (·.1)→1≤fuel:=fun Nl=>by
   have:iA ((k,i)::xs) E=iA xs E+1:=by
    unfold iA;rw [List.filter_cons_of_pos (by simpa using Nl)];rfl
   omega
  have hinj:∀ (l:List (K × Nat)),(l.map (·.2)).Nodup→∀ x∈l,∀ y∈l,x.2=y.2→x=y:=by
   intro l
   induction l with
   | nil=>intro _ x hx;cases hx
   | cons c l ihh =>
    intro hn x hx0 y hy0 hxy;rw [List.map_cons,List.nodup_cons] at hn
    rcases List.mem_cons.1 hx0 with hx|hx<;>rcases List.mem_cons.1 hy0 with hy|hy
    ·rw [hx,hy]
    ·exact absurd (List.mem_map.2 ⟨y,hy,by rw [← hxy,hx]⟩) hn.1
    ·exact absurd (List.mem_map.2 ⟨x,hx,by rw [hxy,hy]⟩) hn.1
    ·exact ihh hn.2 x hx y hy hxy
  have actual:(k= .ext∨k.jV=true)→i∉E.map (·.1)→xs.all (blocked ops i xs)=true →
    (∀ f,fuel=f+1→i∈Region.ready .any ops listed→wpOp P ops Q i (wpAny P .any ops Q f (listed.setIfInBounds i true)) s w)→wpAny P .any ops Q fuel listed s w:=fun hk Nl hbl hhead=>by
   obtain ⟨f,rfl⟩:∃ f,fuel=f+1:=⟨fuel - 1,by have:=hcount Nl;omega⟩;have bc4:listed.getD i true=false:=(I.Me i hilt).2 (.inl ⟨by simp,Nl⟩);refine ⟨fun hr=>?_,fun r hr=>?_⟩
   ·exfalso
    have:=ab9 _ I.size hr i hilt;rw [bc4] at this;cases this
   ·obtain ⟨y,hy,aB9,PY⟩:=jm hr
    rcases (I.Me r (zJ hr)).1 aB9 with ⟨hL,hrE⟩|hU
    ·simp only [List.map_cons,List.mem_cons] at hL
     rcases hL with hL|hL
     ·subst hL;exact hhead f rfl hr
     ·obtain ⟨q,hq,rfl⟩:=List.mem_map.1 hL;have hb:=List.all_eq_true.1 hbl q hq;unfold blocked at hb;simp only [Bool.or_eq_true] at hb
      rcases hb with (hb|hb)|hb
      ·obtain ⟨kq,jq⟩:=q;cases kq with
       | alloc cs T=>exact early cs T jq (by simp [hq]) hr hrE f (Nat.lt_succ_self _) zo
       | _=>simp [K.jV] at hb
      ·exact (jB hr hb bc4).elim
      ·obtain ⟨z,hz,hz2⟩:=List.any_eq_true.1 hb;simp only [Bool.and_eq_true,Bool.not_eq_true'] at hz2;obtain ⟨e,he1,he2,he3⟩:=xE hy hz2.2
       by_cases hlt:z.2<ops.size
       ·refine (jB hr hz2.2 ((I.Me z.2 hlt).2 (.inl ⟨by simp;exact .inr ⟨z.1,hz⟩,fun hzE=>?_⟩))).elim;obtain ⟨p,hp,hpe⟩:=List.mem_map.1 hzE;obtain ⟨cs,T,hmem,_⟩:=he.good p hp;have hmem':(K.alloc cs T,z.2)∈(k,i)::xs:=by rw [← hpe];exact hmem
        rcases List.mem_cons.1 hmem' with h3|h3
        ·have:z.2=i:=by cases h3;rfl
         exact Nk.1 (this ▸ List.mem_map.2 ⟨z,hz,rfl⟩)
        ·have:z=(K.alloc cs T,z.2):=by
          exact hinj xs Nk.2 z hz _ h3 rfl
         rw [this] at hz2;simp [K.jV] at hz2
       ·have:=PY e he1 he2;rw [he3] at this;simp [I.size,Nat.le_of_not_lt hlt] at this
    ·obtain ⟨u,hu,rfl⟩:=List.mem_map.1 hU;refine Cv hs I hr hU (.inl (xP u hu)) fun v' I'=>?_;refine ihf f (Nat.lt_succ_self _) ((k,i)::xs) A _ E _ _ a w ?_ I' hok hnd (fun x hx=>xP x (List.mem_filter.1 hx).1) (fun x hx=>hpr x (List.mem_filter.1 hx).1) hal ?_ h
     ·have:(U.filter (fun x=>x.2 != u.2)).length<U.length:=List.length_filter_lt_length_iff_exists.2 ⟨u,hu,by simp⟩;omega
     ·refine ⟨he.good,he.dist,fun p hp d hd hlt=>?_,he.old,he.base⟩;have hc:=(mF (I.ue u hu p hp)).2;rw [oU _ _ (fun e=>hc.1 d hd e)];exact he.slot p hp d hd hlt
  have Ae:k.jV=false→i∉E.map (·.1):=fun hk hm=>by
   obtain ⟨p,hp,hpe⟩:=List.mem_map.1 hm;obtain ⟨cs,T,hmem,_⟩:=he.good p hp;have:=hinj _ hnd _ hmem (k,i) zi hpe;cases this
   simp [K.jV] at hk
  have ao5:∀ p∈E,p.1≠i→∃ cs T,(K.alloc cs T,p.1)∈xs∧w.heap[p.2]? =some (.cells cs T (0,0))∧N≤p.2∧p.2<w.heap.size∧p.2∉A:=fun p hp hne=>by
   obtain ⟨cs,T,hmem,hg⟩:=he.good p hp;refine ⟨cs,T,?_,hg⟩
   rcases List.mem_cons.1 hmem with hmem|hmem
   ·cases hmem;exact absurd rfl hne
   ·exact hmem
  unfold walk at h;simp only [ho] at h;cases k with
  | pure =>
   simp only at h;have hself:yH ops i=true:=by unfold kW at hok;simp only [Bool.and_eq_true] at hok;exact hok.1.1.1
   split at h
   ·rename_i hw;obtain ⟨v,h1,h2⟩:=h;exact advance true v rfl rfl rfl hself (Ae rfl) (.inl ⟨hw,fun w' _=>h1 w'⟩) (.inl rfl) h2
   ·rename_i hw;exact advance true undef rfl rfl rfl hself (Ae rfl) (.inr ⟨by simpa using hw,rfl⟩) (.inl rfl) h
  | read =>
   simp only at h;have hself:yH ops i=true:=by unfold kW at hok;simp only [Bool.and_eq_true] at hok;exact hok.1.1.1
   split at h
   ·rename_i hw;obtain ⟨v,h1,h2⟩:=h;exact advance false v rfl rfl rfl hself (Ae rfl) (.inl ⟨hw,fun w' hb=>h1 w' (hb rfl)⟩) (.inr rfl) h2
   ·rename_i hw;exact advance false undef rfl rfl rfl hself (Ae rfl) (.inr ⟨by simpa using hw,rfl⟩) (.inr rfl) h
  | fin =>
   have hfin:xs.all (·.1.isFin)=true:=by unfold kW at hok;simp only [Bool.and_eq_true] at hok;exact hok.1.1.1
   have hE:E=[]:=by
    cases E with
    | nil=>rfl
    | cons p ps =>
     obtain ⟨cs,T,hmem,_⟩:=he.good p zi
     rcases List.mem_cons.1 hmem with hmem|hmem
     ·cases hmem
     ·have:=List.all_eq_true.1 hfin _ hmem;simp [K.isFin] at this
   subst hE;exact KU hs ab9 hQ fuel ((.fin,i)::xs) U listed s a w (by rw [yt] at hm;exact hm) I hok (by rw [List.all_cons,hfin];rfl) hnd xP hpr (h w (Below.refl _ _))
  | ext =>
   have hbl:xs.all (blocked ops i xs)=true:=by unfold kW at hok;simp only [Bool.and_eq_true] at hok;exact hok.1.1.2
   refine actual (.inl rfl) (Ae rfl) hbl fun f hf hr=>?_;obtain ⟨y,hy,aB9,PY⟩:=jm hr;rw [ho] at hy;cases hy
   have Ll:∀ t,t∈o.looksAt ops→s.tmps[t]? =a.tmps[t]? :=fun t ht=>by
    refine I.agree t (fun u hu hd=>?_) (fun p hp hd=>?_)
    ·have hf:=hUf rfl u hu;cases hx:ops[u.2]? with
     | none=>simp [tL,hx] at hd
     | some y =>
      have he':=(pE hx ho hf).2 t (by rw [iU hx] at hd;exact hd) ht;exact jB hr he' ((I.Me u.2 (Array.getElem?_eq_some_iff.1 hx).1).2 (.inr (List.mem_map.2 ⟨u,hu,rfl⟩)))
    ·obtain ⟨cs,T,hmem,_⟩:=ao5 p hp fun e=>Ae rfl (e ▸ List.mem_map.2 ⟨p,hp,rfl⟩);have hf:=hpx rfl _ hmem;unfold oV at hf;simp only [K.isFin,Bool.false_eq_true,if_false] at hf;cases hx:ops[p.1]? with
     | none=>simp [tL,hx] at hd
     | some y=>exact ((pE ho hx hf).1 t (by rw [iU hx] at hd;exact hd)).1 ht
   have h':wpOp P ops Q i (fun a' w''=>Below w.heap.size w w''∧walk P ops Q N xs A a' w'') a w:=by
    unfold wpOp;simp only [ho];simp only at h;split at h
    ·rename_i hw;simp only [hw,if_true];exact .inl (h w (Below.refl _ _))
    ·rename_i hw;simp only [hw,Bool.false_eq_true,if_false];exact ⟨Below.refl _ _,h⟩
   refine Fj ho (fun cs b=>Region.noSelect_spec hs i o cs b ho) Ll I.defers hQ (fun ds v w' hk=>?_) h';obtain ⟨hb,hk⟩:=hk
   have bO6:iA ((.ext,i)::xs) E=iA xs E+1:=by
    unfold iA;rw [List.filter_cons_of_pos (by simpa using Ae rfl)];rfl
   refine ihf f zo xs A U E _ _ ({ a with defers:=ds }.put o.dst v) w' zo ?_ hrest Nk.2 (fun u hu hm=>xP u hu (by simp only [List.map_cons,List.mem_cons];exact .inr hm)) (fun u hu q hq=>hpr u hu q (by simp [hq]))
    (fun cs T j hj=>hal cs T j (by simp [hj])) ?_ hk
   ·refine ⟨by simpa using I.size,fun j hj=>?_,vM I.closed ho PY,by simp [ou],by rw [je,je];exact I.UY,fun t h1 h2=>?_,fun u hu=>?_,I.Ga,I.uu,I.ue⟩
    ·rw [rF (by rw [I.size];exact hj),I.Me j hj];simp only [List.map_cons,List.mem_cons]
     constructor
     ·rintro ⟨⟨h|h,h2⟩|h,hne⟩
      ·exact absurd h hne
      ·exact .inl ⟨h,h2⟩
      ·exact .inr h
     ·rintro (⟨h,h2⟩|h)
      ·exact ⟨.inl ⟨.inr h,h2⟩,fun e=>Nk.1 (e ▸ h)⟩
      ·obtain ⟨u,hu,rfl⟩:=List.mem_map.1 h;exact ⟨.inr h,fun e=>xP u hu (by simp [e])⟩
    ·by_cases hd:o.dst=some t
     ·by_cases hlt:t<a.tmps.size
      ·rw [hd,put_eq _ _ (by exact Nat.lt_of_lt_of_eq hlt I.UY.symm),put_eq _ _ (by exact hlt)]
      ·rw [Array.getElem?_eq_none (by rw [je];exact I.UY ▸ Nat.le_of_not_lt hlt),Array.getElem?_eq_none (by rw [je];exact Nat.le_of_not_lt hlt)]
     ·rw [oU _ _ hd,oU _ _ hd];exact I.agree t h1 h2
    ·have h3:Oi P ops u { a with defers:=ds } w:=I.pend u hu
     exact (h3.put hs v fun o' ho' d hd=>(pE ho' ho (hUf rfl u hu)).1 d hd).later fun _=>hb
   ·refine ⟨fun p hp=>?_,he.dist,fun p hp d hd hlt=>?_,fun x hx=>Nat.lt_of_lt_of_le (he.old x hx) hb.size,Nat.le_trans he.base hb.size⟩
    ·obtain ⟨cs,T,hmem,hh,h1,h2,h3⟩:=ao5 p hp fun e=>Ae rfl (e ▸ List.mem_map.2 ⟨p,hp,rfl⟩);exact ⟨cs,T,hmem,by rw [hb.block _ h2];exact hh,h1,Nat.lt_of_lt_of_le h2 hb.size,h3⟩
    ·obtain ⟨cs,T,hmem,_⟩:=ao5 p hp fun e=>Ae rfl (e ▸ List.mem_map.2 ⟨p,hp,rfl⟩);have hf:=hpx rfl _ hmem;unfold oV at hf;simp only [K.isFin,Bool.false_eq_true,if_false] at hf;have hc:=(mF hf).2;rw [oU _ _ (fun e=>hc.1 d hd (by rw [iU ho];exact e))];exact he.slot p hp d hd (by rwa [je] at hlt)
  | alloc cs T =>
   have hbl:xs.all (blocked ops i xs)=true:=by unfold kW at hok;simp only [Bool.and_eq_true] at hok;exact hok.1.1.2
   by_cases Nl:i∈E.map (·.1)
   ·obtain ⟨p,hp,hpi⟩:=List.mem_map.1 Nl;obtain ⟨cs',T',hmem,hh,h1,h2,h3⟩:=he.good p hp;have hsame:=hinj _ hnd _ hmem (.alloc cs T,i) zi hpi;have e1:cs'=cs:=by injection hsame with a b;injection a
    have e2:T'=T:=by injection hsame with a b;injection a
    subst e1 e2;have hk:=h p.2 w (Below.refl _ _) h1 h2 h3 hh;have bc5:∀ d,o.dst=some d→d<a.tmps.size→s.tmps[d]? =some (.pointer (some ⟨p.2,0,none⟩)):=fun d hd hlt=>he.slot p hp d (by rw [hpi,iU ho];exact hd) hlt
    refine ihl (p.2::A) U (E.filter (fun x=>x.1 != i)) listed s (a.put o.dst (.pointer (some ⟨p.2,0,none⟩))) w ?_ ?_ hrest Nk.2 (fun u hu hm=>xP u hu (by simp only [List.map_cons,List.mem_cons];exact .inr hm)) (fun u hu q hq=>hpr u hu q (by simp [hq]))
     (fun cs T j hj=>hal cs T j (by simp [hj])) ?_ hk
    ·have:iA xs (E.filter (fun x=>x.1 != i))=iA ((.alloc cs' T',i)::xs) E:=by
      unfold iA;rw [List.filter_cons_of_neg (by simpa using Nl)]
      congr 1
      refine List.filter_congr fun x hx=>?_;have hxi:x.2≠i:=fun e=>Nk.1 (e ▸ List.mem_map.2 ⟨x,hx,rfl⟩)
      congr 1
      rw [Bool.eq_iff_iff];simp only [List.contains_iff_mem,List.mem_map,List.mem_filter,bne_iff_ne,ne_eq]
      constructor
      ·rintro ⟨y,⟨hy,_⟩,e⟩;exact ⟨y,hy,e⟩
      ·rintro ⟨y,hy,e⟩;exact ⟨y,⟨hy,fun e2=>hxi (e ▸ e2)⟩,e⟩
     omega
    ·refine ⟨I.size,fun j hj=>?_,I.closed,by rw [ou];exact I.defers,by rw [je];exact I.UY,fun t h1 h2=>?_,fun u hu=>(I.pend u hu).put hs _ fun o' ho' d hd=>(pE ho' ho (hUf rfl u hu)).1 d hd,I.Ga,I.uu,fun u hu q hq=>I.ue u hu q (List.mem_filter.1 hq).1⟩
     ·rw [I.Me j hj];simp only [List.map_cons,List.mem_cons,List.mem_map,List.mem_filter,bne_iff_ne,ne_eq]
      constructor
      ·rintro (⟨h|h,h2⟩|h)
       ·subst h;exact absurd ⟨p,hp,hpi⟩ h2
       ·exact .inl ⟨h,fun ⟨y,⟨hy,_⟩,e⟩=>h2 ⟨y,hy,e⟩⟩
       ·exact .inr h
      ·rintro (⟨h,h2⟩|h)
       ·refine .inl ⟨.inr h,fun ⟨y,hy,e⟩=>h2 ⟨y,⟨hy,fun e2=>?_⟩,e⟩⟩;obtain ⟨z,hz,hz2⟩:=h;exact Nk.1 (List.mem_map.2 ⟨z,hz,by rw [hz2,← e,e2]⟩)
       ·exact .inr h
     ·by_cases hd:o.dst=some t
      ·by_cases hlt:t<a.tmps.size
       ·rw [hd,put_eq _ _ hlt,bc5 t hd hlt]
       ·rw [Array.getElem?_eq_none (by rw [I.UY];exact Nat.le_of_not_lt hlt),Array.getElem?_eq_none (by rw [je];exact Nat.le_of_not_lt hlt)]
      ·rw [oU _ _ hd];refine I.agree t h1 fun q hq Ou=>?_
       by_cases hqi:q.1=i
       ·rw [hqi,iU ho] at Ou;exact hd Ou
       ·exact h2 q (List.mem_filter.2 ⟨hq,by simpa using hqi⟩) Ou
    ·refine ⟨fun q hq=>?_,fun q hq r hr=>he.dist q (List.mem_filter.1 hq).1 r (List.mem_filter.1 hr).1,fun q hq d hd hlt=>he.slot q (List.mem_filter.1 hq).1 d hd (by rwa [je] at hlt),fun x hx=>?_,he.base⟩
     ·obtain ⟨hq1,hq2⟩:=List.mem_filter.1 hq;have hqi:q.1≠i:=by simpa using hq2
      obtain ⟨cs2,T2,bd4,hh2,g1,g2,g3⟩:=ao5 q hq1 hqi;refine ⟨cs2,T2,bd4,hh2,g1,g2,?_⟩;simp only [List.mem_cons,not_or];exact ⟨he.dist q hq1 p hp (by rw [hpi];exact hqi),g3⟩
     ·rcases List.mem_cons.1 hx with hx|hx
      ·rw [hx];exact h2
      ·exact he.old x hx
   ·exact actual (.inr rfl) Nl hbl fun f hf hr=>early cs T i zi hr Nl f zo zo
theorem aC {id:Nat} {a:Act} {w:World} (is:List (K × Nat)) (hm:P.follows .mixedOrders=true) (hc:check ops is=true) (hal:Cm P ops is)
  (hQ:∀ c (a s:Act) w,s.defers=a.defers→Q (.panic c) a w→Q (.panic c) s w)
  (h:walk P ops Q w.heap.size is [] a w.drew):(Code.region id ops true).wp P Q a w:=by
 unfold check at hc;simp only [Bool.and_eq_true,decide_eq_true_eq] at hc;obtain ⟨⟨⟨⟨⟨h1,h2⟩,h3⟩,h4⟩,h5⟩,h6⟩:=hc;refine wp_region_any hm ?_;refine Sk h1 (aB2 h2) hQ w.heap.size ops.size is [] [] [] _ a a w.drew ?_ ?_ h3 h4 zi zi hal ?_ h
 ·rw [yt];exact h5
 ·refine ⟨by simp,fun i hi=>?_,fun j o hj hl=>?_,rfl,rfl,fun t _ _=>rfl,by simp,by simp,by simp,by simp⟩
  ·have hmem:i∈is.map (·.2):=by simpa using List.all_eq_true.1 h6 i (List.mem_range.2 hi)
   simp [hi] 
   simpa using hmem
  ·have hj':=(Array.getElem?_eq_some_iff.1 hj).1;simp [hj'] at hl
 ·exact ⟨by simp,by simp,by simp,by simp,Nat.le_refl _⟩
/-! ### The steps -/
def Lj (ops:Array Oper) (j:Nat) (T:TypeId):Bool:=match ops[j]? with
 | some o=>(match o.op with| .alloc T'=>T' == T| _=>false)&&o.guard.isNone
 | none=>false
def Lv (P:Program) (T:TypeId):Option (Array Value):=((P.info? T).bind (·.zero)).map Value.cells
def probe (P:Program) (ops:Array Oper):K × Nat→Bool × Option (Array Value)
 | (.alloc _ T,j)=>(Lj ops j T,Lv P T)
 | _=>(true,none)
def want:K × Nat→Bool × Option (Array Value)
 | (.alloc cs _,_)=>(true,some cs)
 | _=>(true,none)
theorem Ar {is:List (K × Nat)} (h:is.map (probe P ops)=is.map want):Cm P ops is:=by
 intro cs T j hj o ho
 have h1:probe P ops (.alloc cs T,j)=want (.alloc cs T,j):=by
  induction is with
  | nil=>cases hj
  | cons x xs ih =>
   simp only [List.map_cons,List.cons.injEq] at h
   rcases List.mem_cons.1 hj with hj|hj
   ·rw [hj];exact h.1
   ·exact ih h.2 hj
 simp only [probe,want,Prod.mk.injEq] at h1;obtain ⟨h2,h3⟩:=h1;unfold Lj at h2;simp only [ho,Bool.and_eq_true] at h2;obtain ⟨h4,h5⟩:=h2;refine ⟨by simpa using h5,fun ρ w=>?_⟩;obtain ⟨dst,op,ty,pos,after,guard⟩:=o;cases op<;>simp at h4
 case alloc T' =>
  subst h4;unfold Lv at h3;cases hi:P.info? T' with
  | none=>simp [hi] at h3
  | some i =>
   cases hz:i.zero with
   | none=>simp [hi,hz] at h3
   | some z =>
    simp [hi,hz] at h3
    subst h3;simp [execOp,Instr.alloc,zeroValue,typeInfo,hi,hz,newVar,newRow,newObj]
    rfl
section
variable {N:Nat} {is:List (K × Nat)} {i:Nat} {A:List Nat} {a:Act} {w:World} {o:Oper}
theorem walk_nil (h:∀ w',Below w.heap.size w w'→Q .normal a w'):walk P ops Q N [] A a w:=h
theorem WK (ho:ops[i]? =some o) (h:∀ J:Act→Prop,(∀ a,walk P ops Q N is A a w→J a) →
  if Region.wanted o (yielded ops a.tmps) then ∃ v,(∀ w',(execOp a.eval o).run P w'= .ok (.value v) w')∧J (a.put o.dst v) else J (a.put o.dst undef)):walk P ops Q N ((.pure,i)::is) A a w:=by
 unfold walk;simp only [ho];exact h (fun a=>walk P ops Q N is A a w) fun _ h=>h
theorem rQ (ho:ops[i]? =some o) (hg:o.guard=none) (h:∀ J:Act→Prop,(∀ a,walk P ops Q N is A a w→J a)→∃ v,(∀ w',(execOp a.eval o).run P w'= .ok (.value v) w')∧J (a.put o.dst v)):walk P ops Q N ((.pure,i)::is) A a w:=by
 unfold walk;simp only [ho,Region.wanted,hg,if_true];exact h (fun a=>walk P ops Q N is A a w) fun _ h=>h
theorem cells_of_cell {w:World} {p:Addr} (h:(w.cell? p).isSome=true):∃ cs T fr,w.heap[p.block]? =some (.cells cs T fr):=by
 unfold World.cell? at h;split at h
 ·rename_i c e f hh;exact ⟨c,e,f,hh⟩
 ·cases h
theorem qY {w w':World} (p:Addr) (hh:w'.heap[p.block]? =w.heap[p.block]?) (hcs:∃ cs T fr,w.heap[p.block]? =some (.cells cs T fr)):∀ (n i:Nat) (acc:Array Value) (v:Array Value),
  (loadCellsFrom p i n acc).run P w= .ok v w→(loadCellsFrom p i n acc).run P w'= .ok v w'
 | 0,i,acc,v,h=>by
  simp [loadCellsFrom] at h ⊢
  exact h
 | n+1,i,acc,v,h=>by
  have hbl:(p.add i).block=p.block:=by unfold Addr.add;split<;>rfl
  have hq:w'.cell? (p.add i)=w.cell? (p.add i):=World.cell?_of_block (by rw [hbl];exact hh);simp only [loadCellsFrom,Sem.run_bind,run_load,hq] at h ⊢;cases hcell:w.cell? (p.add i) with
  | none =>
   obtain ⟨cs,T,fr,hb⟩:=hcs;simp [hcell,Result.andThen,World.farLoad,hbl,hb] at h
  | some u =>
   simp only [hcell,Result.andThen] at h ⊢;exact qY p hh hcs n (i+1) _ v h
theorem xZ {w w':World} {T:TypeId} {p:Addr} {v:Value} (hb:Below w.heap.size w w') (hc:(w.cell? p).isSome=true) (h:(loadVar T p).run P w= .ok v w):(loadVar T p).run P w'= .ok v w':=by
 have hcs:=cells_of_cell hc
 have hp:p.block<w.heap.size:=by
  obtain ⟨cs,T,fr,hh⟩:=hcs
  rcases Nat.lt_or_ge p.block w.heap.size with h|h
  ·exact h
  ·rw [Array.getElem?_eq_none h] at hh;cases hh
 have hh:=hb.block p.block hp;have hq:w'.cell? p=w.cell? p:=World.cell?_of_block hh;obtain ⟨u,hu⟩:=Option.isSome_iff_exists.1 hc;unfold loadVar at h ⊢;rw [Sem.run_bind] at h ⊢
 have ha:∃ r,∀ x:World,(isAgg T).run P x=match r with|Except.ok b=>Result.ok b x|Except.error e=>Result.halt e x:=by
  cases hT:P.underlying T with
  | none => exact ⟨.error (.stuck "no such type"), fun x => by simp [isAgg, Go.underlying, Sem.run_bind, hT, Result.andThen]⟩
  | some d=>cases d<;>first
   | (refine ⟨.ok true,fun x=>?_⟩;simp [isAgg,Go.underlying,Sem.run_bind,hT,Result.andThen];done)
   | (refine ⟨.ok false,fun x=>?_⟩;simp [isAgg,Go.underlying,Sem.run_bind,hT,Result.andThen];done)
 obtain ⟨r,hr⟩:=ha;rw [hr] at h ⊢;cases r with
 | error e=>simp [Result.andThen] at h
 | ok b =>
  simp only [Result.andThen] at h ⊢;cases b with
  | false =>
   simp only [Bool.false_eq_true,if_false,run_load,hq,hu] at h ⊢
   injection h with h1
   rw [h1]
  | true =>
   simp only [if_true,Sem.run_bind,sizeOf,typeInfo] at h ⊢;cases hi:P.info? T with
   | none=>simp [hi,Result.andThen] at h
   | some i =>
    simp [hi,Result.andThen] at h ⊢
    unfold loadCells at h ⊢;cases hl:(loadCellsFrom p 0 i.size #[]).run P w with
    | halt e x=>simp [hl] at h
    | ok c x =>
     simp [hl] at h
     obtain ⟨h1,h2⟩:=h;rw [h2] at hl;rw [qY p hh hcs _ _ _ _ hl];simp [h1]
theorem Kz {T:TypeId} {x:Operand} {p:Addr} (ho:ops[i]? =some o) (hg:o.guard=none) (hop:o.op= .load T x) (hx:a.eval x= .pointer (some p))
  (h:∀ J:Value→Prop,(∀ v,walk P ops Q N is A (a.put o.dst v) w→J v)→(w.cell? p).isSome=true∧∃ v,(loadVar T p).run P w= .ok v w∧J v):walk P ops Q N ((.read,i)::is) A a w:=by
 unfold walk;simp only [ho,Region.wanted,hg,if_true];obtain ⟨h1,v,h2,h3⟩:=h (fun v=>walk P ops Q N is A (a.put o.dst v) w) fun _ h=>h;refine ⟨v,fun w' hb=>?_,h3⟩;simp only [execOp,hop,hx,Instr.loadAt,Instr.sureAddr,Sem.run_bind,Sem.run_pure,Result.andThen_ok,xZ hb h1 h2]
theorem aL (ho:ops[i]? =some o) (hg:o.guard=none) (h:∀ w',Below w.heap.size w w'→∀ J:Act→World→Prop,(∀ a' w'',Below w'.heap.size w' w''→walk P ops Q N is A a' w''→J a' w'')→o.wp P a w' J Q):walk P ops Q N ((.ext,i)::is) A a w:=by
 unfold walk;simp only [ho,Region.wanted,hg,if_true];exact fun w' hb=>h w' hb _ fun a' w'' h1 h2=>⟨h1,h2⟩
theorem jK {cs:Array Value} {T:TypeId} (ho:ops[i]? =some o) (h:∀ b w',Below w.heap.size w w'→N≤b→b<w'.heap.size→b∉A→w'.heap[b]? =some (.cells cs T (0,0))→walk P ops Q N is (b::A) (a.put o.dst (.pointer (some ⟨b,0,none⟩))) w'):walk P ops Q N ((.alloc cs T,i)::is) A a w:=by
 unfold walk;simp only [ho];exact h
theorem uf:∀ (js:List Nat) (l:List Oper) (a:Act) (w:World),js.map (ops[·]?)=l.map some→wpList P ops Q l a w→wpOps P ops Q js a w
 | [],[],_,_,_,h=>h
 | [],_:: _,_,_,hl,_=>by cases hl
 | _:: _,[],_,_,hl,_=>by cases hl
 | j::js,x::xs,a,w,hl,h=>by
  simp only [List.map_cons,List.cons.injEq] at hl;unfold wpList at h;simp only [wpOps,hl.1];split
  ·rename_i hw;simp only [hw,if_true] at h;exact h.imp (Oper.wp_mono fun a w h=>uf js xs a w hl.2 h) id
  ·rename_i hw;simp only [hw] at h;exact uf js xs _ _ hl.2 h
theorem dK (l:List Oper) (hl:(i::is.map (·.2)).map (ops[·]?)=l.map some) (h:∀ w',Below w.heap.size w w'→wpList P ops Q l a w'):walk P ops Q N ((.fin,i)::is) A a w:=by
 have hi:∃ o,ops[i]? =some o:=by
  cases l with
  | nil=>cases hl
  | cons x xs=>simp only [List.map_cons,List.cons.injEq] at hl;exact ⟨x,hl.1⟩
 obtain ⟨o,ho⟩:=hi;unfold walk;simp only [ho];exact fun w' hb=>uf _ l a w' hl (h w' hb)
end
end
end Go.SW
namespace Go.Mem
open Go Go.RowKit Go.SW Go.Num
def ah (w:World) (b:Nat) (cs:Array Value) (T:TypeId):Prop:=w.heap[b]? =some (.cells cs T (0,0))
theorem ah.lt {w:World} {b:Nat} {cs:Array Value} {T:TypeId} (h:ah w b cs T):b<w.heap.size:=by
 rcases Nat.lt_or_ge b w.heap.size with h1|h1
 ·exact h1
 ·unfold ah at h;rw [Array.getElem?_eq_none h1] at h;cases h
theorem ah.cell {w:World} {b:Nat} {cs:Array Value} {T:TypeId} (h:ah w b cs T) (o:Nat):w.cell? ⟨b,o,none⟩=cs[o]? :=by
 unfold ah at h;simp [World.cell?, h]
theorem ah.free {w:World} {b:Nat} {cs:Array Value} {T:TypeId} (h:ah w b cs T) (o:Nat):w.frozen? ⟨b,o,none⟩=false:=by
 unfold ah at h;simp [World.frozen?, h]
theorem ah.later {w w':World} {b:Nat} {cs:Array Value} {T:TypeId} (h:ah w b cs T) (hb:Below w.heap.size w w'):ah w' b cs T:=by
 unfold ah;rw [hb.block b h.lt];exact h
theorem ah.new (w:World) (cs:Array Value) (T:TypeId):ah (w.alloc (.cells cs T (0,0))) w.heap.size cs T:=by
 show (w.heap.push _)[w.heap.size]? =_;simp
theorem ah.alloc {w:World} {b:Nat} {cs:Array Value} {T:TypeId} (h:ah w b cs T) (o:Obj):ah (w.alloc o) b cs T :=
 h.later ((Below.refl _ _).alloc (Nat.le_refl _) _)
theorem ah.drew {w:World} {b:Nat} {cs:Array Value} {T:TypeId} (h:ah w b cs T):ah w.drew b cs T:=h
theorem Ik {w:World} {b:Nat} (a:Addr) (u:Value) (h:b≠a.block):(w.setCell a u).heap[b]? =w.heap[b]? :=Below.heap_setCell w a u b h
theorem ah.setOther {w:World} {b:Nat} {cs:Array Value} {T:TypeId} (h:ah w b cs T) {a:Addr} (u:Value) (hne:b≠a.block):ah (w.setCell a u) b cs T:=by
 unfold ah;rw [Ik a u hne];exact h
theorem ah.set {w:World} {b:Nat} {cs:Array Value} {T:TypeId} (h:ah w b cs T) (o:Nat) (u:Value):ah (w.setCell ⟨b,o,none⟩ u) b (cs.setIfInBounds o u) T:=by
 have hl:=h.lt;unfold ah at h ⊢;have e:w.heap[b]= .cells cs T (0,0):=by simpa [hl] using h
 simp [World.setCell,hl,Array.getElem_modify,e]
theorem ah.ne {w:World} {b b':Nat} {cs cs':Array Value} {T T':TypeId} (h:ah w b cs T) (h':ah w b' cs' T') (hT:T≠T'):b≠b':=by
 rintro rfl;unfold ah at h h';rw [h] at h'
 injection h' with e
 injection e with _ e2
 exact hT e2
theorem ZB {w w':World} {n:Nat} (h:Below (w.drewN n).heap.size (w.drewN n) w'):Below w.heap.size w w':=⟨h.os,h.tape,h.output,h.size,h.block⟩
theorem Bt {w w1 w2:World} (h:Below w.heap.size w w1) (k:Below w1.heap.size w1 w2):Below w.heap.size w w2:=nH h k
def Row (w:World) (T:TypeId) (v:Value) (xs:List Value):Prop :=
 ∃ a cap,v= .slice a xs.length cap∧xs.length≤cap∧cap≤9223372036854775807∧(a=none→cap=0) ∧
  ∀ ad,a=some ad→ad.spot=none∧∃ arr,w.heap[ad.block]? =some (.cells arr T (0,0))∧∀ i (h:i<xs.length),arr[ad.off+i]? =some xs[i]
theorem Row.later {w w':World} {T:TypeId} {v:Value} {xs:List Value} (h:Row w T v xs) (hb:Below w.heap.size w w'):Row w' T v xs:=by
 obtain ⟨a,cap,h1,h2,h3,h4,h5⟩:=h;refine ⟨a,cap,h1,h2,h3,h4,fun ad had=>?_⟩;obtain ⟨h6,arr,h7,h8⟩:=h5 ad had;have hx:ah w ad.block arr T:=h7;exact ⟨h6,arr,hx.later hb,h8⟩
theorem Row.setOther {w:World} {T:TypeId} {v:Value} {xs:List Value} (h:Row w T v xs) {b:Nat} {cs:Array Value} {T':TypeId} (hx:ah w b cs T') (hT:T≠T') (o:Nat) (u:Value):Row (w.setCell ⟨b,o,none⟩ u) T v xs:=by
 obtain ⟨a,cap,h1,h2,h3,h4,h5⟩:=h;refine ⟨a,cap,h1,h2,h3,h4,fun ad had=>?_⟩;obtain ⟨h6,arr,h7,h8⟩:=h5 ad had;have hy:ah w ad.block arr T:=h7;exact ⟨h6,arr,hy.setOther u (hy.ne hx hT),h8⟩
theorem Row.nil (w:World) (T:TypeId):Row w T (.slice none 0 0) []:=⟨none,0,rfl,by simp,by simp,fun _=>rfl,fun _ h=>by cases h⟩
theorem Row.cases {w:World} {T:TypeId} {v:Value} {xs:List Value} (h:Row w T v xs) :
  (v= .slice none 0 0∧xs=[])∨∃ b off cap arr,v= .slice (some ⟨b,off,none⟩) xs.length cap∧xs.length≤cap∧cap≤9223372036854775807∧ah w b arr T∧∀ i (h:i<xs.length),arr[off+i]? =some xs[i]:=by
 obtain ⟨a,cap,h1,h2,h3,h4,h5⟩:=h;cases a with
 | none =>
  have h6:=h4 rfl;have h7:xs=[]:=List.length_eq_zero_iff.1 zo;subst h6 h7;exact .inl ⟨h1,rfl⟩
 | some ad =>
  obtain ⟨h6,arr,h7,h8⟩:=h5 ad rfl;obtain ⟨b,off,sp⟩:=ad;simp only at h6;subst h6;exact .inr ⟨b,off,cap,arr,h1,h2,h3,h7,h8⟩
theorem Row.mk {w:World} {T:TypeId} {xs:List Value} {b off cap n:Nat} {arr:Array Value} (hn:n=xs.length) (h2:xs.length≤cap) (h3:cap≤9223372036854775807) (h7:ah w b arr T) (h8:∀ i (h:i<xs.length),arr[off+i]? =some xs[i]) :
  Row w T (.slice (some ⟨b,off,none⟩) n cap) xs:=by
 subst hn;exact ⟨_,_,rfl,h2,h3,(fun h=>by cases h),fun ad had=>by cases had;exact ⟨rfl,arr,h7,h8⟩⟩
def eX (l:List Nat):List Value:=l.map fun (d:Nat)=>.int .u32 (d:Int)
def ints (l:List Nat):List Value:=l.map fun (d:Nat)=>.int .i64 (d:Int)
theorem gM (l:List Nat):(eX l).length=l.length:=by simp [eX]
theorem bE (l:List Nat):(ints l).length=l.length:=by simp [ints]
def aT (w:World) (v:Value) (n:Nat):Prop:=Row w 61 v (eX (eO 1000000000 n))
theorem aT.later {w w':World} {v:Value} {n:Nat} (h:aT w v n) (hb:Below w.heap.size w w'):aT w' v n:=Row.later h hb
theorem aT.setOther {w:World} {v:Value} {n:Nat} (h:aT w v n) {b:Nat} {cs:Array Value} {T':TypeId} (hx:ah w b cs T') (hT:61≠T') (o:Nat) (u:Value):aT (w.setCell ⟨b,o,none⟩ u) v n:=Row.setOther h hx hT o u
def pO (w:World) (v:Value) (l:List Nat):Prop:=Row w 61 v (eX l)
theorem pO.later {w w':World} {v:Value} {l:List Nat} (h:pO w v l) (hb:Below w.heap.size w w'):pO w' v l:=Row.later h hb
theorem pO.cases {w:World} {v:Value} {l:List Nat} (h:pO w v l) :
  (v= .slice none 0 0∧l=[])∨∃ b off cap,v= .slice (some ⟨b,off,none⟩) l.length cap∧l.length≤cap∧cap≤9223372036854775807∧b<w.heap.size∧(∃ arr,ah w b arr 61)∧∀ i,i<l.length→w.cell? ⟨b,off+i,none⟩=some (.int .u32 (l.getD i 0:Nat)):=by
 rcases Row.cases h with ⟨h1,h2⟩|⟨b,off,cap,arr,h1,h2,h3,h4,h5⟩
 ·refine .inl ⟨h1,?_⟩;unfold eX at h2
  simpa using h2
 ·refine .inr ⟨b,off,cap,by rw [h1,gM],by rwa [gM] at h2,h3,h4.lt,⟨arr,h4⟩,fun i hi=>?_⟩;rw [h4.cell,h5 i (by rw [gM];exact hi)];simp [eX,hi]
theorem pO.read {w:World} {v:Value} {l:List Nat} (h:pO w v l) :
  ∃ a cap,v= .slice a l.length cap∧l.length≤cap∧cap≤9223372036854775807∧∀ k,k<l.length→∃ b off,a=some ⟨b,off,none⟩∧b<w.heap.size∧w.cell? ⟨b,off+k,none⟩=some (.int .u32 (l.getD k 0:Nat)):=by
 rcases pO.cases h with ⟨rfl,rfl⟩|⟨b,off,cap,rfl,h1,h2,h3,_,h5⟩
 ·exact ⟨none,0,rfl,by simp,by simp,fun k hk=>by cases hk⟩
 ·exact ⟨some ⟨b,off,none⟩,cap,rfl,h1,h2,fun k hk=>⟨b,off,rfl,h3,h5 k hk⟩⟩
theorem aT.SF {w:World} {v:Value} {l:List Nat} (h:pO w v l) (hd:iM 1000000000 l) (ht:Top l):aT w v (val 1000000000 l):=by
 unfold aT;rw [IL zo hd ht];exact h
theorem aT.DX {w:World} {v:Value} {n:Nat} (h:aT w v n):pO w v (eO 1000000000 n):=h
theorem Row.jP {w:World} {base k:Nat} {T:TypeId} {v:Value} {xs:List Value} (h:w.ownsRow base T 1 v k xs):Row w T v xs:=by
 obtain ⟨h1,h2|⟨g,cap,cur,h3,h4,h5,h6,h7,h8,h9⟩⟩:=h
 ·obtain ⟨rfl,rfl⟩:=h2;have:xs=[]:=List.length_eq_zero_iff.1 zo;subst this;exact Row.nil _ _
 ·rw [Nat.mul_one] at h1 h8 h9;subst h3;unfold maxLen at h7;refine Row.mk h1.symm zo h7 h5 fun i hi=>?_;have hik:i<k:=by omega
  rw [Nat.zero_add];have:xs[i]? =(cur.toList.take k)[i]? :=by rw [h9]
  rw [List.getElem?_take_of_lt hik] at this;rw [← Array.getElem?_toList,← this];simp [hi]
theorem pO.jP {w:World} {base k:Nat} {v:Value} {s:List Nat} (h:w.ownsRow base 61 1 v k (eX s)):pO w v s:=Row.jP h
theorem uP (n:Nat):(madeCells #[Value.int .u32 0] n).toList=eX (List.replicate n 0):=by
 rw [toList_madeCells_one];simp [eX]
theorem nS (l:List Nat) (k d:Nat):(eX l).set k (.int .u32 (d:Int))=eX (l.set k d):=by simp [eX,List.map_set]
theorem qC {l:List Nat} {k:Nat} (h:k<l.length):(eX l)[k]? =some (.int .u32 (l.getD k 0:Nat)):=by simp [eX,h]
theorem Xn (w:World) (g:Option Nat):w.grownBy w g:=⟨rfl,rfl,rfl,Nat.le_refl _,fun _ _ _=>rfl⟩
theorem nX {a w:World} {g:Option Nat} (h:a.grownBy w g) (n:Nat):a.grownBy (w.drewN n) g:=⟨h.os,h.tape,h.output,h.size,h.block⟩
theorem zQ {a w:World} {g:Nat} (h:a.grownBy w (some g)) (o:Nat) (u:Value):a.grownBy (w.setCell ⟨g,o,none⟩ u) (some g) :=
 ⟨h.os,h.tape,h.output,by simpa [World.setCell] using h.size,fun i hi hne=>(Below.heap_setCell w _ u i (by rintro rfl;exact hne rfl)).trans (h.block i hi hne)⟩
theorem Ke {B g:Nat} {a b c:World} (h:Below B a b) (k:b.grownBy c (some g)) (hB:B≤b.heap.size) (hg:B≤g):Below B a c :=
 h.grown k hB (fun k hk=>by cases hk;exact hg)
theorem wY {w:World} {base g n:Nat} {T:TypeId} {xs:List Value} (h:w.ownsRow base T 1 (.slice (some ⟨g,0,none⟩) n n) n xs):ah w g xs.toArray T∧base≤g:=by
 obtain ⟨h1,h2|⟨g',cap,cur,h3,h4,h5,h6,h7,h8,h9⟩⟩:=h
 ·cases h2.1
 ·simp only [Value.slice.injEq,Option.some.injEq,Addr.mk.injEq,and_true,true_and] at h3;obtain ⟨rfl,rfl⟩:=h3;rw [Nat.mul_one] at h8 h9;rw [List.take_of_length_le (by rw [Array.length_toList,h8];exact Nat.le_refl _)] at h9;exact ⟨by unfold ah;rw [h5,← h9],h4⟩
theorem pO.yK {w:World} {g n m:Nat} {l post:List Nat} (h:ah w g (eX (l++post)).toArray 61) (hl:l.length=n) (hm:n≤m) (hm2:m≤9223372036854775807):pO w (.slice (some ⟨g,0,none⟩) n m) l:=by
 refine Row.mk (by rw [gM];omega) (by rw [gM];omega) hm2 h fun i hi=>?_;rw [gM] at hi;rw [Nat.zero_add,List.getElem?_toArray];simp [eX,hi,List.getElem?_append_left]
theorem aT.lit {w:World} {d:Nat} (h0:0<d) (h1:d<1000000000):aT (w.alloc (.cells #[.int .u32 d] 61 (0,0))) (.slice (some ⟨w.heap.size,0,none⟩) 1 1) d:=by
 have e:eO 1000000000 d=[d]:=by rw [nG zo h0,Nat.mod_eq_of_lt h1,Nat.div_eq_of_lt h1,jk]
 unfold aT;rw [e];refine Row.mk rfl (by simp [eX]) zo (ah.new _ _ _) fun i hi=>?_
 match i,hi with
 | 0,_=>rfl
theorem aT.zero (w:World):aT w (.slice none 0 0) 0:=by unfold aT;rw [jk];exact Row.nil _ _
theorem Mf (l:List Nat):∀ v∈eX l,v.oneCell'=true:=fun v hv=>by
 obtain ⟨d,_,rfl⟩:=List.mem_map.1 hv;rfl
theorem pO.src {w:World} {a:Option Addr} {l:List Nat} (h:∀ k,k<l.length→∃ b off,a=some ⟨b,off,none⟩∧b<w.heap.size∧w.cell? ⟨b,off+k,none⟩=some (.int .u32 (l.getD k 0:Nat))) (hl:0<(eX l).length) :
  ∃ ad,a=some ad∧∀ j v,(eX l)[j]? =some v→w.cell? (ad.add j)=some v:=by
 rw [gM] at hl;obtain ⟨b,off,rfl,_,_⟩:=h 0 hl;refine ⟨_,rfl,fun j v hv=>?_⟩
 have hj:j<l.length:=by
  have:=(List.getElem?_eq_some_iff.1 hv).1;rwa [gM] at this
 obtain ⟨b',off',h1,_,h3⟩:=h j hj;simp only [Option.some.injEq,Addr.mk.injEq,and_true] at h1;obtain ⟨rfl,rfl⟩:=h1;rw [qC hj] at hv;rw [Addr.add_lit,h3,← hv]
end Go.Mem
namespace Go.Dec
open Go.Num Go.Lib
theorem jJ {u:Nat} (h:u<10):decDigits u=[UInt8.ofNat (48+u)]:=by rw [decDigits,dif_pos h]
theorem tQ {u:Nat} (h:¬ u<10):decDigits u=decDigits (u / 10)++[UInt8.ofNat (48+u%10)]:=by rw [decDigits,dif_neg h]
theorem wS (u:Nat):decDigits u≠[]:=by
 by_cases h:u<10
 ·rw [jJ h];simp
 ·rw [tQ h];simp
theorem wU (u:Nat):1≤(decDigits u).length:=List.length_pos_iff.mpr (wS u)
def pad:Nat→Nat→List UInt8
 | 0,_=>[]
 | k+1,r=>pad k (r / 10)++[UInt8.ofNat (48+r%10)]
theorem su:∀ k r,(pad k r).length=k
 | 0,_=>rfl
 | k+1,r=>by simp [pad,su k]
theorem Gw:∀ k,pad k 0=List.replicate k 48
 | 0=>rfl
 | k+1=>by
  rw [pad,Nat.zero_div,Gw k,List.replicate_succ'];rfl
theorem DY:∀ (k q r:Nat),0<q→r<10^k→decDigits (q*10^k+r)=decDigits q++pad k r
 | 0,q,r,hq,hr=>by
  have:r=0:=by simpa using hr
  subst this;simp [pad]
 | k+1,q,r,hq,hr=>by
  have hp:0<10^k:=Nat.pow_pos zd;have e:q*10^(k+1)+r=10*(q*10^k)+r:=by rw [Nat.pow_succ,Nat.mul_comm 10,Nat.mul_assoc]
  have h1:0<q*10^k:=Nat.mul_pos hq hp
  rw [tQ zo,e,show (10*(q*10^k)+r) / 10=q*10^k+r / 10 by omega,show (10*(q*10^k)+r)%10=r%10 by omega,
   DY k q (r / 10) hq (by rw [Nat.pow_succ] at hr;omega),pad,List.append_assoc]
theorem Ah:∀ (k r:Nat),0<k→r<10^k→List.replicate (k - (decDigits r).length) 48++decDigits r=pad k r
 | 0,_,h,_=>by omega
 | k+1,r,_,hr=>by
  by_cases h:r<10
  ·rw [jJ h,pad,Nat.div_eq_of_lt h,Nat.mod_eq_of_lt h,Gw];simp
  ·have hk:0<k:=by
    rcases Nat.eq_zero_or_pos k with h0|h0
    ·subst h0;simp at hr;omega
    ·exact h0
   rw [tQ h,pad,← Ah k (r / 10) hk (by rw [Nat.pow_succ] at hr;omega)];simp
theorem nZ:∀ (k r:Nat),0<k→r<10^k→(decDigits r).length≤k:=fun k r hk hr=>by
 by_cases h:(decDigits r).length≤k
 ·exact h
 ·have h1:=congrArg List.length (Ah k r hk hr);rw [List.length_append,List.length_replicate,su] at h1;omega
theorem IQ (n:Nat):n<10^(decDigits n).length:=by
 induction n using Nat.strongRecOn with
 | _ n ih =>
  by_cases h:n<10
  ·rw [jJ h];simpa using h
  ·rw [tQ h,List.length_append,List.length_singleton,Nat.pow_succ];have:=ih (n / 10) zo;omega
def num (l:List UInt8):Nat:=l.foldl (fun v b=>v*10+(b.toNat - 48)) 0
def wC (l:List UInt8):Prop:=∀ b∈l,48≤b.toNat∧b.toNat≤57
theorem uO (l:List UInt8) (b:UInt8):num (l++[b])=num l*10+(b.toNat - 48):=by simp [num]
theorem Nf:num []=0:=rfl
theorem BK:∀ (m:List UInt8) (v:Nat),m.foldl (fun v b=>v*10+(b.toNat - 48)) v=v*10^m.length+num m
 | [],v=>by simp [num]
 | b::m,v=>by
  have h1:=BK m (v*10+(b.toNat - 48));have h2:=BK m (0*10+(b.toNat - 48));rw [List.foldl_cons,h1];have e:num (b::m)=m.foldl (fun v b=>v*10+(b.toNat - 48)) (0*10+(b.toNat - 48)):=rfl;rw [e,h2,List.length_cons,Nat.pow_succ,Nat.add_mul,Nat.add_mul,Nat.mul_assoc,Nat.mul_comm (10^m.length) 10];omega
theorem GL (l m:List UInt8):num (l++m)=num l*10^m.length+num m:=by
 unfold num;rw [List.foldl_append,BK];rfl
theorem OJ {α:Type} {Q:List α→Prop} (h0:Q []) (h1:∀ l a,Q l→Q (l++[a])) (l:List α):Q l:=by
 have h:∀ m:List α,Q m.reverse:=fun m=>by
  induction m with
  | nil=>exact h0
  | cons a m ih=>rw [List.reverse_cons];exact h1 _ _ ih
 have:=h l.reverse
 rwa [List.reverse_reverse] at this
theorem aA8 (l:List UInt8):wC l→num l<10^l.length :=
 OJ (Q:=fun l=>wC l→num l<10^l.length) (fun _=>by simp [num]) (fun l b ih h=>by
  rw [uO,List.length_append,List.length_singleton,Nat.pow_succ];have h1:=ih fun x hx=>h x (by simp [hx]);have h2:=h b zi;omega) l
theorem Qg {l m:List UInt8} (h:wC l) (k:wC m):wC (l++m):=fun b hb=>by
 rcases List.mem_append.mp hb with hb|hb
 ·exact h b hb
 ·exact k b hb
theorem qp {d:Nat} (h:d<10):(UInt8.ofNat (48+d)).toNat=48+d:=by
 rw [UInt8.toNat_ofNat'];omega
theorem pI (n:Nat):wC (decDigits n):=by
 induction n using Nat.strongRecOn with
 | _ n ih =>
  by_cases h:n<10
  ·rw [jJ h];intro b hb;rw [List.mem_singleton] at hb;subst hb;rw [qp h];omega
  ·rw [tQ h];refine Qg (ih _ zo) fun b hb=>?_;rw [List.mem_singleton] at hb;subst hb;rw [qp zo];omega
theorem qy (n:Nat):num (decDigits n)=n:=by
 induction n using Nat.strongRecOn with
 | _ n ih =>
  by_cases h:n<10
  ·rw [jJ h,← List.nil_append [UInt8.ofNat (48+n)],uO,Nf,qp h];omega
  ·rw [tQ h,uO,ih _ zo,qp zo];omega
theorem ar1 (l:List UInt8):wC l→l≠[]→(l.head? =some 48→l.length=1)→decDigits (num l)=l :=
 OJ (Q:=fun l=>wC l→l≠[]→(l.head? =some 48→l.length=1)→decDigits (num l)=l) (fun _ h=>absurd rfl h) (fun l b ih hd _ h0=>by
  have hb:=hd b zi
  have hbe:UInt8.ofNat (48+(b.toNat - 48))=b:=by
   rw [show 48+(b.toNat - 48)=b.toNat by omega];exact UInt8.ofNat_toNat
  by_cases hl:l=[]
  ·subst hl;rw [uO,Nf,List.nil_append,jJ zo,Nat.zero_mul,Nat.zero_add,hbe]
  ·have hdl:wC l:=fun x hx=>hd x (by simp [hx])
   have hh:l.head? ≠some 48:=fun e=>by
    have e2:(l++[b]).head? =some 48:=by rw [List.head?_append,e];rfl
    have:=h0 e2;rw [List.length_append,List.length_singleton] at this;have:=List.length_pos_iff.mpr hl;omega
   have ih2:=ih hdl hl (fun e=>absurd e hh)
   have hpos:0<num l:=by
    rcases Nat.eq_zero_or_pos (num l) with e|e
    ·rw [e,jJ zo] at ih2;rw [← ih2] at hh;exact absurd rfl hh
    ·exact e
   rw [uO,tQ zo,show (num l*10+(b.toNat - 48)) / 10=num l by omega,show (num l*10+(b.toNat - 48))%10=b.toNat - 48 by omega,ih2,hbe]) l
theorem wV {n:Nat} (h:(decDigits n).head? =some 48):n=0:=by
 induction n using Nat.strongRecOn with
 | _ n ih =>
  by_cases hn:n<10
  ·rw [jJ hn] at h;simp only [List.head?_cons,Option.some.injEq] at h;have:=congrArg UInt8.toNat h;rw [qp hn] at this;simp at this
   omega
  ·rw [tQ hn] at h
   have h2:(decDigits (n / 10)).head? =some 48:=by
    cases hq:decDigits (n / 10) with
    | nil=>exact absurd hq (wS _)
    | cons x t=>rw [hq] at h;simpa using h
   have:=ih _ zo h2;omega
def oW (d:List UInt8) (neg:Bool):Bool :=
 d≠[]&&d.length≤600&&d.all (fun b=>48≤b.toNat&&b.toNat≤57)&& !(d.head? == some 48&&(neg || 1<d.length))
def cut (s:List UInt8):List UInt8 × Bool:=if s.head? =some 45 then (s.tail,true) else (s,false)
def mk (n:Nat) (neg:Bool):Int:=if neg then -(n:Int) else n
def whole (s:List UInt8):Option Int:=if oW (cut s).1 (cut s).2 then some (mk (num (cut s).1) (cut s).2) else none
theorem Pt {d:List UInt8} {neg:Bool} (h:oW d neg=true):wC d:=by
 intro b hb;unfold oW at h;simp only [Bool.and_eq_true] at h;have:=List.all_eq_true.mp h.1.2 b hb
 simpa using this
theorem rP {s:List UInt8} {z:Int} (h:whole s=some z):s=itoa z∧(decDigits z.natAbs).length≤600:=by
 unfold whole at h;split at h
 ·rename_i hok;have hd:=Pt hok;unfold oW at hok;simp only [Bool.and_eq_true,Bool.not_eq_true',decide_eq_true_eq] at hok;obtain ⟨⟨⟨h1,h2⟩, -⟩,h4⟩:=hok
  have hlen:(cut s).1.head? =some 48→(cut s).1.length=1:=fun e=>by
   have:=List.length_pos_iff.mpr h1;rw [e] at h4;simp at h4
   omega
  have hdn:=ar1 _ hd h1 hlen;simp only [Option.some.injEq] at h;unfold cut at *
  by_cases hs:s.head? =some 45
  ·rw [if_pos hs] at *;simp only at *
   have hz:0<num s.tail:=by
    rcases Nat.eq_zero_or_pos (num s.tail) with e|e
    ·rw [e,jJ zo] at hdn;rw [← hdn] at h4;simp at h4
    ·exact e
   subst h;have e1:mk (num s.tail) true= -((num s.tail:Nat):Int):=rfl;have e2:(-((num s.tail:Nat):Int)).natAbs=num s.tail:=by omega
   rw [e1,e2,hdn];refine ⟨?_,h2⟩;unfold itoa;rw [if_pos zo,e2,hdn];cases s with
   | nil=>simp at hs
   | cons x t=>simp only [List.head?_cons,Option.some.injEq] at hs;subst hs;rfl
  ·rw [if_neg hs] at *;simp only at *;subst h;have e1:mk (num s) false=((num s:Nat):Int):=rfl;rw [e1,Int.natAbs_natCast,hdn];refine ⟨?_,h2⟩;unfold itoa;rw [if_neg zo,Int.toNat_natCast,hdn]
 ·simp at h
theorem iF {z:Int} (h:(decDigits z.natAbs).length≤600):whole (itoa z)=some z:=by
 unfold whole
 by_cases hz:z<0
 ·have e:itoa z=45::decDigits z.natAbs:=by unfold itoa;rw [if_pos hz]
  have ec:cut (itoa z)=(decDigits z.natAbs,true):=by rw [e];rfl
  rw [ec];have hh:(decDigits z.natAbs).head? ≠some 48:=fun e=>by have:=wV e;omega
  rw [if_pos,qy]
  ·have:mk z.natAbs true=z:=by unfold mk;rw [if_pos rfl];omega
   rw [this]
  ·unfold oW;have hd:=pI z.natAbs;simp only [Bool.and_eq_true,decide_eq_true_eq,List.all_eq_true,Bool.not_eq_true',Bool.and_eq_false_iff];exact ⟨⟨⟨wS _,h⟩,hd⟩,.inl (by simpa using hh)⟩
 ·have e:itoa z=decDigits z.natAbs:=by unfold itoa;rw [if_neg hz,show z.toNat=z.natAbs by omega]
  have hnm:(itoa z).head? ≠some 45:=by
   rw [e];intro h1;have hd:=pI z.natAbs;cases hq:decDigits z.natAbs with
   | nil=>exact wS _ hq
   | cons x t =>
    rw [hq] at h1 hd;simp only [List.head?_cons,Option.some.injEq] at h1;have:=hd x zi;subst h1;simp at this
  have ec:cut (itoa z)=(decDigits z.natAbs,false):=by unfold cut;rw [if_neg hnm,e]
  rw [ec,if_pos,qy]
  ·have:mk z.natAbs false=z:=by unfold mk;simp;omega
   rw [this]
  ·unfold oW;have hd:=pI z.natAbs;simp only [Bool.and_eq_true,decide_eq_true_eq,List.all_eq_true,Bool.not_eq_true',Bool.and_eq_false_iff];refine ⟨⟨⟨wS _,h⟩,hd⟩,?_⟩
   by_cases hh:(decDigits z.natAbs).head? =some 48
   ·have:=wV hh
    right
    rw [this,jJ zo];rfl
   ·exact .inl (by simpa using hh)
theorem Qj (z:Int):cut (itoa z)=(decDigits z.natAbs,decide (z<0)):=by
 by_cases hz:z<0
 ·have e:itoa z=45::decDigits z.natAbs:=by unfold itoa;rw [if_pos hz]
  rw [e,decide_eq_true hz];rfl
 ·have e:itoa z=decDigits z.natAbs:=by unfold itoa;rw [if_neg hz,show z.toNat=z.natAbs by omega]
  have hnm:(itoa z).head? ≠some 45:=by
   rw [e];intro h1;have hd:=pI z.natAbs;cases hq:decDigits z.natAbs with
   | nil=>exact wS _ hq
   | cons x t =>
    rw [hq] at h1 hd;simp only [List.head?_cons,Option.some.injEq] at h1;have:=hd x zi;subst h1;simp at this
  unfold cut;rw [if_neg hnm,e,decide_eq_false hz]
theorem PG {a b:Int} (h:itoa a=itoa b):a=b:=by
 unfold itoa at h
 have key:∀ (n m:Nat),45::decDigits n≠decDigits m:=fun n m e=>by
  have:=pI m 45 (by rw [← e];simp);simp at this
 by_cases ha:a<0<;>by_cases hb:b<0
 ·rw [if_pos ha,if_pos hb] at h;have:=congrArg num (List.cons.inj h).2;rw [qy,qy] at this;omega
 ·rw [if_pos ha,if_neg hb] at h;exact absurd h (key _ _)
 ·rw [if_neg ha,if_pos hb] at h;exact absurd h.symm (key _ _)
 ·rw [if_neg ha,if_neg hb] at h;have:=congrArg num h;rw [qy,qy] at this;omega
theorem Lr {l:List Nat} {i:Nat} (hi:i<l.length) (hd:iM 1000000000 l) (hp:0<val 1000000000 (l.drop (i+1))) :
  decDigits (val 1000000000 (l.drop i))=decDigits (val 1000000000 (l.drop (i+1)))++(List.replicate (9 - (decDigits (l.getD i 0)).length) 48++decDigits (l.getD i 0)):=by
 have hx:l.getD i 0<10^9:=hd.getD zo i;rw [Ah 9 _ zo hx,vC hi,← DY 9 _ _ hp hx]
theorem Gb {l:List Nat} (h:Top l) (i:Nat):Top (l.drop i):=fun k hk=>by
 rw [List.length_drop] at hk;have:=h (i+k) zo;rw [List.getD_eq_getElem?_getD,List.getElem?_drop]
 rwa [List.getD_eq_getElem?_getD] at this
theorem wT {l:List Nat} (h:iM 1000000000 l):(decDigits (val 1000000000 l)).length≤9*l.length+1:=by
 refine nZ _ _ zo (Nat.lt_of_lt_of_le (jL zo h) ?_);rw [show (1000000000:Nat)=10^9 by rfl,← Nat.pow_mul];exact Nat.pow_le_pow_right zo zo
theorem Zu {l:List Nat} {n i:Nat} (hn:l.length=n+1) (ht:Top l) (hi:i≤n):0<val 1000000000 (l.drop i) :=
 jS zo (Gb ht i) (fun e=>by have:=congrArg List.length e;rw [List.length_drop,hn] at this;simp at this;omega)
theorem JD {l:List Nat} {n:Nat} (hn:l.length=n+1):val 1000000000 (l.drop n)=l.getD n 0:=by
 rw [kP zo,List.drop_eq_nil_of_le zo];simp [val]
theorem Qh {l:List Nat} {n:Nat} (hn:l.length=n+1) (hd:iM 1000000000 l) (ht:Top l):(decDigits (val 1000000000 l)).length=9*n+(decDigits (l.getD n 0)).length:=by
 have key:∀ j,j≤n→(decDigits (val 1000000000 (l.drop (n - j)))).length=9*j+(decDigits (l.getD n 0)).length:=fun j=>by
  induction j with
  | zero=>intro _;rw [Nat.sub_zero,JD hn];omega
  | succ j ih =>
   intro hj;have h1:=Lr (l:=l) (i:=n - (j+1)) zo hd (Zu hn ht zo);rw [show n - (j+1)+1=n - j by omega] at h1;have h2:(decDigits (l.getD (n - (j+1)) 0)).length≤9:=nZ 9 _ zo (hd.getD zo _);rw [h1,List.length_append,ih zo,List.length_append,List.length_replicate];omega
 have:=key n (Nat.le_refl _)
 rwa [Nat.sub_self,List.drop_zero] at this
theorem La {bs:List UInt8} {s e:Nat} (h:s≤e) (he:e≤bs.length):num (bs.drop s)=num ((bs.take e).drop s)*10^(bs.length - e)+num (bs.drop e):=by
 have e1:bs.drop s=(bs.take e).drop s++bs.drop e:=by
  conv=>lhs;rw [← List.take_append_drop e bs]
  rw [List.drop_append_of_le_length (by rw [List.length_take];omega)]
 rw [e1,GL,List.length_drop]
theorem Gg {bs:List UInt8} {st i:Nat} {x:UInt8} (hst:st≤i) (hx:bs[i]? =some x):(bs.take (i+1)).drop st=(bs.take i).drop st++[x]:=by
 have hi:i<bs.length:=by
  rcases Nat.lt_or_ge i bs.length with h|h
  ·exact h
  ·rw [List.getElem?_eq_none h] at hx;simp at hx
 rw [List.take_add_one,hx,Option.toList_some,List.drop_append_of_le_length (by rw [List.length_take];omega)]
theorem Iw {bs:List UInt8} (hd:wC bs) {st i:Nat} (h9:i - st≤9):num ((bs.take i).drop st)<1000000000:=by
 have h1:=aA8 ((bs.take i).drop st) (fun b hb=>hd b (List.mem_of_mem_take (List.mem_of_mem_drop hb)));have h2:(10:Nat)^((bs.take i).drop st).length≤10^9:=Nat.pow_le_pow_right zo (by rw [List.length_drop,List.length_take];omega);omega
theorem CU {bs:List UInt8} (hd:wC bs) {st i:Nat} {x:UInt8} (hst:st≤i) (h9:i - st<9) (hx:bs[i]? =some x) :
  (((num ((bs.take i).drop st):Nat):Int)*10%4294967296+((x.toNat:Int) - 48)%256)%4294967296=(num ((bs.take (i+1)).drop st):Nat):=by
 have hb:=hd x (List.mem_of_getElem? hx);have h2:=Iw hd (i:=i+1) (st:=st) zo;rw [Gg hst hx,uO] at h2 ⊢;omega
end Go.Dec
namespace Go.Mem
open Go Go.RowKit
variable {P:Program} {fn:Func} {R:Ending→World→Prop} {w:World} {tmps:Array Value}
theorem wH {p u:Tmp} {ty t:TypeId} {g:Nat} {cs:Array Value} {d:TypeDesc} (h:fn.results=#[.cell p ty,.tmp u])
  (hp:tmps.getD p undef= .pointer (some ⟨g,0,none⟩)) (hg:ah w g cs t) (hu:P.underlying ty=some d)
  (hd:(match d with| .struct _| .array _ _=>true| _=>false)=true) (hi:(P.info? ty).map (·.size)=some cs.size) :
  (results fn tmps).run P w= .ok (.tuple #[.agg cs,tmps.getD u undef]) w:=by
 rw [results_cell_tmp h,hp];simp only [asAddr,Sem.run_pure,Result.andThen_ok];rw [run_loadVar_row w g t ty cs (0,0) d hg hu hd hi];rfl
theorem aK {p u:Tmp} {ty t:TypeId} {g:Nat} {cs:Array Value} {d:TypeDesc} (h:fn.results=#[.cell p ty,.tmp u])
  (hp:tmps.getD p undef= .pointer (some ⟨g,0,none⟩)) (hg:ah w g cs t) (hu:P.underlying ty=some d)
  (hd:(match d with| .struct _| .array _ _=>true| _=>false)=true) (hi:(P.info? ty).map (·.size)=some cs.size)
  (k:R (.returned (.tuple #[.agg cs,tmps.getD u undef])) w):bodyPost P fn R .ret { tmps:=tmps,defers:=[] } w :=
 bodyPost_ret (wH h hp hg hu hd hi) rfl k
theorem dG {p:Tmp} {ty t:TypeId} {g:Nat} {cs:Array Value} {d:TypeDesc} (h:fn.results=#[.cell p ty])
  (hp:tmps.getD p undef= .pointer (some ⟨g,0,none⟩)) (hg:ah w g cs t) (hu:P.underlying ty=some d)
  (hd:(match d with| .struct _| .array _ _=>true| _=>false)=true) (hi:(P.info? ty).map (·.size)=some cs.size)
  (k:R (.returned (.agg cs)) w):bodyPost P fn R .ret { tmps:=tmps,defers:=[] } w :=
 bodyPost_ret (results_cell_row h tmps w g t cs (0,0) d hp hg hu hd hi) rfl k
end Go.Mem
