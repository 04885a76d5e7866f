/- Lemmas for the proof. No condition. -/
import Derived.Test.YtddblpggomphpaaGreatDoorProg
import Derived.Orders
import Derived.Below
import Derived.Tactics
import Derived.WalkKit
import Derived.WalkSpells
import Derived.WalkLawsBesides
import Derived.Lib.Hide
import Derived.Laws.OwnMore
import Derived.Lib.ItoaNum
import Derived.Laws.ResultCell
import Derived.Laws.Rows
import Derived.Shelf.Strings.Builder1
import Derived.Shelf.LaysM
import Derived.Shelf.Strconv.Itoa3
import Derived.Lib.AppendStr
import Derived.Lib.Builder
import Derived.Lib.AppendIntMem
set_option linter.unusedVariables false
set_option linter.unusedSimpArgs false
set_option maxRecDepth 100000
set_option maxHeartbeats 16000000
namespace Go
theorem zo {G:Prop} (h:G:=by omega):G:=h
theorem zk {G:Prop} (h:G:=by kernel_rfl):G:=h
theorem zd {G:Prop} (h:G:=by decide):G:=h
theorem zi {G:Prop} (h:G:=by simp):G:=h
theorem zh {G:Prop} (h:G):Go.RowKit.Hid G:=h
theorem zR {G:Prop} (h:G:=by exact Gb (by kernel_rfl)):G:=h
theorem zP {G:Prop} (h:G:=by exact fun _ _ _ _ hd h=>And.intro (hd.trans (And.left h)) (And.right h)):G:=h
theorem zM {G:Prop} (h:G:=by simp [intOf];omega):G:=h
end Go
namespace Go.Proofs.whole
open Go Go.RowKit
abbrev zq1:= @Tryz.func235
abbrev zq2:= @Tryz.ntmps235
abbrev zq3:= @Tryz.func228
abbrev zq4:= @Tryz.ntmps228
abbrev Gx:Go.TypeId:=254
abbrev GJ:= @Tryz.underlying254
end Go.Proofs.whole
namespace Go.Proofs.dG
open Go Go.RowKit
abbrev zq1:= @Tryz.func215
abbrev zq2:= @Tryz.ntmps215
abbrev zq3:= @Tryz.func208
abbrev zq4:= @Tryz.ntmps208
abbrev Gx:Go.TypeId:=121
abbrev GJ:= @Tryz.underlying121
abbrev zq7:= @Tryz.func141
abbrev zq8:= @Tryz.ntmps141
abbrev zq9:= @Tryz.func185
abbrev YB:= @Tryz.ntmps185
abbrev al7:= @Tryz.func187
abbrev al6:= @Tryz.ntmps187
abbrev al5:= @Tryz.func188
abbrev al4:= @Tryz.ntmps188
abbrev al3:= @Tryz.func186
abbrev al2:= @Tryz.ntmps186
abbrev al1:= @Tryz.func217
abbrev al0:= @Tryz.ntmps217
abbrev ak9:= @Tryz.func213
abbrev ak8:= @Tryz.ntmps213
abbrev ak7:= @Tryz.func214
abbrev ak6:= @Tryz.ntmps214
abbrev ak5:= @Tryz.func218
abbrev ak4:= @Tryz.ntmps218
abbrev UY:= @Tryz.func191
abbrev UW:= @Tryz.ntmps191
abbrev ak3:= @Tryz.func219
abbrev ak2:= @Tryz.ntmps219
abbrev YA:= @Tryz.func194
abbrev Yz:= @Tryz.ntmps194
abbrev Yy:= @Tryz.func192
abbrev Yx:= @Tryz.ntmps192
abbrev ak1:= @Tryz.func184
abbrev ak0:= @Tryz.ntmps184
abbrev aj9:= @Tryz.func170
abbrev aj8:= @Tryz.ntmps170
abbrev GL:= @Tryz.underlying123
abbrev aj7:= @Tryz.func168
abbrev aj6:= @Tryz.ntmps168
abbrev aj5:= @Tryz.func137
abbrev aj4:= @Tryz.ntmps137
abbrev aj3:= @Tryz.func135
abbrev aj2:= @Tryz.ntmps135
abbrev UU:= @Tryz.func136
abbrev UR:= @Tryz.ntmps136
abbrev Yw:= @Tryz.func193
abbrev Yv:= @Tryz.ntmps193
end Go.Proofs.dG
namespace Go.Proofs.matrix
open Go Go.RowKit
abbrev zq1:= @Tryz.func127
abbrev zq2:= @Tryz.ntmps127
abbrev zq3:= @Tryz.func190
abbrev zq4:= @Tryz.ntmps190
abbrev Gx:Go.TypeId:=97
abbrev GJ:= @Tryz.underlying97
abbrev zq7:= @Tryz.func60
abbrev zq8:= @Tryz.ntmps60
abbrev zq9:= @Tryz.func175
abbrev YB:= @Tryz.ntmps175
abbrev al7:= @Tryz.func182
abbrev al6:= @Tryz.ntmps182
abbrev al5:= @Tryz.func183
abbrev al4:= @Tryz.ntmps183
abbrev al3:= @Tryz.func67
abbrev al2:= @Tryz.ntmps67
abbrev al1:= @Tryz.func176
abbrev al0:= @Tryz.ntmps176
abbrev ak9:= @Tryz.func173
abbrev ak8:= @Tryz.ntmps173
abbrev ak7:= @Tryz.func174
abbrev ak6:= @Tryz.ntmps174
abbrev ak5:= @Tryz.func177
abbrev ak4:= @Tryz.ntmps177
abbrev UY:= @Tryz.func122
abbrev UW:= @Tryz.ntmps122
abbrev ak3:= @Tryz.func178
abbrev ak2:= @Tryz.ntmps178
abbrev YA:= @Tryz.func125
abbrev Yz:= @Tryz.ntmps125
abbrev Yy:= @Tryz.func123
abbrev Yx:= @Tryz.ntmps123
abbrev ak1:= @Tryz.func121
abbrev ak0:= @Tryz.ntmps121
abbrev aj9:= @Tryz.func69
abbrev aj8:= @Tryz.ntmps69
abbrev GL:= @Tryz.underlying99
abbrev aj7:= @Tryz.func140
abbrev aj6:= @Tryz.ntmps140
abbrev aj5:= @Tryz.func72
abbrev aj4:= @Tryz.ntmps72
abbrev aj3:= @Tryz.func62
abbrev aj2:= @Tryz.ntmps62
abbrev UU:= @Tryz.func132
abbrev UR:= @Tryz.ntmps132
abbrev Yw:= @Tryz.func124
abbrev Yv:= @Tryz.ntmps124
end Go.Proofs.matrix
namespace Go.Num
def val (B:Nat):List Nat→Nat
 | []=>0
 | d::l=>d+B*val B l
def dF (B:Nat) (l:List Nat):Prop:=∀ d∈l,d<B
theorem dF.nil {B:Nat}:dF B []:=fun _ h=>by cases h
theorem dF.cons {B d:Nat} {l:List Nat} (h:d<B) (k:dF B l):dF B (d::l):=fun x hx=>by
 rcases List.mem_cons.1 hx with e|e
 ·rw [e];exact h
 ·exact k x e
theorem dF.head {B d:Nat} {l:List Nat} (h:dF B (d::l)):d<B:=h d zi
theorem dF.tail {B d:Nat} {l:List Nat} (h:dF B (d::l)):dF B l:=fun x hx=>h x (by simp [hx])
theorem dF.append {B:Nat} {l m:List Nat} (h:dF B l) (k:dF B m):dF B (l++m):=fun x hx=>by
 rcases List.mem_append.1 hx with e|e
 ·exact h x e
 ·exact k x e
theorem dF.snoc {B d:Nat} {l:List Nat} (h:dF B l) (k:d<B):dF B (l++[d]):=h.append (dF.nil.cons k)
theorem dF.take {B:Nat} {l:List Nat} (h:dF B l) (n:Nat):dF B (l.take n):=fun x hx=>h x (List.mem_of_mem_take hx)
theorem dF.drop {B:Nat} {l:List Nat} (h:dF B l) (n:Nat):dF B (l.drop n):=fun x hx=>h x (List.mem_of_mem_drop hx)
theorem dF.get {B:Nat} {l:List Nat} (h:dF B l) {i:Nat} (hi:i<l.length):l[i]<B:=h _ (List.getElem_mem hi)
theorem dF.getD {B:Nat} {l:List Nat} (h:dF B l) (hB:0<B) (i:Nat):l.getD i 0<B:=by
 by_cases hi:i<l.length
 ·simpa [hi] using h.get hi
 ·simpa [Nat.le_of_not_lt hi] using hB
theorem val_append (B:Nat):∀ (l m:List Nat),val B (l++m)=val B l+B^l.length*val B m
 | [],m=>by simp [val]
 | d::l,m=>by
  simp only [List.cons_append,val,val_append B l m,List.length_cons,Nat.pow_succ,Nat.mul_add,Nat.add_assoc]
  rw [show B*(B^l.length*val B m)=B^l.length*B*val B m by rw [← Nat.mul_assoc,Nat.mul_comm B]]
theorem gQ (B:Nat) (l:List Nat) (d:Nat):val B (l++[d])=val B l+B^l.length*d:=by
 rw [val_append];simp [val]
theorem xQ (B n:Nat):val B (List.replicate n 0)=0:=by
 induction n with
 | zero=>rfl
 | succ n ih=>simp [List.replicate_succ,val,ih]
theorem fD {B:Nat} (hB:0<B):∀ {l:List Nat},dF B l→val B l<B^l.length
 | [],_=>by simp [val]
 | d::l,h=>by
  have h1:=fD hB h.tail
  have h2:=h.head
  simp only [val,List.length_cons,Nat.pow_succ]
  have:B*(val B l+1)≤B*B^l.length:=Nat.mul_le_mul_left B h1
  rw [Nat.mul_comm (B^l.length) B]
  rw [Nat.mul_add] at this
  omega
def bN (B n:Nat):List Nat:=if _h:1<B∧0<n then n%B::bN B (n / B) else []
termination_by n
decreasing_by exact Nat.div_lt_self _h.2 _h.1
theorem dX (B:Nat):bN B 0=[]:=by unfold bN;simp
theorem jA {B n:Nat} (hB:1<B) (h:0<n):bN B n=n%B::bN B (n / B):=by rw [bN];simp [hB,h]
theorem aN {B:Nat} (hB:1<B) (n:Nat):val B (bN B n)=n:=by
 induction n using Nat.strongRecOn with
 | _ n ih =>
  rcases Nat.eq_zero_or_pos n with h|h
  ·subst h;simp [dX,val]
  ·rw [jA hB h,val,ih _ (Nat.div_lt_self h hB)]
   exact Nat.mod_add_div n B
theorem aS {B:Nat} (hB:1<B) (n:Nat):dF B (bN B n):=by
 induction n using Nat.strongRecOn with
 | _ n ih =>
  rcases Nat.eq_zero_or_pos n with h|h
  ·subst h;rw [dX];exact dF.nil
  ·rw [jA hB h];exact (ih _ (Nat.div_lt_self h hB)).cons (Nat.mod_lt _ zo)
def Top (l:List Nat):Prop:=∀ k,l.length=k+1→l.getD k 0≠0
theorem Top.nil:Top []:=fun _ h=>by cases h
theorem Top.tail {d:Nat} {l:List Nat} (h:Top (d::l)):Top l:=fun k hk=>by
 have:=h (k+1) (by simp [hk])
 simpa using this
theorem Top.snoc {l:List Nat} {d:Nat} (h:d≠0):Top (l++[d]):=fun k hk=>by
 have:k=l.length:=by simp at hk;omega
 subst this;simpa using h
theorem Top.cons {d:Nat} {l:List Nat} (h:Top l) (hn:l≠[]):Top (d::l):=fun k hk=>by
 simp at hk
 cases k with
 | zero=>exact absurd (List.length_eq_zero_iff.1 hk) hn
 | succ k=>have:=h k hk;simpa using this
theorem mM {B n:Nat} (hB:1<B):bN B n=[]↔n=0:=by
 constructor
 ·intro h
  rcases Nat.eq_zero_or_pos n with h0|h0
  ·exact h0
  ·rw [jA hB h0] at h;cases h
 ·rintro rfl;exact dX B
theorem mD {B:Nat} (hB:1<B) (n:Nat):Top (bN B n):=by
 induction n using Nat.strongRecOn with
 | _ n ih =>
  rcases Nat.eq_zero_or_pos n with h|h
  ·subst h;rw [dX];exact Top.nil
  ·rw [jA hB h]
   by_cases h2:n / B=0
   ·rw [h2,dX]
    intro k hk
    have:k=0:=by simp at hk;omega
    subst this
    have:n<B:=(Nat.div_eq_zero_iff_lt zo).1 h2
    simpa [Nat.mod_eq_of_lt this] using Nat.pos_iff_ne_zero.1 h
   ·exact (ih _ (Nat.div_lt_self h hB)).cons (fun e=>h2 ((mM hB).1 e))
theorem gu {B:Nat} (hB:0<B):∀ {l:List Nat},Top l→l≠[]→0<val B l
 | [],_,h=>absurd rfl h
 | [d],h,_=>by have:=h 0 rfl;simp [val] at this ⊢;omega
 | d::e::l,h,_=>by
  have:=gu hB h.tail zi
  simp only [val] at this ⊢
  have:0<B*(e+B*val B l):=Nat.mul_pos hB this
  omega
theorem Bv {B:Nat} (hB:1<B):∀ {l:List Nat},dF B l→Top l→bN B (val B l)=l
 | [],_,_=>by simp [val,dX]
 | d::l,hd,ht=>by
  have hp:=gu (B:=B) zo ht zi
  rw [jA hB hp]
  simp only [val]
  have h1:(d+B*val B l)%B=d:=by rw [Nat.add_mul_mod_self_left];exact Nat.mod_eq_of_lt hd.head
  have h2:(d+B*val B l) / B=val B l:=by
   rw [Nat.add_mul_div_left _ _ zo,Nat.div_eq_of_lt hd.head,Nat.zero_add]
  rw [h1,h2,Bv hB hd.tail ht.tail]
theorem jm {l:List Nat} {k:Nat} (h:k<l.length):l.take (k+1)=l.take k++[l.getD k 0]:=by
 rw [List.take_succ_eq_append_getElem h]
 simp [h]
theorem bH (B:Nat) {l:List Nat} {k:Nat} (h:k<l.length):val B (l.take (k+1))=val B (l.take k)+B^k*l.getD k 0:=by
 rw [jm h,gQ]
 simp [Nat.min_eq_left (Nat.le_of_lt h)]
def sz (B n:Nat):Nat:=(bN B n).length
theorem ji (B:Nat):sz B 0=0:=by simp [sz,dX]
theorem gM {B:Nat} (hB:1<B) (n:Nat):n<B^sz B n:=by
 have:=fD zo (aS hB n)
 rwa [aN hB] at this
theorem cK {B:Nat} (hB:1<B):∀ (k n:Nat),n<B^k→sz B n≤k
 | 0,n,h=>by
  have:n=0:=by simpa using h
  subst this;simp [ji]
 | k+1,n,h=>by
  rcases Nat.eq_zero_or_pos n with h0|h0
  ·subst h0;simp [ji]
  ·unfold sz
   rw [jA hB h0,List.length_cons]
   have:n / B<B^k:=by
    rw [Nat.div_lt_iff_lt_mul zo]
    rwa [Nat.pow_succ] at h
   have:=cK hB k (n / B) this
   unfold sz at this
   omega
theorem Fj {B:Nat} (hB:1<B) {n k:Nat} (h:sz B n=k+1):B^k≤n:=by
 rcases Nat.lt_or_ge n (B^k) with h1|h1
 ·have:=cK hB k n h1;omega
 ·exact h1
theorem iH {B:Nat} (hB:1<B) {m n:Nat} (h:m≤n):sz B m≤sz B n :=
 cK hB _ _ (Nat.lt_of_le_of_lt h (gM hB n))
theorem QF {B:Nat} (hB:1<B) (m n:Nat):sz B (m+n)≤max (sz B m) (sz B n)+1:=by
 refine cK hB _ _ ?_
 have h1:=gM hB m
 have h2:=gM hB n
 have h3:B^sz B m≤B^max (sz B m) (sz B n):=Nat.pow_le_pow_right zo (Nat.le_max_left _ _)
 have h4:B^sz B n≤B^max (sz B m) (sz B n):=Nat.pow_le_pow_right zo (Nat.le_max_right _ _)
 rw [Nat.pow_succ]
 have:B^max (sz B m) (sz B n)*2≤B^max (sz B m) (sz B n)*B:=Nat.mul_le_mul_left _ hB
 omega
theorem qO {B:Nat} (hB:1<B) (m n:Nat):sz B (m*n)≤sz B m+sz B n:=by
 refine cK hB _ _ ?_
 rw [Nat.pow_add]
 exact Nat.mul_lt_mul'' (gM hB m) (gM hB n)
def trimLen (l:List Nat):Nat→Nat
 | 0=>0
 | n+1=>if l.getD n 0=0 then trimLen l n else n+1
theorem trimLen_le (l:List Nat):∀ n,trimLen l n≤n
 | 0=>Nat.le_refl _
 | n+1=>by
  unfold trimLen
  split
  ·exact Nat.le_succ_of_le (trimLen_le l n)
  ·exact Nat.le_refl _
theorem wu (l:List Nat):∀ n,n≤l.length→Top (l.take (trimLen l n))
 | 0,_=>Top.nil
 | n+1,h=>by
  unfold trimLen
  split
  ·exact wu l n zo
  ·rename_i h0
   intro k hk
   have:k=n:=by simp [Nat.min_eq_left h] at hk;omega
   subst this
   rw [jm zo]
   have hl:(l.take k).length=k:=by simp;omega
   rw [List.getD_eq_getElem?_getD,List.getElem?_append_right zo]
   simpa [hl] using h0
theorem wm (B:Nat) (l:List Nat):∀ n,n≤l.length→val B (l.take (trimLen l n))=val B (l.take n)
 | 0,_=>rfl
 | n+1,h=>by
  unfold trimLen
  split
  ·rename_i h0
   rw [wm B l n zo,bH B zo,h0];simp
  ·rfl
theorem tY {B:Nat} (hB:0<B) {l m:List Nat} {k:Nat} (hl:dF B l) (hk:k<l.length) (hk':k<m.length) (hd:l.drop (k+1)=m.drop (k+1)) (h:l.getD k 0<m.getD k 0):val B l<val B m:=by
 have e:∀ x:List Nat,k<x.length→val B x=val B (x.take k)+B^k*x.getD k 0+B^(k+1)*val B (x.drop (k+1)):=fun x hx=>by
  have h1:x=x.take (k+1)++x.drop (k+1):=(List.take_append_drop _ _).symm
  have h2:(x.take (k+1)).length=k+1:=by simp;omega
  conv=>lhs;rw [h1,val_append,h2,bH B hx]
 rw [e l hk,e m hk',hd]
 have h1:=fD hB (hl.take k)
 have h2:(l.take k).length=k:=by simp;omega
 rw [h2] at h1
 have h3:B^k*(l.getD k 0+1)≤B^k*m.getD k 0:=Nat.mul_le_mul_left _ h
 rw [Nat.mul_add] at h3
 omega
theorem sN {B:Nat} (hB:1<B) {a b:Nat} (h:sz B a<sz B b):a<b:=by
 rcases Nat.lt_or_ge a b with h1|h1
 ·exact h1
 ·have:=iH hB h1;omega
theorem iO {l:List Nat} {k:Nat} (h:k<l.length):l.drop k=l.getD k 0::l.drop (k+1):=by
 rw [List.drop_eq_getElem_cons h];simp [h]
theorem JR {B:Nat} (hB:1<B) {l s:List Nat} (ht:Top l) (hs:dF B s) (hlen:s.length=l.length) (h:val B l≤val B s):Top s:=by
 intro k hk h0
 have hk':l.length=k+1:=by omega
 have h1:=ht k hk'
 have h2:val B s<B^k:=by
  have e:s=s.take k++[s.getD k 0]:=by rw [← jm zo,← hk,List.take_length]
  rw [e,h0,gQ,Nat.mul_zero,Nat.add_zero]
  have:=fD (by omega:0<B) (hs.take k)
  rwa [show (s.take k).length=k by simp;omega] at this
 have h3:B^k≤val B l:=by
  have e:l=l.take k++[l.getD k 0]:=by rw [← jm zo,← hk',List.take_length]
  rw [e,gQ,show (l.take k).length=k by simp;omega]
  have:B^k*1≤B^k*l.getD k 0:=Nat.mul_le_mul_left _ zo
  omega
 omega
theorem set_mid {s:List Nat} {n k d:Nat} (hs:s.length=k) (hk:k<n):(s++List.replicate (n - k) 0).set k d=(s++[d])++List.replicate (n - (k+1)) 0:=by
 obtain ⟨j,hj⟩:∃ j,n - k=j+1:=⟨n - k - 1,by omega⟩
 rw [hj,show n - (k+1)=j by omega,List.replicate_succ,List.set_append_right _ _ zo,hs,Nat.sub_self]
 simp
theorem S9 {s:List Nat} {n k:Nat} (hs:s.length=k):(s++List.replicate n 0).getD k 0=0:=by
 rw [List.getD_eq_getElem?_getD,List.getElem?_append_right zo,hs,Nat.sub_self]
 cases n<;>simp [List.replicate_succ]
theorem AV {B:Nat} {l m s:List Nat} {k c d c':Nat} (hk:k<l.length) (hs:s.length=k) (he:val B s+val B (m.take k)=val B (l.take k)+c*B^k) (h:d+m.getD k 0+c=l.getD k 0+c'*B) :
  val B (s++[d])+val B (m.take (k+1))=val B (l.take (k+1))+c'*B^(k+1):=by
 have hm:val B (m.take (k+1))=val B (m.take k)+B^k*m.getD k 0:=by
  by_cases hkm:k<m.length
  ·exact bH B hkm
  ·rw [List.take_of_length_le zo,List.take_of_length_le zo]
   simp [Nat.le_of_not_lt hkm]
 rw [gQ,bH B hk,hm,hs,Nat.pow_succ]
 have h2:=congrArg (B^k* ·) h
 simp only [Nat.mul_add] at h2
 rw [show c'*(B^k*B)=B^k*(c'*B) by rw [Nat.mul_left_comm]]
 rw [Nat.mul_comm c (B^k)] at he
 omega
theorem Ev (B:Nat):∀ (l:List Nat) (t x:Nat),t<l.length→val B (l.set t x)+B^t*l.getD t 0=val B l+B^t*x
 | [],_,_,h=>by cases h
 | a::l,0,x,_=>by simp [val];omega
 | a::l,t+1,x,h=>by
  have ih:=Ev B l t x (by simpa using h)
  simp only [List.set_cons_succ,val,List.getD_cons_succ,Nat.pow_succ]
  have h2:=congrArg (B* ·) ih
  simp only [Nat.mul_add] at h2
  rw [show B^t*B*l.getD t 0=B*(B^t*l.getD t 0) by rw [Nat.mul_comm (B^t) B,Nat.mul_assoc],show B^t*B*x=B*(B^t*x) by rw [Nat.mul_comm (B^t) B,Nat.mul_assoc]]
  omega
theorem dF.set {B:Nat} {l:List Nat} (h:dF B l) (t:Nat) {x:Nat} (hx:x<B):dF B (l.set t x):=fun y hy=>by
 rcases List.mem_or_eq_of_mem_set hy with e|e
 ·exact h y e
 ·rw [e];exact hx
theorem zI {l:List Nat} {t u x:Nat} (h:t≠u):(l.set t x).getD u 0=l.getD u 0:=by simp [List.getElem?_set_ne h]
theorem Ak {B:Nat} {m p:List Nat} {i j c d V:Nat} (hj:j<m.length) (hp:i+j<p.length) (he:val B p+c*B^(i+j)=V+B^i*(d*val B (m.take j))) :
  val B (p.set (i+j) ((c+(p.getD (i+j) 0+d*m.getD j 0))%B))+(c+(p.getD (i+j) 0+d*m.getD j 0)) / B*B^(i+j+1)=V+B^i*(d*val B (m.take (j+1))):=by
 have h1:=Ev B p (i+j) ((c+(p.getD (i+j) 0+d*m.getD j 0))%B) hp
 rw [bH B hj]
 generalize hX:c+(p.getD (i+j) 0+d*m.getD j 0)=X at *
 have h2:B^(i+j)*(X%B)+X / B*B^(i+j+1)=B^(i+j)*X:=by
  rw [Nat.pow_succ,show X / B*(B^(i+j)*B)=B^(i+j)*(B*(X / B)) by rw [Nat.mul_left_comm,Nat.mul_comm (X / B) B],← Nat.mul_add,Nat.mod_add_div]
 have h3:B^(i+j)*X=c*B^(i+j)+B^(i+j)*p.getD (i+j) 0+B^i*(d*(B^j*m.getD j 0)):=by
  rw [← hX,Nat.mul_add,Nat.mul_add,Nat.mul_comm c,Nat.pow_add]
  rw [show B^i*(d*(B^j*m.getD j 0))=B^i*B^j*(d*m.getD j 0) by rw [Nat.mul_assoc (B^i),Nat.mul_left_comm d]]
  omega
 rw [Nat.mul_add d,Nat.mul_add (B^i)]
 omega
theorem yL {B c x d e:Nat} (hc:c<B) (hx:x<B) (hd:d<B) (he:e<B):(c+(x+d*e)) / B<B:=by
 rw [Nat.div_lt_iff_lt_mul zo]
 have h1:d*e≤(B - 1)*(B - 1):=Nat.mul_le_mul zo zo
 obtain ⟨b,rfl⟩:∃ b,B=b+1:=⟨B - 1,by omega⟩
 simp only [Nat.add_sub_cancel] at h1
 have h2:(b+1)*(b+1)=b*b+2*b+1:=by simp only [Nat.add_mul,Nat.mul_add];omega
 omega
theorem yK {B:Nat} {l m p:List Nat} {i c:Nat} (hi:i<l.length) (hp:i+m.length<p.length) (hz:p.getD (i+m.length) 0=0)
  (he:val B p+c*B^(i+m.length)=val B (l.take i)*val B m+B^i*(l.getD i 0*val B m)):val B (p.set (i+m.length) c)=val B (l.take (i+1))*val B m:=by
 have h1:=Ev B p (i+m.length) c hp
 rw [hz,Nat.mul_zero,Nat.add_zero,Nat.mul_comm _ c] at h1
 rw [h1,he,bH B hi,Nat.add_mul,Nat.mul_assoc]
theorem Ao {B:Nat} {l s:List Nat} {j d r:Nat} (hj:j<l.length) (he:val B (l.drop (j+1))=d*val B s+r) :
  val B (l.drop j)=d*val B ((r*B+l.getD j 0) / d::s)+(r*B+l.getD j 0)%d:=by
 rw [iO hj]
 simp only [val]
 rw [he]
 have h:=Nat.div_add_mod (r*B+l.getD j 0) d
 have e1:d*((r*B+l.getD j 0) / d+B*val B s)=d*((r*B+l.getD j 0) / d)+B*(d*val B s):=by rw [Nat.mul_add,Nat.mul_left_comm]
 have e2:B*(d*val B s+r)=B*(d*val B s)+r*B:=by rw [Nat.mul_add,Nat.mul_comm B r]
 rw [e1,e2]
 omega
theorem yM {B d r x:Nat} (hr:r<d) (hx:x<B):(r*B+x) / d<B:=by
 rw [Nat.div_lt_iff_lt_mul zo]
 have h:(r+1)*B≤d*B:=Nat.mul_le_mul_right _ hr
 rw [Nat.add_mul,Nat.one_mul] at h
 rw [Nat.mul_comm B d]
 omega
theorem wC {s:List Nat} {k d:Nat}:(List.replicate (k+1) 0++s).set k d=List.replicate k 0++d::s:=by
 rw [List.replicate_succ',List.append_assoc,List.set_append_right _ _ zi]
 simp
theorem uy {s:List Nat} {k j:Nat} (h:j<k):(List.replicate k 0++s).getD j 0=0:=by
 rw [List.getD_eq_getElem?_getD,List.getElem?_append_left (by simpa using h)]
 simp [h]
theorem qP {B:Nat} {l:List Nat} {j:Nat} (hj:j<l.length):val B (l.drop j)=val B (l.drop (j+1))*B+l.getD j 0:=by
 rw [iO hj]
 simp only [val]
 rw [Nat.mul_comm B,Nat.add_comm]
theorem yJ (B:Nat) (hB:0<B):∀ (l:List Nat) (k:Nat),val B (l.drop k)≤val B l
 | [],k=>by simp
 | d::l,0=>by simp
 | d::l,k+1=>by
  have h:=yJ B hB l k
  have h2:val B l*1≤val B l*B:=Nat.mul_le_mul_left _ hB
  rw [List.drop_succ_cons]
  simp only [val]
  rw [Nat.mul_comm B]
  omega
theorem E8 {pre s u post:List Nat} {i j d:Nat} (hj:pre.length=j) (hs:s.length=i) (hi:i<u.length):(pre++(s++u.drop i)++post).set (j+i) d=pre++((s++[d])++u.drop (i+1))++post:=by
 rw [List.append_assoc,List.set_append_right _ _ zo,hj,Nat.add_sub_cancel_left,List.append_assoc s,List.set_append_right _ _ zo,hs,Nat.sub_self,iO hi,List.cons_append,List.set_cons_zero]
 simp
theorem getD_in {s u:List Nat} {i t:Nat} (hs:s.length=i) (ht:i≤t):(s++u.drop i).getD t 0=u.getD t 0:=by
 rw [List.getD_eq_getElem?_getD,List.getElem?_append_right zo,List.getElem?_drop,hs,Nat.add_sub_cancel' ht,← List.getD_eq_getElem?_getD]
end Go.Num
namespace Go.SW
open Go Go.RowKit
inductive K where
 | pure|read|alloc (cs:Array Value) (T:TypeId)|ext|fin
def K.gD:K→Bool
 | .alloc .. =>true
 | _=>false
def K.isFin:K→Bool
 | .fin=>true
 | _=>false
section
variable (P:Program) (ops:Array Oper) (Q:Exit→Act→World→Prop)
def walk (N:Nat):List (K × Nat)→List Nat→Act→World→Prop
 | [],_,a,w=>∀ w',Below w.heap.size w w'→Q .normal a w'
 | (k,i)::is,A,a,w =>
  match ops[i]? with
  | none=>False
  | some o =>
   match k with
   | .pure=>if Region.wanted o (yielded ops a.tmps) then ∃ v,(∀ w',(execOp a.eval o).run P w'= .ok (.value v) w')∧walk N is A (a.put o.dst v) w else walk N is A (a.put o.dst undef) w
   | .read=>if Region.wanted o (yielded ops a.tmps) then ∃ v,(∀ w',Below w.heap.size w w'→(execOp a.eval o).run P w'= .ok (.value v) w')∧walk N is A (a.put o.dst v) w else walk N is A (a.put o.dst undef) w
   | .alloc cs T=>∀ b w',Below w.heap.size w w'→N≤b→b<w'.heap.size→b∉A→w'.heap[b]? =some (.cells cs T (0,0))→walk N is (b::A) (a.put o.dst (.pointer (some ⟨b,0,none⟩))) w'
   | .ext=>if Region.wanted o (yielded ops a.tmps) then ∀ w',Below w.heap.size w w'→o.wp P a w' (fun a' w''=>Below w'.heap.size w' w''∧walk N is A a' w'') Q else walk N is A (a.put o.dst undef) w
   | .fin=>∀ w',Below w.heap.size w w'→wpOps P ops Q (i::is.map (·.2)) a w'
end
section
variable {P:Program} {ops:Array Oper} {Q:Exit→Act→World→Prop}
theorem iW {w w1 w2:World} (h:Below w.heap.size w w1) (k:Below w1.heap.size w1 w2):Below w.heap.size w w2 :=
 h.trans (k.mono h.size)
theorem nR {N:Nat}:∀ (is:List (K × Nat)) (A:List Nat) (a:Act) (w w1:World),Below w.heap.size w w1→walk P ops Q N is A a w→walk P ops Q N is A a w1
 | [],_,_,_,_,hb,h=>fun w' hw'=>h w' (iW hb hw')
 | (k,i)::is,A,a,w,w1,hb,h=>by
  unfold walk at h ⊢
  cases ho:ops[i]? with
  | none=>simp only [ho] at h
  | some o =>
   simp only [ho] at h ⊢
   cases k with
   | pure =>
    simp only at h ⊢
    split at h
    ·rename_i hw
     obtain ⟨v,h1,h2⟩:=h
     simp only [hw,if_true]
     exact ⟨v,h1,nR is _ _ _ _ hb h2⟩
    ·rename_i hw
     simp only [hw,if_false,Bool.false_eq_true]
     exact nR is _ _ _ _ hb h
   | read =>
    simp only at h ⊢
    split at h
    ·rename_i hw
     obtain ⟨v,h1,h2⟩:=h
     simp only [hw,if_true]
     exact ⟨v,fun w' hw'=>h1 w' (iW hb hw'),nR is _ _ _ _ hb h2⟩
    ·rename_i hw
     simp only [hw,if_false,Bool.false_eq_true]
     exact nR is _ _ _ _ hb h
   | alloc cs T=>exact fun b w' hw'=>h b w' (iW hb hw')
   | ext =>
    simp only at h ⊢
    split at h
    ·rename_i hw
     simp only [hw,if_true]
     exact fun w' hw'=>h w' (iW hb hw')
    ·rename_i hw
     simp only [hw,if_false,Bool.false_eq_true]
     exact nR is _ _ _ _ hb h
   | fin=>exact fun w' hw'=>h w' (iW hb hw')
/-! ### The check on a region, by computation -/
def anc (ops:Array Oper):Nat→Nat→Nat→Bool
 | 0,_,_=>false
 | n+1,i,u=>match ops[i]? with
  | none=>false
  | some o=>o.after.any (fun e=>Region.binds .any e&&e.on == u) || o.after.any (fun e=>Region.binds .any e&&anc ops n e.on u)
def edge (ops:Array Oper) (i u:Nat):Bool:=match ops[i]? with
 | none=>false
 | some o=>o.after.any (fun e=>Region.binds .any e&&e.on == u)
def fwd (ops:Array Oper) (p q:Nat):Bool:=match ops[p]?, ops[q]? with
 | some x,some y =>
  (match y.dst with|some d=> !(x.looksAt ops).contains d&&x.dst != some d|none=>true) &&
  (match x.dst with|some d=> !(y.looksAt ops).contains d || edge ops q p|none=>true)
 | _,_=>false
def vF (ops:Array Oper) (p:Nat):Bool:=match ops[p]? with
 | some x=>(match x.dst with|some d=> !(x.looksAt ops).contains d|none=>true)
 | none=>false
theorem q9 {s a:Act} {o:Oper} (hs:∀ cs b,o.op≠ .select cs b) (h:∀ t,t∈o.looksAt ops→s.tmps[t]? =a.tmps[t]?):execOp s.eval o=execOp a.eval o :=
 execOp_congr o hs fun x hx=>by
  cases x with
  | tmp t =>
   have:=h t (List.mem_append_left _ (List.mem_filterMap.2 ⟨.tmp t,by simpa using hx,rfl⟩))
   simp only [Act.eval,Array.getD_eq_getD_getElem?, this]
  | const v=>rfl
  | global g=>rfl
  | func f=>rfl
theorem ny {s a:Act} {o:Oper} (h:∀ t,t∈o.looksAt ops→s.tmps[t]? =a.tmps[t]?):Region.wanted o (yielded ops s.tmps)=Region.wanted o (yielded ops a.tmps):=by
 unfold Region.wanted
 cases hg:o.guard with
 | none=>rfl
 | some gw =>
  obtain ⟨g,want⟩:=gw
  have hy:yielded ops s.tmps g=yielded ops a.tmps g:=by
   unfold yielded
   cases ht:(ops[g]?).bind (·.dst) with
   | none=>rfl
   | some t =>
    have:=h t (by simp [Oper.looksAt,hg,ht])
    simp [this]
  simp only [hy]
theorem zY {i:Nat} {o:Oper} {s a:Act} {w:World} {K K':Act→World→Prop} (hi:ops[i]? =some o) (hs:∀ cs b,o.op≠ .select cs b)
  (hl:∀ t,t∈o.looksAt ops→s.tmps[t]? =a.tmps[t]?) (hd:s.defers=a.defers)
  (hQ:∀ c (a s:Act) w,s.defers=a.defers→Q (.panic c) a w→Q (.panic c) s w)
  (hK:∀ ds v w',K (({ a with defers:=ds }:Act).put o.dst v) w'→K' (({ s with defers:=ds }:Act).put o.dst v) w')
  (h:wpOp P ops Q i K a w):wpOp P ops Q i K' s w:=by
 have hev:=q9 hs hl
 have hw:=ny (ops:=ops) hl
 have hK0:∀ v w',K (a.put o.dst v) w'→K' (s.put o.dst v) w':=fun v w' hk=>by
  have:=hK a.defers v w' hk
  rw [← hd] at this
  exact this
 unfold wpOp at *
 simp only [hi] at *
 rw [hw]
 split
 ·rename_i hwt
  simp only [hwt,if_true] at h
  rcases h with h|⟨hasks,hlets⟩
  case inr=>exact .inr ⟨by unfold Oper.asks at*; rw [hev];exact hasks,hlets⟩
  refine .inl ?_
  unfold Oper.wp at *
  rw [hev]
  generalize (execOp a.eval o).run P w=r at *
  cases r with
  | ok n w' =>
   cases n<;>simp only [Oper.upon] at h ⊢
   case value u=>exact hK0 _ _ h
   case skip=>exact hK0 _ _ h
   case defer d=>rw [hd];exact hK _ _ _ h
   case enter f args =>
    refine Calls.mono h fun e w'' he=>?_
    cases e with
    | returned u=>exact hK0 _ _ he
    | panicked c=>exact hQ _ _ _ _ hd he
    | outgrown=>exact he
   case row row args=>exact Rows.mono h fun u w'' he=>hK0 _ _ he
  | halt x w' =>
   cases x<;>simp only [Oper.upon] at h ⊢
   case panic u=>exact hQ _ _ _ _ hd h
 ·rename_i hwt
  simp only [hwt,if_false,Bool.false_eq_true] at h
  exact hK0 _ _ h
def oV (ops:Array Oper) (i:Nat):Option Tmp:=(ops[i]?).bind (·.dst)
theorem dJ {i:Nat} {o:Oper} (h:ops[i]? =some o):oV ops i=o.dst:=by simp [oV,h]
theorem kQ {p q:Nat} {x y:Oper} (hx:ops[p]? =some x) (hy:ops[q]? =some y) (h:fwd ops p q=true) :
  (∀ d,y.dst=some d→d∉x.looksAt ops∧x.dst≠some d)∧(∀ d,x.dst=some d→d∈y.looksAt ops→edge ops q p=true):=by
 unfold fwd at h
 simp only [hx,hy,Bool.and_eq_true] at h
 refine ⟨fun d hd=>?_,fun d hd hm=>?_⟩
 ·have h1:=h.1
  simp only [hd,Bool.and_eq_true,Bool.not_eq_true',bne_iff_ne,ne_eq] at h1
  exact ⟨by simpa using h1.1,h1.2⟩
 ·have h2:=h.2
  simp only [hd,Bool.or_eq_true,Bool.not_eq_true'] at h2
  rcases h2 with h2|h2
  ·simp [hm] at h2
  ·exact h2
theorem uD {q p:Nat} {y:Oper} (hy:ops[q]? =some y) (h:edge ops q p=true):∃ e∈y.after,Region.binds .any e=true∧e.on=p:=by
 unfold edge at h
 simp only [hy] at h
 obtain ⟨e,he,hb⟩:=Array.any_eq_true'.1 h
 simp only [Bool.and_eq_true,beq_iff_eq] at hb
 exact ⟨e,he,hb.1,hb.2⟩
def Closed (ops:Array Oper) (listed:Array Bool):Prop:=∀ j o,ops[j]? =some o→listed.getD j false=true→∀ e∈o.after,Region.binds .any e=true→listed.getD e.on false=true
theorem BK {listed:Array Bool} (hc:Closed ops listed):∀ (n i u:Nat),anc ops n i u=true→(∀ o,ops[i]? =some o→∀ e∈o.after,Region.binds .any e=true→listed.getD e.on false=true)→listed.getD u false=true
 | 0,_,_,h,_=>by simp [anc] at h
 | n+1,i,u,h,hr=>by
  unfold anc at h
  cases ho:ops[i]? with
  | none=>simp only [ho] at h;cases h
  | some o =>
   simp only [ho,Bool.or_eq_true] at h
   rcases h with h|h
   ·obtain ⟨e,he,hb⟩:=Array.any_eq_true'.1 h
    simp only [Bool.and_eq_true,beq_iff_eq] at hb
    exact hb.2 ▸ hr o ho e he hb.1
   ·obtain ⟨e,he,hb⟩:=Array.any_eq_true'.1 h
    simp only [Bool.and_eq_true] at hb
    have hl:=hr o ho e he hb.1
    exact BK hc n e.on u hb.2 fun o' ho' e' he' hb'=>hc e.on o' ho' hl e' he' hb'
theorem ru {listed:Array Bool} {r:Nat} {o:Oper} (hc:Closed ops listed) (hr:ops[r]? =some o) (aD4:∀ e∈o.after,Region.binds .any e=true→listed.getD e.on false=true) :
  Closed ops (listed.setIfInBounds r true):=by
 intro j oj hj hl e he hb
 refine getD_set_true ?_
 by_cases h:r=j
 ·subst h;rw [hr] at hj;cases hj;exact aD4 e he hb
 ·rw [getD_set_ne false h] at hl;exact hc j oj hj hl e he hb
def Gi (P:Program) (ops:Array Oper) (u:Bool × Nat) (a:Act) (w:World):Prop :=
 ∃ o,ops[u.2]? =some o∧∃ v,(∀ d,o.dst=some d→d<a.tmps.size→a.tmps[d]? =some v) ∧
  ((Region.wanted o (yielded ops a.tmps)=true∧∀ w',(u.1=false→Below w.heap.size w w')→(execOp a.eval o).run P w'= .ok (.value v) w') ∨
   (Region.wanted o (yielded ops a.tmps)=false∧v=undef))
theorem kJ (a:Act) {x:Option Tmp} {t:Tmp} (v:Value) (h:x≠some t):(a.put x v).tmps[t]? =a.tmps[t]? :=by
 cases x with
 | none=>rfl
 | some d =>
  have:d≠t:=fun e=>h (by rw [e])
  simp [Act.put,Array.getElem?_setIfInBounds_ne this]
theorem put_eq (a:Act) {t:Tmp} (v:Value) (h:t<a.tmps.size):(a.put (some t) v).tmps[t]? =some v:=by
 simp [Act.put,h]
theorem dS (a:Act) (x:Option Tmp) (v:Value):(a.put x v).tmps.size=a.tmps.size:=by
 cases x<;>simp [Act.put]
theorem j6 (a:Act) (x:Option Tmp) (v:Value):(a.put x v).defers=a.defers:=by cases x<;>rfl
theorem Gi.put {u:Bool × Nat} {a:Act} {w:World} (hs:Region.noSelect ops=true) (h:Gi P ops u a w) {x:Option Tmp} (v:Value)
  (hx:∀ o,ops[u.2]? =some o→∀ d,x=some d→d∉o.looksAt ops∧o.dst≠some d):Gi P ops u (a.put x v) w:=by
 obtain ⟨o,ho,v',h1,h2⟩:=h
 have hl:∀ t,t∈o.looksAt ops→(a.put x v).tmps[t]? =a.tmps[t]? :=fun t ht=>kJ a v fun e=>(hx o ho t e).1 ht
 have hsel:=fun cs b=>Region.noSelect_spec hs u.2 o cs b ho
 refine ⟨o,ho,v',fun d hd hlt=>?_,?_⟩
 ·rw [kJ a v fun e=>(hx o ho d e).2 hd]
  exact h1 d hd (by rwa [dS] at hlt)
 ·rw [ny hl,q9 hsel hl]
  exact h2
theorem Gi.later {u:Bool × Nat} {a:Act} {w w1:World} (h:Gi P ops u a w) (hb:u.1=false→Below w.heap.size w w1):Gi P ops u a w1:=by
 obtain ⟨o,ho,v',h1,h2⟩:=h
 exact ⟨o,ho,v',h1,h2.imp (fun ⟨x,y⟩=>⟨x,fun w' hw'=>y w' fun hu=>iW (hb hu) (hw' hu)⟩) id⟩
def compat (ops:Array Oper) (x y:Nat):Prop :=
 (∀ d,oV ops x=some d→oV ops y≠some d)∧(∀ d o,oV ops x=some d→ops[y]? =some o→d∈o.looksAt ops→edge ops y x=true)
theorem jf {p q:Nat} (h:fwd ops p q=true):compat ops p q∧compat ops q p:=by
 unfold fwd at h
 cases hx:ops[p]? with
 | none=>simp [hx] at h
 | some x =>
  cases hy:ops[q]? with
  | none=>simp [hx,hy] at h
  | some y =>
   have hf:fwd ops p q=true:=by unfold fwd;simpa [hx,hy] using h
   obtain ⟨h1,h2⟩:=kQ hx hy hf
   refine ⟨⟨fun d hd hd'=>?_,fun d o hd ho hm=>?_⟩,⟨fun d hd hd'=>?_,fun d o hd ho hm=>?_⟩⟩
   ·rw [dJ hx] at hd;rw [dJ hy] at hd';exact (h1 d hd').2 hd
   ·rw [hy] at ho;cases ho;rw [dJ hx] at hd;exact h2 d hd hm
   ·rw [dJ hy] at hd;rw [dJ hx] at hd';exact (h1 d hd).2 hd'
   ·rw [hx] at ho;cases ho;rw [dJ hy] at hd;exact absurd hm (h1 d hd).1
structure Inv (P:Program) (ops:Array Oper) (L:List Nat) (U:List (Bool × Nat)) (E:List (Nat × Nat)) (listed:Array Bool) (s a:Act) (w:World):Prop where
 size:listed.size=ops.size
 Ew:∀ i,i<ops.size→(listed.getD i true=false↔(i∈L∧i∉E.map (·.1))∨i∈U.map (·.2))
 closed:Closed ops listed
 defers:s.defers=a.defers
 Mj:s.tmps.size=a.tmps.size
 agree:∀ t,(∀ u∈U,oV ops u.2≠some t)→(∀ p∈E,oV ops p.1≠some t)→s.tmps[t]? =a.tmps[t]?
 pend:∀ u∈U,Gi P ops u a w
 Ae:∀ u∈U,vF ops u.2=true
 uu:∀ u∈U,∀ v∈U,u.2≠v.2→compat ops u.2 v.2
 ue:∀ u∈U,∀ p∈E,fwd ops u.2 p.1=true
theorem eD {listed:Array Bool} {r:Nat} (hr:r∈Region.ready .any ops listed):∃ o,ops[r]? =some o∧listed.getD r true=false∧∀ e∈o.after,Region.binds .any e=true→listed.getD e.on false=true:=by
 obtain ⟨h0,o,ho,h⟩:=mem_ready.1 hr
 exact ⟨o,ho,h0,h⟩
theorem getD_both {listed:Array Bool} {i:Nat} (h:listed.getD i true=false):listed.getD i false=false:=by
 rcases Nat.lt_or_ge i listed.size with h'|h'
 ·simpa [h'] using h
 ·simp [Array.getElem?_eq_none h'] at h
theorem nJ {listed:Array Bool} {r i:Nat} (hi:i<listed.size):(listed.setIfInBounds r true).getD i true=false↔listed.getD i true=false∧i≠r:=by
 by_cases h:r=i
 ·subst h;simp [hi]
 ·rw [getD_set_ne true h];exact ⟨fun x=>⟨x,fun e=>h e.symm⟩,fun x=>x.1⟩
theorem yN {L:List Nat} {U:List (Bool × Nat)} {E:List (Nat × Nat)} {listed:Array Bool} {s a:Act} {w:World} (hs:Region.noSelect ops=true) (I:Inv P ops L U E listed s a w) {r:Nat}
  (hr:r∈Region.ready .any ops listed) (hU:r∈U.map (·.2)) {K:Act→World→Prop}
  (hL:r∉L∨r∈E.map (·.1))
  (hK:∀ v,Inv P ops L (U.filter (fun u=>u.2 != r)) E (listed.setIfInBounds r true) (s.put (oV ops r) v) a w→K (s.put (oV ops r) v) w):wpOp P ops Q r K s w:=by
 obtain ⟨u,hu,rfl⟩:=List.mem_map.1 hU
 obtain ⟨o,ho,hun,hall⟩:=eD hr
 obtain ⟨o',ho',v,hv,hrun⟩:=I.pend u hu
 rw [ho] at ho';cases ho'
 have hsel:=fun cs b=>Region.noSelect_spec hs u.2 o cs b ho
 have hself:=I.Ae u hu
 have DC:∀ t,t∈o.looksAt ops→s.tmps[t]? =a.tmps[t]? :=fun t ht=>by
  refine I.agree t (fun u' hu' hd=>?_) (fun p hp hd=>?_)
  ·by_cases he:u'.2=u.2
   ·rw [he,dJ ho] at hd
    unfold vF at hself
    simp only [ho,hd] at hself
    simp [ht] at hself
   ·have hc:=(I.uu u' hu' u hu he).2 t o hd ho ht
    obtain ⟨e,he1,he2,he3⟩:=uD ho hc
    have hl:=hall e he1 he2
    rw [he3] at hl
    have hlt:u'.2<ops.size:=by
     obtain ⟨o2,h2,_⟩:=I.pend u' hu'
     exact (Array.getElem?_eq_some_iff.1 h2).1
    have:=(I.Ew u'.2 hlt).2 (.inr (List.mem_map.2 ⟨u',hu',rfl⟩))
    rw [getD_both this] at hl
    cases hl
  ·have hf:=I.ue u hu p hp
   cases hy:ops[p.1]? with
   | none=>simp [oV,hy] at hd
   | some y=>exact ((kQ ho hy hf).1 t (by rw [dJ hy] at hd;exact hd)).1 ht
 have hev:=q9 hsel DC
 have hwt:=ny (ops:=ops) DC
 have hI:Inv P ops L (U.filter (fun x=>x.2 != u.2)) E (listed.setIfInBounds u.2 true) (s.put o.dst v) a w:=by
  refine ⟨by simpa using I.size,fun i hi=>?_,ru I.closed ho hall,by rw [j6];exact I.defers,by rw [dS];exact I.Mj,fun t h1 h2=>?_,fun x hx=>I.pend x (List.mem_filter.1 hx).1,
   fun x hx=>I.Ae x (List.mem_filter.1 hx).1,fun x hx y hy hne=>I.uu x (List.mem_filter.1 hx).1 y ((List.mem_filter.1 hy).1) hne,fun x hx p hp=>I.ue x (List.mem_filter.1 hx).1 p hp⟩
  ·rw [nJ (by rw [I.size];exact hi),I.Ew i hi]
   constructor
   ·rintro ⟨h|h,hne⟩
    ·exact .inl h
    ·obtain ⟨x,hx,rfl⟩:=List.mem_map.1 h
     exact .inr (List.mem_map.2 ⟨x,List.mem_filter.2 ⟨hx,by simpa using hne⟩,rfl⟩)
   ·rintro (h|h)
    ·refine ⟨.inl h,?_⟩
     rintro rfl
     rcases hL with hL|hL
     ·exact hL h.1
     ·exact h.2 hL
    ·obtain ⟨x,hx,rfl⟩:=List.mem_map.1 h
     obtain ⟨hx1,hx2⟩:=List.mem_filter.1 hx
     exact ⟨.inr (List.mem_map.2 ⟨x,hx1,rfl⟩),by simpa using hx2⟩
  ·by_cases hd:o.dst=some t
   ·by_cases hlt:t<a.tmps.size
    ·rw [hd,put_eq _ _ (by rw [I.Mj];exact hlt),hv t hd hlt]
    ·rw [Array.getElem?_eq_none (by rw [dS,I.Mj];exact Nat.le_of_not_lt hlt),Array.getElem?_eq_none (Nat.le_of_not_lt hlt)]
   ·rw [kJ _ _ hd]
    refine I.agree t (fun x hx=>?_) h2
    by_cases he:x.2=u.2
    ·rw [he,dJ ho];exact hd
    ·exact h1 x (List.mem_filter.2 ⟨hx,by simpa using he⟩)
 rw [dJ ho] at hK
 have hKv:=hK _ hI
 unfold wpOp
 simp only [ho]
 rw [hwt]
 rcases hrun with ⟨hw1,hw2⟩|⟨hw1,rfl⟩
 ·simp only [hw1,if_true]
  refine .inl ?_
  unfold Oper.wp
  rw [hev,hw2 w fun _=>Below.refl _ _]
  exact hKv
 ·simp only [hw1,Bool.false_eq_true,if_false]
  exact hKv
def ordered (ops:Array Oper):Bool:=(List.range ops.size).all fun i=>match ops[i]? with
 | some o=>o.after.all (fun e=> !Region.binds .any e || e.on<i)
 | none=>true
theorem BL {listed:Array Bool} (ho:ordered ops=true) (hsz:listed.size=ops.size) (hr:Region.ready .any ops listed=[]):∀ i,i<ops.size→listed.getD i true=true:=by
 intro i
 induction i using Nat.strongRecOn with
 | _ i ih =>
  intro hi
  cases hl:listed.getD i true with
  | true=>rfl
  | false =>
   exfalso
   have ho':ops[i]? =some ops[i]:=by simp [hi]
   have hmem:i∈Region.ready .any ops listed:=mem_ready.2 ⟨hl,ops[i],ho',fun e he hb=>by
    unfold ordered at ho
    have h1:=List.all_eq_true.1 ho i (List.mem_range.2 hi)
    simp only [ho'] at h1
    have h2:=Array.all_eq_true_iff_forall_mem.1 h1 e he
    simp only [hb,Bool.not_true,Bool.false_or,decide_eq_true_eq] at h2
    have h3:=ih e.on h2 zo
    have:e.on<listed.size:=by omega
    simpa [this] using h3⟩
   rw [hr] at hmem
   cases hmem
theorem Ns {s a:Act} (hd:s.defers=a.defers) (h:∀ t:Nat,s.tmps[t]? =a.tmps[t]?):s=a:=by
 obtain ⟨t,d⟩:=s
 obtain ⟨t',d'⟩:=a
 simp only at hd h
 rw [hd,Array.ext_getElem? h]
def K.isPure:K→Bool
 | .pure=>true
 | _=>false
def kK (ops:Array Oper) (x q:K × Nat):Bool:=if q.1.isFin then (anc ops ops.size q.2 x.2 || (x.1.isPure&&fwd ops x.2 q.2)) else fwd ops x.2 q.2
def blocked (ops:Array Oper) (i:Nat) (is:List (K × Nat)) (q:K × Nat):Bool:=q.1.gD || edge ops q.2 i || is.any (fun r=> !r.1.gD&&edge ops q.2 r.2)
def iZ (ops:Array Oper):List (K × Nat)→Bool
 | []=>true
 | (k,i)::is=>(match k with
  | .pure| .read=>vF ops i&&is.all (kK ops (k,i))
  | .alloc .. =>is.all (kK ops (k,i))&&is.all (blocked ops i is)
  | .ext=>is.all (kK ops (k,i))&&is.all (blocked ops i is)
  | .fin=>is.all (·.1.isFin)&&is.all (blocked ops i is))&&(ops[i]?).isSome&&iZ ops is
def check (ops:Array Oper) (is:List (K × Nat)):Bool :=
 Region.noSelect ops&&ordered ops&&iZ ops is&&decide (is.map (·.2)).Nodup&&decide (is.length≤ops.size)&&(List.range ops.size).all (fun i=>(is.map (·.2)).contains i)
theorem eH {listed:Array Bool} {q r:Nat} (hr:q∈Region.ready .any ops listed) (he:edge ops q r=true) (hun:listed.getD r true=false):False:=by
 obtain ⟨o,ho,_,hall⟩:=eD hr
 obtain ⟨e,h1,h2,h3⟩:=uD ho he
 have:=hall e h1 h2
 rw [h3,getD_both hun] at this
 cases this
theorem wD {listed:Array Bool} {q:Nat} (hr:q∈Region.ready .any ops listed):q<ops.size:=by
 obtain ⟨o,ho,_⟩:=eD hr
 exact (Array.getElem?_eq_some_iff.1 ho).1
theorem Dt (hs:Region.noSelect ops=true) (R3:ordered ops=true)
  (hQ:∀ c (a s:Act) w,s.defers=a.defers→Q (.panic c) a w→Q (.panic c) s w) :
  ∀ (fuel:Nat) (is:List (K × Nat)) (U:List (Bool × Nat)) (listed:Array Bool) (s a:Act) (w:World),
   is.length+U.length≤fuel→Inv P ops (is.map (·.2)) U [] listed s a w→iZ ops is=true→is.all (·.1.isFin)=true→(is.map (·.2)).Nodup →
   (∀ u∈U,u.2∉is.map (·.2))→(∀ u∈U,∀ q∈is,kK ops (if u.1 then .pure else .read,u.2) q=true) →
   wpOps P ops Q (is.map (·.2)) a w→wpAny P .any ops Q fuel listed s w:=by
 intro fuel
 induction fuel with
 | zero =>
  intro is U listed s a w hm I hok hfin hnd uM hpr h
  have h1:is=[]:=List.length_eq_zero_iff.1 zo
  have h2:U=[]:=List.length_eq_zero_iff.1 zo
  subst h1 h2
  have hsa:s=a:=Ns I.defers fun t=>I.agree t zi zi
  refine ⟨?_,by rw [hsa];simpa [wpOps] using h⟩
  cases hr:Region.ready .any ops listed with
  | nil=>rfl
  | cons r rs =>
   have hm:r∈Region.ready .any ops listed:=by rw [hr];simp
   have:=(I.Ew r (wD hm)).1 (eD hm).choose_spec.2.1
   simp at this
 | succ fuel ih =>
  intro is U listed s a w hm I hok hfin hnd uM hpr h
  refine ⟨fun hr=>?_,fun r hr=>?_⟩
  ·have hall:=BL R3 I.size hr
   have h1:is=[]:=by
    cases is with
    | nil=>rfl
    | cons x xs =>
     unfold iZ at hok
     simp only [Bool.and_eq_true] at hok
     have hlt:x.2<ops.size:=by
      have:=hok.1.2
      cases hx:ops[x.2]? with
      | none=>simp [hx] at this
      | some o=>exact (Array.getElem?_eq_some_iff.1 hx).1
     have:=(I.Ew x.2 hlt).2 (.inl ⟨by simp,by simp⟩)
     rw [hall x.2 hlt] at this;cases this
   have h2:U=[]:=by
    cases U with
    | nil=>rfl
    | cons x xs =>
     obtain ⟨o,ho,_⟩:=I.pend x zi
     have hlt:=(Array.getElem?_eq_some_iff.1 ho).1
     have:=(I.Ew x.2 hlt).2 (.inr zi)
     rw [hall x.2 hlt] at this;cases this
   subst h1 h2
   have hsa:s=a:=Ns I.defers fun t=>I.agree t zi zi
   rw [hsa];simpa [wpOps] using h
  ·obtain ⟨o,ho,hun,RZ⟩:=eD hr
   rcases (I.Ew r (wD hr)).1 hun with ⟨hL,_⟩|hU
   ·cases is with
    | nil=>simp at hL
    | cons x xs =>
     have hxi:r=x.2:=by
      simp only [List.map_cons,List.mem_cons] at hL
      rcases hL with hL|hL
      ·exact hL
      ·exfalso
       obtain ⟨q,hq,rfl⟩:=List.mem_map.1 hL
       unfold iZ at hok
       simp only [List.all_cons,Bool.and_eq_true] at hfin
       have hk:x.1= .fin:=by cases hk:x.1<;>simp [K.isFin,hk] at hfin ⊢
       obtain ⟨k,i⟩:=x
       simp only at hk
       subst hk
       simp only [Bool.and_eq_true] at hok
       have hb:=List.all_eq_true.1 hok.1.1.2 q hq
       unfold blocked at hb
       have hqf:=List.all_eq_true.1 hfin.2 q hq
       have hqa:q.1.gD=false:=by cases hk:q.1<;>simp [K.isFin,K.gD,hk] at hqf ⊢
       simp only [hqa,Bool.false_or,Bool.or_eq_true] at hb
       rcases hb with hb|hb
       ·refine eH hr hb ((I.Ew i ?_).2 (.inl ⟨by simp,by simp⟩))
        have:=hok.1.2
        cases hx:ops[i]? with
        | none=>simp [hx] at this
        | some o=>exact (Array.getElem?_eq_some_iff.1 hx).1
       ·obtain ⟨y,hy,hy2⟩:=List.any_eq_true.1 hb
        simp only [Bool.and_eq_true] at hy2
        obtain ⟨e,he1,he2,he3⟩:=uD ho hy2.2
        by_cases hlt:y.2<ops.size
        ·exact eH hr hy2.2 ((I.Ew y.2 hlt).2 (.inl ⟨by simp;exact .inr ⟨y.1,hy⟩,by simp⟩))
        ·have:=RZ e he1 he2
         rw [he3] at this
         simp [I.size,Nat.le_of_not_lt hlt] at this
     subst hxi
     have hpure:∀ u∈U,u.1=true∧fwd ops u.2 x.2=true:=fun u hu=>by
      have hp:=hpr u hu x zi
      have hxf:x.1.isFin=true:=by simp only [List.all_cons,Bool.and_eq_true] at hfin;exact hfin.1
      unfold kK at hp
      simp only [hxf,if_true,Bool.or_eq_true,Bool.and_eq_true] at hp
      rcases hp with hp|hp
      ·exfalso
       have hl:=BK I.closed _ _ _ hp fun o' ho'=>by rw [ho] at ho';cases ho';exact RZ
       obtain ⟨o2,h2,_⟩:=I.pend u hu
       have:=(I.Ew u.2 (Array.getElem?_eq_some_iff.1 h2).1).2 (.inr (List.mem_map.2 ⟨u,hu,rfl⟩))
       rw [getD_both this] at hl
       cases hl
      ·refine ⟨?_,hp.2⟩
       cases hu1:u.1<;>simp [hu1,K.isPure] at hp ⊢
     have DC:∀ t,t∈o.looksAt ops→s.tmps[t]? =a.tmps[t]? :=fun t ht=>by
      refine I.agree t (fun u hu hd=>?_) zi
      have hf:=(hpure u hu).2
      cases hx:ops[u.2]? with
      | none=>simp [oV,hx] at hd
      | some y =>
       have he:=(kQ hx ho hf).2 t (by rw [dJ hx] at hd;exact hd) ht
       exact eH hr he ((I.Ew u.2 (Array.getElem?_eq_some_iff.1 hx).1).2 (.inr (List.mem_map.2 ⟨u,hu,rfl⟩)))
     simp only [List.map_cons] at h
     rw [wpOps_cons] at h
     refine zY ho (fun cs b=>Region.noSelect_spec hs x.2 o cs b ho) DC I.defers hQ (fun ds v w' hk=>?_) h
     have hxf:x.1.isFin=true:=by simp only [List.all_cons,Bool.and_eq_true] at hfin;exact hfin.1
     refine ih xs U (listed.setIfInBounds x.2 true) _ ({ a with defers:=ds }.put o.dst v) w' (by simp at hm;omega) ?_ (by unfold iZ at hok;simp only [Bool.and_eq_true] at hok;exact hok.2) (by simp only [List.all_cons,Bool.and_eq_true] at hfin;exact hfin.2) (by simp at hnd;simpa using hnd.2)
      (fun u hu hm=>uM u hu (by simp only [List.map_cons,List.mem_cons];exact .inr hm)) (fun u hu q hq=>hpr u hu q (by simp [hq])) hk
     refine ⟨by simpa using I.size,fun i hi=>?_,ru I.closed ho RZ,by simp [j6],by rw [dS,dS];exact I.Mj,fun t h1 h2=>?_,fun u hu=>?_,I.Ae,I.uu,by simp⟩
     ·rw [nJ (by rw [I.size];exact hi),I.Ew i hi]
      simp only [List.map_cons,List.mem_cons,List.map_nil,List.not_mem_nil,not_false_eq_true,and_true]
      have hnd':x.2∉xs.map (·.2):=by rw [List.map_cons,List.nodup_cons] at hnd;exact hnd.1
      constructor
      ·rintro ⟨(h|h)|h,hne⟩
       ·exact absurd h hne
       ·exact .inl h
       ·exact .inr h
      ·rintro (h|h)
       ·exact ⟨.inl (.inr h),fun e=>hnd' (by rw [← e];exact h)⟩
       ·obtain ⟨u,hu,rfl⟩:=List.mem_map.1 h
        exact ⟨.inr h,fun e=>uM u hu (by simp [e])⟩
     ·by_cases hd:o.dst=some t
      ·by_cases hlt:t<a.tmps.size
       ·rw [hd,put_eq _ _ (by exact Nat.lt_of_lt_of_eq hlt I.Mj.symm),put_eq _ _ (by exact hlt)]
       ·rw [Array.getElem?_eq_none (by rw [dS];exact I.Mj ▸ Nat.le_of_not_lt hlt),Array.getElem?_eq_none (by rw [dS];exact Nat.le_of_not_lt hlt)]
      ·rw [kJ _ _ hd,kJ _ _ hd]
       exact I.agree t h1 zi
     ·have hf:=(hpure u hu).2
      have h3:Gi P ops u { a with defers:=ds } w:=I.pend u hu
      exact (h3.put hs v fun o' ho' d hd=>(kQ ho' ho hf).1 d hd).later fun hu1=>by rw [(hpure u hu).1] at hu1;cases hu1
   ·obtain ⟨u,hu,rfl⟩:=List.mem_map.1 hU
    refine yN hs I hr hU (.inl (uM u hu)) fun v' I'=>?_
    refine ih is _ _ _ a w ?_ I' hok hfin hnd (fun x hx=>uM x (List.mem_filter.1 hx).1) (fun x hx=>hpr x (List.mem_filter.1 hx).1) h
    have:(U.filter (fun x=>x.2 != u.2)).length<U.length:=List.length_filter_lt_length_iff_exists.2 ⟨u,hu,by simp⟩
    omega
def qJ (P:Program) (ops:Array Oper) (is:List (K × Nat)):Prop :=
 ∀ cs T j,(K.alloc cs T,j)∈is→∀ o,ops[j]? =some o→o.guard=none∧∀ ρ w,(execOp ρ o).run P w= .ok (.value (.pointer (some ⟨w.heap.size,0,none⟩))) (w.alloc (.cells cs T (0,0)))
structure Early (ops:Array Oper) (N:Nat) (is:List (K × Nat)) (A:List Nat) (E:List (Nat × Nat)) (s a:Act) (w:World):Prop where
 good:∀ p∈E,∃ cs T,(K.alloc cs T,p.1)∈is∧w.heap[p.2]? =some (.cells cs T (0,0))∧N≤p.2∧p.2<w.heap.size∧p.2∉A
 dist:∀ p∈E,∀ q∈E,p.1≠q.1→p.2≠q.2
 slot:∀ p∈E,∀ d,oV ops p.1=some d→d<a.tmps.size→s.tmps[d]? =some (.pointer (some ⟨p.2,0,none⟩))
 old:∀ x∈A,x<w.heap.size
 base:N≤w.heap.size
def dA (is:List (K × Nat)) (E:List (Nat × Nat)):Nat:=(is.filter (fun x=> !(E.map (·.1)).contains x.2)).length
theorem pU (is:List (K × Nat)):dA is []=is.length:=by
 unfold dA
 rw [List.filter_eq_self.2 zi]
theorem uR:∀ (is:List (K × Nat)),iZ ops is=true→∀ x∈is,∀ y∈is,x.1.gD=true→y.1.gD=true→x.2≠y.2→compat ops x.2 y.2
 | [],_,_,hx,_,_,_,_,_=>by cases hx
 | (k,i)::is,h,x,hx,y,hy,hxa,hya,hne=>by
  unfold iZ at h
  have hrest:iZ ops is=true:=by simp only [Bool.and_eq_true] at h;exact h.2
  have key:∀ y∈is,k.gD=true→y.1.gD=true→fwd ops i y.2=true:=fun y hy hk hya=>by
   have hp:is.all (kK ops (k,i))=true:=by
    cases k<;>simp [K.gD] at hk
    simp only [Bool.and_eq_true] at h
    exact h.1.1.1
   have h2:=List.all_eq_true.1 hp y hy
   unfold kK at h2
   have hf:y.1.isFin=false:=by cases hk:y.1<;>simp [K.gD,K.isFin,hk] at hya ⊢
   simpa [hf] using h2
  rcases List.mem_cons.1 hx with hx|hx<;>rcases List.mem_cons.1 hy with hy|hy
  ·subst hx hy;exact absurd rfl hne
  ·subst hx;exact (jf (key y hy hxa hya)).1
  ·subst hy;exact (jf (key x hx hya hxa)).2
  ·exact uR is hrest x hx y hy hxa hya hne
theorem AB (hs:Region.noSelect ops=true) (R3:ordered ops=true)
  (hQ:∀ c (a s:Act) w,s.defers=a.defers→Q (.panic c) a w→Q (.panic c) s w) (N:Nat) :
  ∀ (fuel:Nat) (is:List (K × Nat)) (A:List Nat) (U:List (Bool × Nat)) (E:List (Nat × Nat)) (listed:Array Bool) (s a:Act) (w:World),
   dA is E+U.length≤fuel→Inv P ops (is.map (·.2)) U E listed s a w→iZ ops is=true→(is.map (·.2)).Nodup →
   (∀ u∈U,u.2∉is.map (·.2))→(∀ u∈U,∀ q∈is,kK ops (if u.1 then .pure else .read,u.2) q=true) →
   qJ P ops is→Early ops N is A E s a w →
   walk P ops Q N is A a w→wpAny P .any ops Q fuel listed s w:=by
 intro fuel
 induction fuel using Nat.strongRecOn with
 | _ fuel ihf =>
 intro is
 induction is with
 | nil =>
  intro A U E listed s a w hm I hok hnd uM hpr hal he h
  have hE:E=[]:=by
   cases E with
   | nil=>rfl
   | cons p ps=>obtain ⟨cs,T,hmem,_⟩:=he.good p zi;cases hmem
  subst hE
  exact Dt hs R3 hQ fuel [] U listed s a w (by simp [dA] at hm;simpa using hm) I rfl rfl zi zi zi (by simp only [List.map_nil,wpOps];exact h w (Below.refl _ _))
 | cons x xs ihl =>
  intro A U E listed s a w hm I hok hnd uM hpr hal he h
  obtain ⟨k,i⟩:=x
  have hrest:iZ ops xs=true:=by unfold iZ at hok;simp only [Bool.and_eq_true] at hok;exact hok.2
  obtain ⟨o,ho⟩:∃ o,ops[i]? =some o:=by
   unfold iZ at hok
   simp only [Bool.and_eq_true] at hok
   exact Option.isSome_iff_exists.1 hok.1.2
  have hilt:i<ops.size:=(Array.getElem?_eq_some_iff.1 ho).1
  have FP:i∉xs.map (·.2)∧(xs.map (·.2)).Nodup:=by simpa only [List.map_cons,List.nodup_cons] using hnd
  have hpx:k.isFin=false→∀ q∈xs,kK ops (k,i) q=true:=fun hk=>by
   unfold iZ at hok
   cases k<;>simp [K.isFin] at hk<;>simp only [Bool.and_eq_true] at hok
   ·exact fun q hq=>List.all_eq_true.1 hok.1.1.2 q hq
   ·exact fun q hq=>List.all_eq_true.1 hok.1.1.2 q hq
   ·exact fun q hq=>List.all_eq_true.1 hok.1.1.1 q hq
   ·exact fun q hq=>List.all_eq_true.1 hok.1.1.1 q hq
  have hUf:k.isFin=false→∀ u∈U,fwd ops u.2 i=true:=fun hk u hu=>by
   have:=hpr u hu (k,i) zi
   unfold kK at this
   simpa [hk] using this
  have advance:∀ (b:Bool) (v:Value),k.isFin=false→k.gD=false→k.isPure=b→vF ops i=true→i∉E.map (·.1) →
    ((Region.wanted o (yielded ops a.tmps)=true∧∀ w',(b=false→Below w.heap.size w w')→(execOp a.eval o).run P w'= .ok (.value v) w')∨(Region.wanted o (yielded ops a.tmps)=false∧v=undef)) →
    (k= .pure∨k= .read)→walk P ops Q N xs A (a.put o.dst v) w→wpAny P .any ops Q fuel listed s w:=fun b v hkf hka hkb hself Qi hrun hkk hw=>by
   have hxl:∀ d,o.dst=some d→d∉o.looksAt ops:=fun d hd hm=>by unfold vF at hself;simp only [ho,hd] at hself;simp [hm] at hself
   have hl:∀ t,t∈o.looksAt ops→(a.put o.dst v).tmps[t]? =a.tmps[t]? :=fun t ht=>kJ a v fun e=>hxl t e ht
   refine ihl A ((b,i)::U) E listed s (a.put o.dst v) w ?_ ?_ hrest FP.2 ?_ ?_ (fun cs T j hj=>hal cs T j (by simp [hj])) ?_ hw
   ·have:dA ((k,i)::xs) E=dA xs E+1:=by
     unfold dA
     rw [List.filter_cons_of_pos (by simpa using Qi)]
     rfl
    simp only [List.length_cons];omega
   ·refine ⟨I.size,fun j hj=>?_,I.closed,by rw [j6];exact I.defers,by rw [dS];exact I.Mj,fun t h1 h2=>?_,fun u hu=>?_,fun u hu=>?_,fun u hu v' hv hne=>?_,fun u hu p hp=>?_⟩
    ·rw [I.Ew j hj]
     simp only [List.map_cons,List.mem_cons]
     constructor
     ·rintro (⟨h|h,h2⟩|h)
      ·exact .inr (.inl h)
      ·exact .inl ⟨h,h2⟩
      ·exact .inr (.inr h)
     ·rintro (⟨h,h2⟩|h|h)
      ·exact .inl ⟨.inr h,h2⟩
      ·exact .inl ⟨.inl h,by rw [h];exact Qi⟩
      ·exact .inr h
    ·have hd:o.dst≠some t:=by have:=h1 (b,i) zi;rwa [dJ ho] at this
     rw [kJ _ _ hd]
     exact I.agree t (fun u hu=>h1 u (by simp [hu])) h2
    ·rcases List.mem_cons.1 hu with hu|hu
     ·subst hu
      refine ⟨o,ho,v,fun d hd hlt=>?_,?_⟩
      ·rw [hd];exact put_eq _ _ (by rwa [dS] at hlt)
      ·rw [ny hl,q9 (fun cs b=>Region.noSelect_spec hs i o cs b ho) hl]
       exact hrun
     ·exact (I.pend u hu).put hs v fun o' ho' d hd=>(kQ ho' ho (hUf hkf u hu)).1 d hd
    ·rcases List.mem_cons.1 hu with hu|hu
     ·subst hu;exact hself
     ·exact I.Ae u hu
    ·rcases List.mem_cons.1 hu with hu|hu<;>rcases List.mem_cons.1 hv with hv|hv
     ·subst hu hv;exact absurd rfl hne
     ·subst hu;exact (jf (hUf hkf v' hv)).2
     ·subst hv;exact (jf (hUf hkf u hu)).1
     ·exact I.uu u hu v' hv hne
    ·rcases List.mem_cons.1 hu with hu|hu
     ·subst hu
      obtain ⟨cs,T,hmem,_⟩:=he.good p hp
      rcases List.mem_cons.1 hmem with hmem|hmem
      ·cases hmem;simp [K.gD] at hka
      ·have:=hpx hkf _ hmem
       unfold kK at this
       simpa [K.isFin] using this
     ·exact I.ue u hu p hp
   ·intro u hu
    rcases List.mem_cons.1 hu with hu|hu
    ·subst hu;exact FP.1
    ·intro hm;exact uM u hu (by simp only [List.map_cons,List.mem_cons];exact .inr hm)
   ·intro u hu q hq
    rcases List.mem_cons.1 hu with hu|hu
    ·subst hu
     have:=hpx hkf q hq
     rcases hkk with rfl|rfl<;>simp [K.isPure] at hkb<;>subst hkb<;>simpa using this
    ·exact hpr u hu q (by simp [hq])
   ·refine ⟨fun p hp=>?_,he.dist,fun p hp d hd hlt=>he.slot p hp d hd (by rwa [dS] at hlt),he.old,he.base⟩
    obtain ⟨cs,T,hmem,hg⟩:=he.good p hp
    refine ⟨cs,T,?_,hg⟩
    rcases List.mem_cons.1 hmem with hmem|hmem
    ·cases hmem;simp [K.gD] at hka
    ·exact hmem
  have early:∀ (cs:Array Value) (T:TypeId) (r:Nat),(K.alloc cs T,r)∈(k,i)::xs→r∈Region.ready .any ops listed→r∉E.map (·.1)→∀ f,f<fuel→dA ((k,i)::xs) E+U.length≤f+1 →
    wpOp P ops Q r (wpAny P .any ops Q f (listed.setIfInBounds r true)) s w:=fun cs T r hmem hr hrE f hf M4=>by
   obtain ⟨y,hy,Zt,Ir⟩:=eD hr
   obtain ⟨hg,hrun⟩:=hal cs T r hmem y hy
   have aT3:=wD hr
   have hb:Below w.heap.size w (w.alloc (.cells cs T (0,0))):=(Below.refl _ _).alloc (Nat.le_refl _) _
   have hsz:(w.alloc (.cells cs T (0,0))).heap.size=w.heap.size+1:=by simp
   have ap1:r∈((k,i)::xs).map (·.2):=List.mem_map.2 ⟨_,hmem,rfl⟩
   have key:wpAny P .any ops Q f (listed.setIfInBounds r true) (s.put y.dst (.pointer (some ⟨w.heap.size,0,none⟩))) (w.alloc (.cells cs T (0,0))):=by
    refine ihf f hf ((k,i)::xs) A U ((r,w.heap.size)::E) _ _ a _ ?_ ?_ hok hnd uM hpr hal ?_ (nR _ _ _ _ _ hb h)
    ·have hlt:dA ((k,i)::xs) ((r,w.heap.size)::E)<dA ((k,i)::xs) E:=by
      unfold dA
      have e:((k,i)::xs).filter (fun x=> !(((r,w.heap.size)::E).map (·.1)).contains x.2)=(((k,i)::xs).filter (fun x=> !(E.map (·.1)).contains x.2)).filter (fun x=>x.2 != r):=by
       rw [List.filter_filter]
       congr 1
       funext x
       simp only [List.map_cons,List.contains_cons,Bool.not_or]
       rfl
      rw [e]
      exact List.length_filter_lt_length_iff_exists.2 ⟨_,List.mem_filter.2 ⟨hmem,by simpa using hrE⟩,by simp⟩
     omega
    ·refine ⟨by simpa using I.size,fun j hj=>?_,ru I.closed hy Ir,by rw [j6];exact I.defers,by rw [dS];exact I.Mj,fun t h1 h2=>?_,fun u hu=>(I.pend u hu).later fun _=>hb,I.Ae,I.uu,fun u hu p hp=>?_⟩
     ·rw [nJ (by rw [I.size];exact hj),I.Ew j hj]
      simp only [List.map_cons,List.mem_cons,not_or]
      constructor
      ·rintro ⟨⟨h,h2⟩|h,hne⟩
       ·exact .inl ⟨h,hne,h2⟩
       ·exact .inr h
      ·rintro (⟨h,hne,h2⟩|h)
       ·exact ⟨.inl ⟨h,h2⟩,hne⟩
       ·obtain ⟨u,hu,rfl⟩:=List.mem_map.1 h
        exact ⟨.inr h,fun e=>uM u hu (e ▸ ap1)⟩
     ·have hd:y.dst≠some t:=by have:=h2 (r,w.heap.size) zi;rwa [dJ hy] at this
      rw [kJ _ _ hd]
      exact I.agree t h1 fun p hp=>h2 p (by simp [hp])
     ·rcases List.mem_cons.1 hp with hp|hp
      ·subst hp
       have:=hpr u hu _ hmem
       unfold kK at this
       simpa [K.isFin] using this
      ·exact I.ue u hu p hp
    ·refine ⟨fun p hp=>?_,fun p hp q hq hne=>?_,fun p hp d hd hlt=>?_,fun x hx=>by rw [hsz];exact Nat.lt_succ_of_lt (he.old x hx),by rw [hsz];exact Nat.le_succ_of_le he.base⟩
     ·rcases List.mem_cons.1 hp with hp|hp
      ·subst hp
       exact ⟨cs,T,hmem,(by show (w.heap.push _)[w.heap.size]? =_;simp),he.base,by rw [hsz];exact Nat.lt_succ_self _,fun hA=>Nat.lt_irrefl _ (he.old _ hA)⟩
      ·obtain ⟨cs',T',hm',hh,h1,h2,h3⟩:=he.good p hp
       exact ⟨cs',T',hm',by rw [Below.heap_alloc _ _ _ h2];exact hh,h1,by rw [hsz];exact Nat.lt_succ_of_lt h2,h3⟩
     ·rcases List.mem_cons.1 hp with hp|hp<;>rcases List.mem_cons.1 hq with hq|hq
      ·subst hp hq;exact absurd rfl hne
      ·subst hp;obtain ⟨_,_,_,_,_,h2,_⟩:=he.good q hq;exact fun e=>by simp only at e;omega
      ·subst hq;obtain ⟨_,_,_,_,_,h2,_⟩:=he.good p hp;exact fun e=>by simp only at e;omega
      ·exact he.dist p hp q hq hne
     ·rcases List.mem_cons.1 hp with hp|hp
      ·subst hp
       rw [dJ hy] at hd
       rw [hd]
       exact put_eq _ _ (by exact Nat.lt_of_lt_of_eq hlt I.Mj.symm)
      ·obtain ⟨cs',T',hm',_⟩:=he.good p hp
       have hne:p.1≠r:=fun e=>hrE (e ▸ List.mem_map.2 ⟨p,hp,rfl⟩)
       have hc:=uR _ hok _ hm' _ hmem rfl rfl hne
       rw [kJ _ _ (fun e=>hc.1 d hd (by rw [dJ hy];exact e))]
       exact he.slot p hp d hd hlt
   unfold wpOp
   simp only [hy,Region.wanted,hg,if_true]
   refine .inl ?_
   unfold Oper.wp
   rw [hrun]
   exact key
  have hcount:i∉E.map (·.1)→1≤fuel:=fun Qi=>by
   have:dA ((k,i)::xs) E=dA xs E+1:=by
    unfold dA
    rw [List.filter_cons_of_pos (by simpa using Qi)]
    rfl
   omega
  have hinj:∀ (l:List (K × Nat)),(l.map (·.2)).Nodup→∀ x∈l,∀ y∈l,x.2=y.2→x=y:=by
   intro l
   induction l with
   | nil=>intro _ x hx;cases hx
   | cons c l ihh =>
    intro hn x hx0 y hy0 hxy
    rw [List.map_cons,List.nodup_cons] at hn
    rcases List.mem_cons.1 hx0 with hx|hx<;>rcases List.mem_cons.1 hy0 with hy|hy
    ·rw [hx,hy]
    ·exact absurd (List.mem_map.2 ⟨y,hy,by rw [← hxy,hx]⟩) hn.1
    ·exact absurd (List.mem_map.2 ⟨x,hx,by rw [hxy,hy]⟩) hn.1
    ·exact ihh hn.2 x hx y hy hxy
  have actual:(k= .ext∨k.gD=true)→i∉E.map (·.1)→xs.all (blocked ops i xs)=true →
    (∀ f,fuel=f+1→i∈Region.ready .any ops listed→wpOp P ops Q i (wpAny P .any ops Q f (listed.setIfInBounds i true)) s w)→wpAny P .any ops Q fuel listed s w:=fun hk Qi hbl hhead=>by
   obtain ⟨f,rfl⟩:∃ f,fuel=f+1:=⟨fuel - 1,by have:=hcount Qi;omega⟩
   have ao8:listed.getD i true=false:=(I.Ew i hilt).2 (.inl ⟨by simp,Qi⟩)
   refine ⟨fun hr=>?_,fun r hr=>?_⟩
   ·exfalso
    have:=BL R3 I.size hr i hilt
    rw [ao8] at this;cases this
   ·obtain ⟨y,hy,Zt,Ir⟩:=eD hr
    rcases (I.Ew r (wD hr)).1 Zt with ⟨hL,hrE⟩|hU
    ·simp only [List.map_cons,List.mem_cons] at hL
     rcases hL with hL|hL
     ·subst hL;exact hhead f rfl hr
     ·obtain ⟨q,hq,rfl⟩:=List.mem_map.1 hL
      have hb:=List.all_eq_true.1 hbl q hq
      unfold blocked at hb
      simp only [Bool.or_eq_true] at hb
      rcases hb with (hb|hb)|hb
      ·obtain ⟨kq,jq⟩:=q
       cases kq with
       | alloc cs T=>exact early cs T jq (by simp [hq]) hr hrE f (Nat.lt_succ_self _) zo
       | _=>simp [K.gD] at hb
      ·exact (eH hr hb ao8).elim
      ·obtain ⟨z,hz,hz2⟩:=List.any_eq_true.1 hb
       simp only [Bool.and_eq_true,Bool.not_eq_true'] at hz2
       obtain ⟨e,he1,he2,he3⟩:=uD hy hz2.2
       by_cases hlt:z.2<ops.size
       ·refine (eH hr hz2.2 ((I.Ew z.2 hlt).2 (.inl ⟨by simp;exact .inr ⟨z.1,hz⟩,fun hzE=>?_⟩))).elim
        obtain ⟨p,hp,hpe⟩:=List.mem_map.1 hzE
        obtain ⟨cs,T,hmem,_⟩:=he.good p hp
        have hmem':(K.alloc cs T,z.2)∈(k,i)::xs:=by rw [← hpe];exact hmem
        rcases List.mem_cons.1 hmem' with h3|h3
        ·have:z.2=i:=by cases h3;rfl
         exact FP.1 (this ▸ List.mem_map.2 ⟨z,hz,rfl⟩)
        ·have:z=(K.alloc cs T,z.2):=by
          exact hinj xs FP.2 z hz _ h3 rfl
         rw [this] at hz2
         simp [K.gD] at hz2
       ·have:=Ir e he1 he2
        rw [he3] at this
        simp [I.size,Nat.le_of_not_lt hlt] at this
    ·obtain ⟨u,hu,rfl⟩:=List.mem_map.1 hU
     refine yN hs I hr hU (.inl (uM u hu)) fun v' I'=>?_
     refine ihf f (Nat.lt_succ_self _) ((k,i)::xs) A _ E _ _ a w ?_ I' hok hnd (fun x hx=>uM x (List.mem_filter.1 hx).1) (fun x hx=>hpr x (List.mem_filter.1 hx).1) hal ?_ h
     ·have:(U.filter (fun x=>x.2 != u.2)).length<U.length:=List.length_filter_lt_length_iff_exists.2 ⟨u,hu,by simp⟩
      omega
     ·refine ⟨he.good,he.dist,fun p hp d hd hlt=>?_,he.old,he.base⟩
      have hc:=(jf (I.ue u hu p hp)).2
      rw [kJ _ _ (fun e=>hc.1 d hd e)]
      exact he.slot p hp d hd hlt
  have wQ:k.gD=false→i∉E.map (·.1):=fun hk hm=>by
   obtain ⟨p,hp,hpe⟩:=List.mem_map.1 hm
   obtain ⟨cs,T,hmem,_⟩:=he.good p hp
   have:=hinj _ hnd _ hmem (k,i) zi hpe
   cases this
   simp [K.gD] at hk
  have VH:∀ p∈E,p.1≠i→∃ cs T,(K.alloc cs T,p.1)∈xs∧w.heap[p.2]? =some (.cells cs T (0,0))∧N≤p.2∧p.2<w.heap.size∧p.2∉A:=fun p hp hne=>by
   obtain ⟨cs,T,hmem,hg⟩:=he.good p hp
   refine ⟨cs,T,?_,hg⟩
   rcases List.mem_cons.1 hmem with hmem|hmem
   ·cases hmem;exact absurd rfl hne
   ·exact hmem
  unfold walk at h
  simp only [ho] at h
  cases k with
  | pure =>
   simp only at h
   have hself:vF ops i=true:=by unfold iZ at hok;simp only [Bool.and_eq_true] at hok;exact hok.1.1.1
   split at h
   ·rename_i hw
    obtain ⟨v,h1,h2⟩:=h
    exact advance true v rfl rfl rfl hself (wQ rfl) (.inl ⟨hw,fun w' _=>h1 w'⟩) (.inl rfl) h2
   ·rename_i hw
    exact advance true undef rfl rfl rfl hself (wQ rfl) (.inr ⟨by simpa using hw,rfl⟩) (.inl rfl) h
  | read =>
   simp only at h
   have hself:vF ops i=true:=by unfold iZ at hok;simp only [Bool.and_eq_true] at hok;exact hok.1.1.1
   split at h
   ·rename_i hw
    obtain ⟨v,h1,h2⟩:=h
    exact advance false v rfl rfl rfl hself (wQ rfl) (.inl ⟨hw,fun w' hb=>h1 w' (hb rfl)⟩) (.inr rfl) h2
   ·rename_i hw
    exact advance false undef rfl rfl rfl hself (wQ rfl) (.inr ⟨by simpa using hw,rfl⟩) (.inr rfl) h
  | fin =>
   have hfin:xs.all (·.1.isFin)=true:=by unfold iZ at hok;simp only [Bool.and_eq_true] at hok;exact hok.1.1.1
   have hE:E=[]:=by
    cases E with
    | nil=>rfl
    | cons p ps =>
     obtain ⟨cs,T,hmem,_⟩:=he.good p zi
     rcases List.mem_cons.1 hmem with hmem|hmem
     ·cases hmem
     ·have:=List.all_eq_true.1 hfin _ hmem
      simp [K.isFin] at this
   subst hE
   exact Dt hs R3 hQ fuel ((.fin,i)::xs) U listed s a w (by rw [pU] at hm;exact hm) I hok (by rw [List.all_cons,hfin];rfl) hnd uM hpr (h w (Below.refl _ _))
  | ext =>
   have hbl:xs.all (blocked ops i xs)=true:=by unfold iZ at hok;simp only [Bool.and_eq_true] at hok;exact hok.1.1.2
   refine actual (.inl rfl) (wQ rfl) hbl fun f hf hr=>?_
   obtain ⟨y,hy,Zt,Ir⟩:=eD hr
   rw [ho] at hy;cases hy
   have DC:∀ t,t∈o.looksAt ops→s.tmps[t]? =a.tmps[t]? :=fun t ht=>by
    refine I.agree t (fun u hu hd=>?_) (fun p hp hd=>?_)
    ·have hf:=hUf rfl u hu
     cases hx:ops[u.2]? with
     | none=>simp [oV,hx] at hd
     | some y =>
      have he':=(kQ hx ho hf).2 t (by rw [dJ hx] at hd;exact hd) ht
      exact eH hr he' ((I.Ew u.2 (Array.getElem?_eq_some_iff.1 hx).1).2 (.inr (List.mem_map.2 ⟨u,hu,rfl⟩)))
    ·obtain ⟨cs,T,hmem,_⟩:=VH p hp fun e=>wQ rfl (e ▸ List.mem_map.2 ⟨p,hp,rfl⟩)
     have hf:=hpx rfl _ hmem
     unfold kK at hf
     simp only [K.isFin,Bool.false_eq_true,if_false] at hf
     cases hx:ops[p.1]? with
     | none=>simp [oV,hx] at hd
     | some y=>exact ((kQ ho hx hf).1 t (by rw [dJ hx] at hd;exact hd)).1 ht
   have h':wpOp P ops Q i (fun a' w''=>Below w.heap.size w w''∧walk P ops Q N xs A a' w'') a w:=by
    unfold wpOp
    simp only [ho]
    simp only at h
    split at h
    ·rename_i hw;simp only [hw,if_true];exact .inl (h w (Below.refl _ _))
    ·rename_i hw;simp only [hw,Bool.false_eq_true,if_false];exact ⟨Below.refl _ _,h⟩
   refine zY ho (fun cs b=>Region.noSelect_spec hs i o cs b ho) DC I.defers hQ (fun ds v w' hk=>?_) h'
   obtain ⟨hb,hk⟩:=hk
   have aU9:dA ((.ext,i)::xs) E=dA xs E+1:=by
    unfold dA
    rw [List.filter_cons_of_pos (by simpa using wQ rfl)]
    rfl
   refine ihf f zo xs A U E _ _ ({ a with defers:=ds }.put o.dst v) w' zo ?_ hrest FP.2 (fun u hu hm=>uM u hu (by simp only [List.map_cons,List.mem_cons];exact .inr hm)) (fun u hu q hq=>hpr u hu q (by simp [hq]))
    (fun cs T j hj=>hal cs T j (by simp [hj])) ?_ hk
   ·refine ⟨by simpa using I.size,fun j hj=>?_,ru I.closed ho Ir,by simp [j6],by rw [dS,dS];exact I.Mj,fun t h1 h2=>?_,fun u hu=>?_,I.Ae,I.uu,I.ue⟩
    ·rw [nJ (by rw [I.size];exact hj),I.Ew j hj]
     simp only [List.map_cons,List.mem_cons]
     constructor
     ·rintro ⟨⟨h|h,h2⟩|h,hne⟩
      ·exact absurd h hne
      ·exact .inl ⟨h,h2⟩
      ·exact .inr h
     ·rintro (⟨h,h2⟩|h)
      ·exact ⟨.inl ⟨.inr h,h2⟩,fun e=>FP.1 (e ▸ h)⟩
      ·obtain ⟨u,hu,rfl⟩:=List.mem_map.1 h
       exact ⟨.inr h,fun e=>uM u hu (by simp [e])⟩
    ·by_cases hd:o.dst=some t
     ·by_cases hlt:t<a.tmps.size
      ·rw [hd,put_eq _ _ (by exact Nat.lt_of_lt_of_eq hlt I.Mj.symm),put_eq _ _ (by exact hlt)]
      ·rw [Array.getElem?_eq_none (by rw [dS];exact I.Mj ▸ Nat.le_of_not_lt hlt),Array.getElem?_eq_none (by rw [dS];exact Nat.le_of_not_lt hlt)]
     ·rw [kJ _ _ hd,kJ _ _ hd]
      exact I.agree t h1 h2
    ·have h3:Gi P ops u { a with defers:=ds } w:=I.pend u hu
     exact (h3.put hs v fun o' ho' d hd=>(kQ ho' ho (hUf rfl u hu)).1 d hd).later fun _=>hb
   ·refine ⟨fun p hp=>?_,he.dist,fun p hp d hd hlt=>?_,fun x hx=>Nat.lt_of_lt_of_le (he.old x hx) hb.size,Nat.le_trans he.base hb.size⟩
    ·obtain ⟨cs,T,hmem,hh,h1,h2,h3⟩:=VH p hp fun e=>wQ rfl (e ▸ List.mem_map.2 ⟨p,hp,rfl⟩)
     exact ⟨cs,T,hmem,by rw [hb.block _ h2];exact hh,h1,Nat.lt_of_lt_of_le h2 hb.size,h3⟩
    ·obtain ⟨cs,T,hmem,_⟩:=VH p hp fun e=>wQ rfl (e ▸ List.mem_map.2 ⟨p,hp,rfl⟩)
     have hf:=hpx rfl _ hmem
     unfold kK at hf
     simp only [K.isFin,Bool.false_eq_true,if_false] at hf
     have hc:=(jf hf).2
     rw [kJ _ _ (fun e=>hc.1 d hd (by rw [dJ ho];exact e))]
     exact he.slot p hp d hd (by rwa [dS] at hlt)
  | alloc cs T =>
   have hbl:xs.all (blocked ops i xs)=true:=by unfold iZ at hok;simp only [Bool.and_eq_true] at hok;exact hok.1.1.2
   by_cases Qi:i∈E.map (·.1)
   ·obtain ⟨p,hp,hpi⟩:=List.mem_map.1 Qi
    obtain ⟨cs',T',hmem,hh,h1,h2,h3⟩:=he.good p hp
    have hsame:=hinj _ hnd _ hmem (.alloc cs T,i) zi hpi
    have e1:cs'=cs:=by injection hsame with a b;injection a
    have e2:T'=T:=by injection hsame with a b;injection a
    subst e1 e2
    have hk:=h p.2 w (Below.refl _ _) h1 h2 h3 hh
    have ao9:∀ d,o.dst=some d→d<a.tmps.size→s.tmps[d]? =some (.pointer (some ⟨p.2,0,none⟩)):=fun d hd hlt=>he.slot p hp d (by rw [hpi,dJ ho];exact hd) hlt
    refine ihl (p.2::A) U (E.filter (fun x=>x.1 != i)) listed s (a.put o.dst (.pointer (some ⟨p.2,0,none⟩))) w ?_ ?_ hrest FP.2 (fun u hu hm=>uM u hu (by simp only [List.map_cons,List.mem_cons];exact .inr hm)) (fun u hu q hq=>hpr u hu q (by simp [hq]))
     (fun cs T j hj=>hal cs T j (by simp [hj])) ?_ hk
    ·have:dA xs (E.filter (fun x=>x.1 != i))=dA ((.alloc cs' T',i)::xs) E:=by
      unfold dA
      rw [List.filter_cons_of_neg (by simpa using Qi)]
      congr 1
      refine List.filter_congr fun x hx=>?_
      have hxi:x.2≠i:=fun e=>FP.1 (e ▸ List.mem_map.2 ⟨x,hx,rfl⟩)
      congr 1
      rw [Bool.eq_iff_iff]
      simp only [List.contains_iff_mem,List.mem_map,List.mem_filter,bne_iff_ne,ne_eq]
      constructor
      ·rintro ⟨y,⟨hy,_⟩,e⟩;exact ⟨y,hy,e⟩
      ·rintro ⟨y,hy,e⟩;exact ⟨y,⟨hy,fun e2=>hxi (e ▸ e2)⟩,e⟩
     omega
    ·refine ⟨I.size,fun j hj=>?_,I.closed,by rw [j6];exact I.defers,by rw [dS];exact I.Mj,fun t h1 h2=>?_,fun u hu=>(I.pend u hu).put hs _ fun o' ho' d hd=>(kQ ho' ho (hUf rfl u hu)).1 d hd,I.Ae,I.uu,fun u hu q hq=>I.ue u hu q (List.mem_filter.1 hq).1⟩
     ·rw [I.Ew j hj]
      simp only [List.map_cons,List.mem_cons,List.mem_map,List.mem_filter,bne_iff_ne,ne_eq]
      constructor
      ·rintro (⟨h|h,h2⟩|h)
       ·subst h;exact absurd ⟨p,hp,hpi⟩ h2
       ·exact .inl ⟨h,fun ⟨y,⟨hy,_⟩,e⟩=>h2 ⟨y,hy,e⟩⟩
       ·exact .inr h
      ·rintro (⟨h,h2⟩|h)
       ·refine .inl ⟨.inr h,fun ⟨y,hy,e⟩=>h2 ⟨y,⟨hy,fun e2=>?_⟩,e⟩⟩
        obtain ⟨z,hz,hz2⟩:=h
        exact FP.1 (List.mem_map.2 ⟨z,hz,by rw [hz2,← e,e2]⟩)
       ·exact .inr h
     ·by_cases hd:o.dst=some t
      ·by_cases hlt:t<a.tmps.size
       ·rw [hd,put_eq _ _ hlt,ao9 t hd hlt]
       ·rw [Array.getElem?_eq_none (by rw [I.Mj];exact Nat.le_of_not_lt hlt),Array.getElem?_eq_none (by rw [dS];exact Nat.le_of_not_lt hlt)]
      ·rw [kJ _ _ hd]
       refine I.agree t h1 fun q hq CX=>?_
       by_cases hqi:q.1=i
       ·rw [hqi,dJ ho] at CX;exact hd CX
       ·exact h2 q (List.mem_filter.2 ⟨hq,by simpa using hqi⟩) CX
    ·refine ⟨fun q hq=>?_,fun q hq r hr=>he.dist q (List.mem_filter.1 hq).1 r (List.mem_filter.1 hr).1,fun q hq d hd hlt=>he.slot q (List.mem_filter.1 hq).1 d hd (by rwa [dS] at hlt),fun x hx=>?_,he.base⟩
     ·obtain ⟨hq1,hq2⟩:=List.mem_filter.1 hq
      have hqi:q.1≠i:=by simpa using hq2
      obtain ⟨cs2,T2,ap7,hh2,g1,g2,g3⟩:=VH q hq1 hqi
      refine ⟨cs2,T2,ap7,hh2,g1,g2,?_⟩
      simp only [List.mem_cons,not_or]
      exact ⟨he.dist q hq1 p hp (by rw [hpi];exact hqi),g3⟩
     ·rcases List.mem_cons.1 hx with hx|hx
      ·rw [hx];exact h2
      ·exact he.old x hx
   ·exact actual (.inr rfl) Qi hbl fun f hf hr=>early cs T i zi hr Qi f zo zo
theorem aC {id:Nat} {a:Act} {w:World} (is:List (K × Nat)) (hm:P.follows .mixedOrders=true) (hc:check ops is=true) (hal:qJ P ops is)
  (hQ:∀ c (a s:Act) w,s.defers=a.defers→Q (.panic c) a w→Q (.panic c) s w)
  (h:walk P ops Q w.heap.size is [] a w.drew):(Code.region id ops true).wp P Q a w:=by
 unfold check at hc
 simp only [Bool.and_eq_true,decide_eq_true_eq] at hc
 obtain ⟨⟨⟨⟨⟨h1,h2⟩,h3⟩,h4⟩,h5⟩,h6⟩:=hc
 refine wp_region_any hm ?_
 refine AB h1 h2 hQ w.heap.size ops.size is [] [] [] _ a a w.drew ?_ ?_ h3 h4 zi zi hal ?_ h
 ·rw [pU];exact h5
 ·refine ⟨by simp,fun i hi=>?_,fun j o hj hl=>?_,rfl,rfl,fun t _ _=>rfl,by simp,by simp,by simp,by simp⟩
  ·have hmem:i∈is.map (·.2):=by simpa using List.all_eq_true.1 h6 i (List.mem_range.2 hi)
   simp [hi] 
   simpa using hmem
  ·have hj':=(Array.getElem?_eq_some_iff.1 hj).1
   simp [hj'] at hl
 ·exact ⟨by simp,by simp,by simp,by simp,Nat.le_refl _⟩
/-! ### The steps -/
def Dy (ops:Array Oper) (j:Nat) (T:TypeId):Bool:=match ops[j]? with
 | some o=>(match o.op with| .alloc T'=>T' == T| _=>false)&&o.guard.isNone
 | none=>false
def DY (P:Program) (T:TypeId):Option (Array Value):=((P.info? T).bind (·.zero)).map Value.cells
def probe (P:Program) (ops:Array Oper):K × Nat→Bool × Option (Array Value)
 | (.alloc _ T,j)=>(Dy ops j T,DY P T)
 | _=>(true,none)
def want:K × Nat→Bool × Option (Array Value)
 | (.alloc cs _,_)=>(true,some cs)
 | _=>(true,none)
theorem Gb {is:List (K × Nat)} (h:is.map (probe P ops)=is.map want):qJ P ops is:=by
 intro cs T j hj o ho
 have h1:probe P ops (.alloc cs T,j)=want (.alloc cs T,j):=by
  induction is with
  | nil=>cases hj
  | cons x xs ih =>
   simp only [List.map_cons,List.cons.injEq] at h
   rcases List.mem_cons.1 hj with hj|hj
   ·rw [hj];exact h.1
   ·exact ih h.2 hj
 simp only [probe,want,Prod.mk.injEq] at h1
 obtain ⟨h2,h3⟩:=h1
 unfold Dy at h2
 simp only [ho,Bool.and_eq_true] at h2
 obtain ⟨h4,h5⟩:=h2
 refine ⟨by simpa using h5,fun ρ w=>?_⟩
 obtain ⟨dst,op,ty,pos,after,guard⟩:=o
 cases op<;>simp at h4
 case alloc T' =>
  subst h4
  unfold DY at h3
  cases hi:P.info? T' with
  | none=>simp [hi] at h3
  | some i =>
   cases hz:i.zero with
   | none=>simp [hi,hz] at h3
   | some z =>
    simp [hi,hz] at h3
    subst h3
    simp [execOp,Instr.alloc,zeroValue,typeInfo,hi,hz,newVar,newRow,newObj]
    rfl
section
variable {N:Nat} {is:List (K × Nat)} {i:Nat} {A:List Nat} {a:Act} {w:World} {o:Oper}
theorem walk_nil (h:∀ w',Below w.heap.size w w'→Q .normal a w'):walk P ops Q N [] A a w:=h
theorem Oh (ho:ops[i]? =some o) (h:∀ J:Act→Prop,(∀ a,walk P ops Q N is A a w→J a) →
  if Region.wanted o (yielded ops a.tmps) then ∃ v,(∀ w',(execOp a.eval o).run P w'= .ok (.value v) w')∧J (a.put o.dst v) else J (a.put o.dst undef)):walk P ops Q N ((.pure,i)::is) A a w:=by
 unfold walk
 simp only [ho]
 exact h (fun a=>walk P ops Q N is A a w) fun _ h=>h
theorem ah (ho:ops[i]? =some o) (hg:o.guard=none) (h:∀ J:Act→Prop,(∀ a,walk P ops Q N is A a w→J a)→∃ v,(∀ w',(execOp a.eval o).run P w'= .ok (.value v) w')∧J (a.put o.dst v)):walk P ops Q N ((.pure,i)::is) A a w:=by
 unfold walk
 simp only [ho,Region.wanted,hg,if_true]
 exact h (fun a=>walk P ops Q N is A a w) fun _ h=>h
theorem cells_of_cell {w:World} {p:Addr} (h:(w.cell? p).isSome=true):∃ cs T fr,w.heap[p.block]? =some (.cells cs T fr):=by
 unfold World.cell? at h
 split at h
 ·rename_i c e f hh;exact ⟨c,e,f,hh⟩
 ·cases h
theorem mX {w w':World} (p:Addr) (hh:w'.heap[p.block]? =w.heap[p.block]?) (hcs:∃ cs T fr,w.heap[p.block]? =some (.cells cs T fr)):∀ (n i:Nat) (acc:Array Value) (v:Array Value),
  (loadCellsFrom p i n acc).run P w= .ok v w→(loadCellsFrom p i n acc).run P w'= .ok v w'
 | 0,i,acc,v,h=>by
  simp [loadCellsFrom] at h ⊢
  exact h
 | n+1,i,acc,v,h=>by
  have hbl:(p.add i).block=p.block:=by unfold Addr.add;split<;>rfl
  have hq:w'.cell? (p.add i)=w.cell? (p.add i):=World.cell?_of_block (by rw [hbl];exact hh)
  simp only [loadCellsFrom,Sem.run_bind,run_load,hq] at h ⊢
  cases hcell:w.cell? (p.add i) with
  | none =>
   obtain ⟨cs,T,fr,hb⟩:=hcs
   simp [hcell,Result.andThen,World.farLoad,hbl,hb] at h
  | some u =>
   simp only [hcell,Result.andThen] at h ⊢
   exact mX p hh hcs n (i+1) _ v h
theorem uT {w w':World} {T:TypeId} {p:Addr} {v:Value} (hb:Below w.heap.size w w') (hc:(w.cell? p).isSome=true) (h:(loadVar T p).run P w= .ok v w):(loadVar T p).run P w'= .ok v w':=by
 have hcs:=cells_of_cell hc
 have hp:p.block<w.heap.size:=by
  obtain ⟨cs,T,fr,hh⟩:=hcs
  rcases Nat.lt_or_ge p.block w.heap.size with h|h
  ·exact h
  ·rw [Array.getElem?_eq_none h] at hh;cases hh
 have hh:=hb.block p.block hp
 have hq:w'.cell? p=w.cell? p:=World.cell?_of_block hh
 obtain ⟨u,hu⟩:=Option.isSome_iff_exists.1 hc
 unfold loadVar at h ⊢
 rw [Sem.run_bind] at h ⊢
 have ha:∃ r,∀ x:World,(isAgg T).run P x=match r with|Except.ok b=>Result.ok b x|Except.error e=>Result.halt e x:=by
  cases hT:P.underlying T with
  | none => exact ⟨.error (.stuck "no such type"), fun x => by simp [isAgg, Go.underlying, Sem.run_bind, hT, Result.andThen]⟩
  | some d=>cases d<;>first
   | (refine ⟨.ok true,fun x=>?_⟩;simp [isAgg,Go.underlying,Sem.run_bind,hT,Result.andThen];done)
   | (refine ⟨.ok false,fun x=>?_⟩;simp [isAgg,Go.underlying,Sem.run_bind,hT,Result.andThen];done)
 obtain ⟨r,hr⟩:=ha
 rw [hr] at h ⊢
 cases r with
 | error e=>simp [Result.andThen] at h
 | ok b =>
  simp only [Result.andThen] at h ⊢
  cases b with
  | false =>
   simp only [Bool.false_eq_true,if_false,run_load,hq,hu] at h ⊢
   injection h with h1
   rw [h1]
  | true =>
   simp only [if_true,Sem.run_bind,sizeOf,typeInfo] at h ⊢
   cases hi:P.info? T with
   | none=>simp [hi,Result.andThen] at h
   | some i =>
    simp [hi,Result.andThen] at h ⊢
    unfold loadCells at h ⊢
    cases hl:(loadCellsFrom p 0 i.size #[]).run P w with
    | halt e x=>simp [hl] at h
    | ok c x =>
     simp [hl] at h
     obtain ⟨h1,h2⟩:=h
     rw [h2] at hl
     rw [mX p hh hcs _ _ _ _ hl]
     simp [h1]
theorem aB {T:TypeId} {x:Operand} {p:Addr} (ho:ops[i]? =some o) (hg:o.guard=none) (hop:o.op= .load T x) (hx:a.eval x= .pointer (some p))
  (h:∀ J:Value→Prop,(∀ v,walk P ops Q N is A (a.put o.dst v) w→J v)→(w.cell? p).isSome=true∧∃ v,(loadVar T p).run P w= .ok v w∧J v):walk P ops Q N ((.read,i)::is) A a w:=by
 unfold walk
 simp only [ho,Region.wanted,hg,if_true]
 obtain ⟨h1,v,h2,h3⟩:=h (fun v=>walk P ops Q N is A (a.put o.dst v) w) fun _ h=>h
 refine ⟨v,fun w' hb=>?_,h3⟩
 simp only [execOp,hop,hx,Instr.loadAt,Instr.sureAddr,Sem.run_bind,Sem.run_pure,Result.andThen_ok,uT hb h1 h2]
theorem aD (ho:ops[i]? =some o) (hg:o.guard=none) (h:∀ w',Below w.heap.size w w'→∀ J:Act→World→Prop,(∀ a' w'',Below w'.heap.size w' w''→walk P ops Q N is A a' w''→J a' w'')→o.wp P a w' J Q):walk P ops Q N ((.ext,i)::is) A a w:=by
 unfold walk
 simp only [ho,Region.wanted,hg,if_true]
 exact fun w' hb=>h w' hb _ fun a' w'' h1 h2=>⟨h1,h2⟩
theorem aR {cs:Array Value} {T:TypeId} (ho:ops[i]? =some o) (h:∀ b w',Below w.heap.size w w'→N≤b→b<w'.heap.size→b∉A→w'.heap[b]? =some (.cells cs T (0,0))→walk P ops Q N is (b::A) (a.put o.dst (.pointer (some ⟨b,0,none⟩))) w'):walk P ops Q N ((.alloc cs T,i)::is) A a w:=by
 unfold walk
 simp only [ho]
 exact h
theorem pF:∀ (js:List Nat) (l:List Oper) (a:Act) (w:World),js.map (ops[·]?)=l.map some→wpList P ops Q l a w→wpOps P ops Q js a w
 | [],[],_,_,_,h=>h
 | [],_:: _,_,_,hl,_=>by cases hl
 | _:: _,[],_,_,hl,_=>by cases hl
 | j::js,x::xs,a,w,hl,h=>by
  simp only [List.map_cons,List.cons.injEq] at hl
  unfold wpList at h
  simp only [wpOps,hl.1]
  split
  ·rename_i hw
   simp only [hw,if_true] at h
   exact h.imp (Oper.wp_mono fun a w h=>pF js xs a w hl.2 h) id
  ·rename_i hw
   simp only [hw] at h
   exact pF js xs _ _ hl.2 h
theorem aI (l:List Oper) (hl:(i::is.map (·.2)).map (ops[·]?)=l.map some) (h:∀ w',Below w.heap.size w w'→wpList P ops Q l a w'):walk P ops Q N ((.fin,i)::is) A a w:=by
 have hi:∃ o,ops[i]? =some o:=by
  cases l with
  | nil=>cases hl
  | cons x xs=>simp only [List.map_cons,List.cons.injEq] at hl;exact ⟨x,hl.1⟩
 obtain ⟨o,ho⟩:=hi
 unfold walk
 simp only [ho]
 exact fun w' hb=>pF _ l a w' hl (h w' hb)
end
end
end Go.SW
namespace Go.Mem
open Go Go.RowKit Go.SW Go.Num
def au (w:World) (b:Nat) (cs:Array Value) (T:TypeId):Prop:=w.heap[b]? =some (.cells cs T (0,0))
theorem au.lt {w:World} {b:Nat} {cs:Array Value} {T:TypeId} (h:au w b cs T):b<w.heap.size:=by
 rcases Nat.lt_or_ge b w.heap.size with h1|h1
 ·exact h1
 ·unfold au at h;rw [Array.getElem?_eq_none h1] at h;cases h
theorem au.cell {w:World} {b:Nat} {cs:Array Value} {T:TypeId} (h:au w b cs T) (o:Nat):w.cell? ⟨b,o,none⟩=cs[o]? :=by
 unfold au at h;simp [World.cell?, h]
theorem au.free {w:World} {b:Nat} {cs:Array Value} {T:TypeId} (h:au w b cs T) (o:Nat):w.frozen? ⟨b,o,none⟩=false:=by
 unfold au at h;simp [World.frozen?, h]
theorem au.later {w w':World} {b:Nat} {cs:Array Value} {T:TypeId} (h:au w b cs T) (hb:Below w.heap.size w w'):au w' b cs T:=by
 unfold au;rw [hb.block b h.lt];exact h
theorem au.new (w:World) (cs:Array Value) (T:TypeId):au (w.alloc (.cells cs T (0,0))) w.heap.size cs T:=by
 show (w.heap.push _)[w.heap.size]? =_;simp
theorem au.alloc {w:World} {b:Nat} {cs:Array Value} {T:TypeId} (h:au w b cs T) (o:Obj):au (w.alloc o) b cs T :=
 h.later ((Below.refl _ _).alloc (Nat.le_refl _) _)
theorem au.drew {w:World} {b:Nat} {cs:Array Value} {T:TypeId} (h:au w b cs T):au w.drew b cs T:=h
theorem sQ {w:World} {b:Nat} (a:Addr) (u:Value) (h:b≠a.block):(w.setCell a u).heap[b]? =w.heap[b]? :=Below.heap_setCell w a u b h
theorem au.setOther {w:World} {b:Nat} {cs:Array Value} {T:TypeId} (h:au w b cs T) {a:Addr} (u:Value) (hne:b≠a.block):au (w.setCell a u) b cs T:=by
 unfold au;rw [sQ a u hne];exact h
theorem au.set {w:World} {b:Nat} {cs:Array Value} {T:TypeId} (h:au w b cs T) (o:Nat) (u:Value):au (w.setCell ⟨b,o,none⟩ u) b (cs.setIfInBounds o u) T:=by
 have hl:=h.lt
 unfold au at h ⊢
 have e:w.heap[b]= .cells cs T (0,0):=by simpa [hl] using h
 simp [World.setCell,hl,Array.getElem_modify,e]
theorem au.ne {w:World} {b b':Nat} {cs cs':Array Value} {T T':TypeId} (h:au w b cs T) (h':au w b' cs' T') (hT:T≠T'):b≠b':=by
 rintro rfl
 unfold au at h h'
 rw [h] at h'
 injection h' with e
 injection e with _ e2
 exact hT e2
theorem Rq {w w':World} {n:Nat} (h:Below (w.drewN n).heap.size (w.drewN n) w'):Below w.heap.size w w':=⟨h.os,h.tape,h.output,h.size,h.block⟩
theorem Bt {w w1 w2:World} (h:Below w.heap.size w w1) (k:Below w1.heap.size w1 w2):Below w.heap.size w w2:=iW h k
def Row (w:World) (T:TypeId) (v:Value) (xs:List Value):Prop :=
 ∃ a cap,v= .slice a xs.length cap∧xs.length≤cap∧cap≤9223372036854775807∧(a=none→cap=0) ∧
  ∀ ad,a=some ad→ad.spot=none∧∃ arr,w.heap[ad.block]? =some (.cells arr T (0,0))∧∀ i (h:i<xs.length),arr[ad.off+i]? =some xs[i]
theorem Row.later {w w':World} {T:TypeId} {v:Value} {xs:List Value} (h:Row w T v xs) (hb:Below w.heap.size w w'):Row w' T v xs:=by
 obtain ⟨a,cap,h1,h2,h3,h4,h5⟩:=h
 refine ⟨a,cap,h1,h2,h3,h4,fun ad had=>?_⟩
 obtain ⟨h6,arr,h7,h8⟩:=h5 ad had
 have hx:au w ad.block arr T:=h7
 exact ⟨h6,arr,hx.later hb,h8⟩
theorem Row.setOther {w:World} {T:TypeId} {v:Value} {xs:List Value} (h:Row w T v xs) {b:Nat} {cs:Array Value} {T':TypeId} (hx:au w b cs T') (hT:T≠T') (o:Nat) (u:Value):Row (w.setCell ⟨b,o,none⟩ u) T v xs:=by
 obtain ⟨a,cap,h1,h2,h3,h4,h5⟩:=h
 refine ⟨a,cap,h1,h2,h3,h4,fun ad had=>?_⟩
 obtain ⟨h6,arr,h7,h8⟩:=h5 ad had
 have hy:au w ad.block arr T:=h7
 exact ⟨h6,arr,hy.setOther u (hy.ne hx hT),h8⟩
theorem Row.nil (w:World) (T:TypeId):Row w T (.slice none 0 0) []:=⟨none,0,rfl,by simp,by simp,fun _=>rfl,fun _ h=>by cases h⟩
theorem Row.cases {w:World} {T:TypeId} {v:Value} {xs:List Value} (h:Row w T v xs) :
  (v= .slice none 0 0∧xs=[])∨∃ b off cap arr,v= .slice (some ⟨b,off,none⟩) xs.length cap∧xs.length≤cap∧cap≤9223372036854775807∧au w b arr T∧∀ i (h:i<xs.length),arr[off+i]? =some xs[i]:=by
 obtain ⟨a,cap,h1,h2,h3,h4,h5⟩:=h
 cases a with
 | none =>
  have h6:=h4 rfl
  have h7:xs=[]:=List.length_eq_zero_iff.1 zo
  subst h6 h7
  exact .inl ⟨h1,rfl⟩
 | some ad =>
  obtain ⟨h6,arr,h7,h8⟩:=h5 ad rfl
  obtain ⟨b,off,sp⟩:=ad
  simp only at h6
  subst h6
  exact .inr ⟨b,off,cap,arr,h1,h2,h3,h7,h8⟩
theorem Row.mk {w:World} {T:TypeId} {xs:List Value} {b off cap n:Nat} {arr:Array Value} (hn:n=xs.length) (h2:xs.length≤cap) (h3:cap≤9223372036854775807) (h7:au w b arr T) (h8:∀ i (h:i<xs.length),arr[off+i]? =some xs[i]) :
  Row w T (.slice (some ⟨b,off,none⟩) n cap) xs:=by
 subst hn
 exact ⟨_,_,rfl,h2,h3,(fun h=>by cases h),fun ad had=>by cases had;exact ⟨rfl,arr,h7,h8⟩⟩
def bP (l:List Nat):List Value:=l.map fun (d:Nat)=>.int .u32 (d:Int)
def ints (l:List Nat):List Value:=l.map fun (d:Nat)=>.int .i64 (d:Int)
theorem cZ (l:List Nat):(bP l).length=l.length:=by simp [bP]
theorem aT (l:List Nat):(ints l).length=l.length:=by simp [ints]
def aM (w:World) (v:Value) (n:Nat):Prop:=Row w 113 v (bP (bN 1000000000 n))
theorem aM.later {w w':World} {v:Value} {n:Nat} (h:aM w v n) (hb:Below w.heap.size w w'):aM w' v n:=Row.later h hb
theorem aM.setOther {w:World} {v:Value} {n:Nat} (h:aM w v n) {b:Nat} {cs:Array Value} {T':TypeId} (hx:au w b cs T') (hT:113≠T') (o:Nat) (u:Value):aM (w.setCell ⟨b,o,none⟩ u) v n:=Row.setOther h hx hT o u
def kY (w:World) (v:Value) (l:List Nat):Prop:=Row w 113 v (bP l)
theorem kY.later {w w':World} {v:Value} {l:List Nat} (h:kY w v l) (hb:Below w.heap.size w w'):kY w' v l:=Row.later h hb
theorem kY.cases {w:World} {v:Value} {l:List Nat} (h:kY w v l) :
  (v= .slice none 0 0∧l=[])∨∃ b off cap,v= .slice (some ⟨b,off,none⟩) l.length cap∧l.length≤cap∧cap≤9223372036854775807∧b<w.heap.size∧(∃ arr,au w b arr 113)∧∀ i,i<l.length→w.cell? ⟨b,off+i,none⟩=some (.int .u32 (l.getD i 0:Nat)):=by
 rcases Row.cases h with ⟨h1,h2⟩|⟨b,off,cap,arr,h1,h2,h3,h4,h5⟩
 ·refine .inl ⟨h1,?_⟩
  unfold bP at h2
  simpa using h2
 ·refine .inr ⟨b,off,cap,by rw [h1,cZ],by rwa [cZ] at h2,h3,h4.lt,⟨arr,h4⟩,fun i hi=>?_⟩
  rw [h4.cell,h5 i (by rw [cZ];exact hi)]
  simp [bP,hi]
theorem kY.read {w:World} {v:Value} {l:List Nat} (h:kY w v l) :
  ∃ a cap,v= .slice a l.length cap∧l.length≤cap∧cap≤9223372036854775807∧∀ k,k<l.length→∃ b off,a=some ⟨b,off,none⟩∧b<w.heap.size∧w.cell? ⟨b,off+k,none⟩=some (.int .u32 (l.getD k 0:Nat)):=by
 rcases kY.cases h with ⟨rfl,rfl⟩|⟨b,off,cap,rfl,h1,h2,h3,_,h5⟩
 ·exact ⟨none,0,rfl,by simp,by simp,fun k hk=>by cases hk⟩
 ·exact ⟨some ⟨b,off,none⟩,cap,rfl,h1,h2,fun k hk=>⟨b,off,rfl,h3,h5 k hk⟩⟩
theorem aM.Rs {w:World} {v:Value} {l:List Nat} (h:kY w v l) (hd:dF 1000000000 l) (ht:Top l):aM w v (val 1000000000 l):=by
 unfold aM;rw [Bv zo hd ht];exact h
theorem aM.zO {w:World} {v:Value} {n:Nat} (h:aM w v n):kY w v (bN 1000000000 n):=h
theorem Row.dN {w:World} {base k:Nat} {T:TypeId} {v:Value} {xs:List Value} (h:w.ownsRow base T 1 v k xs):Row w T v xs:=by
 obtain ⟨h1,h2|⟨g,cap,cur,h3,h4,h5,h6,h7,h8,h9⟩⟩:=h
 ·obtain ⟨rfl,rfl⟩:=h2
  have:xs=[]:=List.length_eq_zero_iff.1 zo
  subst this
  exact Row.nil _ _
 ·rw [Nat.mul_one] at h1 h8 h9
  subst h3
  unfold maxLen at h7
  refine Row.mk h1.symm zo h7 h5 fun i hi=>?_
  have hik:i<k:=by omega
  rw [Nat.zero_add]
  have:xs[i]? =(cur.toList.take k)[i]? :=by rw [h9]
  rw [List.getElem?_take_of_lt hik] at this
  rw [← Array.getElem?_toList,← this]
  simp [hi]
theorem kY.dN {w:World} {base k:Nat} {v:Value} {s:List Nat} (h:w.ownsRow base 113 1 v k (bP s)):kY w v s:=Row.dN h
theorem sM (n:Nat):(madeCells #[Value.int .u32 0] n).toList=bP (List.replicate n 0):=by
 rw [toList_madeCells_one];simp [bP]
theorem kF (l:List Nat) (k d:Nat):(bP l).set k (.int .u32 (d:Int))=bP (l.set k d):=by simp [bP,List.map_set]
theorem nX {l:List Nat} {k:Nat} (h:k<l.length):(bP l)[k]? =some (.int .u32 (l.getD k 0:Nat)):=by simp [bP,h]
theorem Dv (w:World) (g:Option Nat):w.grownBy w g:=⟨rfl,rfl,rfl,Nat.le_refl _,fun _ _ _=>rfl⟩
theorem jY {a w:World} {g:Option Nat} (h:a.grownBy w g) (n:Nat):a.grownBy (w.drewN n) g:=⟨h.os,h.tape,h.output,h.size,h.block⟩
theorem sJ {a w:World} {g:Nat} (h:a.grownBy w (some g)) (o:Nat) (u:Value):a.grownBy (w.setCell ⟨g,o,none⟩ u) (some g) :=
 ⟨h.os,h.tape,h.output,by simpa [World.setCell] using h.size,fun i hi hne=>(Below.heap_setCell w _ u i (by rintro rfl;exact hne rfl)).trans (h.block i hi hne)⟩
theorem uV {B g:Nat} {a b c:World} (h:Below B a b) (k:b.grownBy c (some g)) (hB:B≤b.heap.size) (hg:B≤g):Below B a c :=
 h.grown k hB (fun k hk=>by cases hk;exact hg)
theorem tK {w:World} {base g n:Nat} {T:TypeId} {xs:List Value} (h:w.ownsRow base T 1 (.slice (some ⟨g,0,none⟩) n n) n xs):au w g xs.toArray T∧base≤g:=by
 obtain ⟨h1,h2|⟨g',cap,cur,h3,h4,h5,h6,h7,h8,h9⟩⟩:=h
 ·cases h2.1
 ·simp only [Value.slice.injEq,Option.some.injEq,Addr.mk.injEq,and_true,true_and] at h3
  obtain ⟨rfl,rfl⟩:=h3
  rw [Nat.mul_one] at h8 h9
  rw [List.take_of_length_le (by rw [Array.length_toList,h8];exact Nat.le_refl _)] at h9
  exact ⟨by unfold au;rw [h5,← h9],h4⟩
theorem kY.Fx {w:World} {g n m:Nat} {l post:List Nat} (h:au w g (bP (l++post)).toArray 113) (hl:l.length=n) (hm:n≤m) (hm2:m≤9223372036854775807):kY w (.slice (some ⟨g,0,none⟩) n m) l:=by
 refine Row.mk (by rw [cZ];omega) (by rw [cZ];omega) hm2 h fun i hi=>?_
 rw [cZ] at hi
 rw [Nat.zero_add,List.getElem?_toArray]
 simp [bP,hi,List.getElem?_append_left]
theorem aM.lit {w:World} {d:Nat} (h0:0<d) (h1:d<1000000000):aM (w.alloc (.cells #[.int .u32 d] 113 (0,0))) (.slice (some ⟨w.heap.size,0,none⟩) 1 1) d:=by
 have e:bN 1000000000 d=[d]:=by rw [jA zo h0,Nat.mod_eq_of_lt h1,Nat.div_eq_of_lt h1,dX]
 unfold aM
 rw [e]
 refine Row.mk rfl (by simp [bP]) zo (au.new _ _ _) fun i hi=>?_
 match i,hi with
 | 0,_=>rfl
theorem aM.zero (w:World):aM w (.slice none 0 0) 0:=by unfold aM;rw [dX];exact Row.nil _ _
theorem EA (l:List Nat):∀ v∈bP l,v.oneCell'=true:=fun v hv=>by
 obtain ⟨d,_,rfl⟩:=List.mem_map.1 hv;rfl
theorem kY.src {w:World} {a:Option Addr} {l:List Nat} (h:∀ k,k<l.length→∃ b off,a=some ⟨b,off,none⟩∧b<w.heap.size∧w.cell? ⟨b,off+k,none⟩=some (.int .u32 (l.getD k 0:Nat))) (hl:0<(bP l).length) :
  ∃ ad,a=some ad∧∀ j v,(bP l)[j]? =some v→w.cell? (ad.add j)=some v:=by
 rw [cZ] at hl
 obtain ⟨b,off,rfl,_,_⟩:=h 0 hl
 refine ⟨_,rfl,fun j v hv=>?_⟩
 have hj:j<l.length:=by
  have:=(List.getElem?_eq_some_iff.1 hv).1;rwa [cZ] at this
 obtain ⟨b',off',h1,_,h3⟩:=h j hj
 simp only [Option.some.injEq,Addr.mk.injEq,and_true] at h1
 obtain ⟨rfl,rfl⟩:=h1
 rw [nX hj] at hv
 rw [Addr.add_lit,h3,← hv]
end Go.Mem
namespace Go.Dec
open Go.Num Go.Lib
theorem fV {u:Nat} (h:u<10):decDigits u=[UInt8.ofNat (48+u)]:=by rw [decDigits,dif_pos h]
theorem oW {u:Nat} (h:¬ u<10):decDigits u=decDigits (u / 10)++[UInt8.ofNat (48+u%10)]:=by rw [decDigits,dif_neg h]
theorem yx (u:Nat):decDigits u≠[]:=by
 by_cases h:u<10
 ·rw [fV h];simp
 ·rw [oW h];simp
theorem y7 (u:Nat):1≤(decDigits u).length:=List.length_pos_iff.mpr (yx u)
def pad:Nat→Nat→List UInt8
 | 0,_=>[]
 | k+1,r=>pad k (r / 10)++[UInt8.ofNat (48+r%10)]
theorem oh:∀ k r,(pad k r).length=k
 | 0,_=>rfl
 | k+1,r=>by simp [pad,oh k]
theorem H9:∀ k,pad k 0=List.replicate k 48
 | 0=>rfl
 | k+1=>by
  rw [pad,Nat.zero_div,H9 k,List.replicate_succ']
  rfl
theorem F7:∀ (k q r:Nat),0<q→r<10^k→decDigits (q*10^k+r)=decDigits q++pad k r
 | 0,q,r,hq,hr=>by
  have:r=0:=by simpa using hr
  subst this
  simp [pad]
 | k+1,q,r,hq,hr=>by
  have hp:0<10^k:=Nat.pow_pos zd
  have e:q*10^(k+1)+r=10*(q*10^k)+r:=by rw [Nat.pow_succ,Nat.mul_comm 10,Nat.mul_assoc]
  have h1:0<q*10^k:=Nat.mul_pos hq hp
  rw [oW zo,e,show (10*(q*10^k)+r) / 10=q*10^k+r / 10 by omega,show (10*(q*10^k)+r)%10=r%10 by omega,
   F7 k q (r / 10) hq (by rw [Nat.pow_succ] at hr;omega),pad,List.append_assoc]
theorem wX:∀ (k r:Nat),0<k→r<10^k→List.replicate (k - (decDigits r).length) 48++decDigits r=pad k r
 | 0,_,h,_=>by omega
 | k+1,r,_,hr=>by
  by_cases h:r<10
  ·rw [fV h,pad,Nat.div_eq_of_lt h,Nat.mod_eq_of_lt h,H9]
   simp
  ·have hk:0<k:=by
    rcases Nat.eq_zero_or_pos k with h0|h0
    ·subst h0;simp at hr;omega
    ·exact h0
   rw [oW h,pad,← wX k (r / 10) hk (by rw [Nat.pow_succ] at hr;omega)]
   simp
theorem j3:∀ (k r:Nat),0<k→r<10^k→(decDigits r).length≤k:=fun k r hk hr=>by
 by_cases h:(decDigits r).length≤k
 ·exact h
 ·have h1:=congrArg List.length (wX k r hk hr)
  rw [List.length_append,List.length_replicate,oh] at h1
  omega
theorem Lj (n:Nat):n<10^(decDigits n).length:=by
 induction n using Nat.strongRecOn with
 | _ n ih =>
  by_cases h:n<10
  ·rw [fV h];simpa using h
  ·rw [oW h,List.length_append,List.length_singleton,Nat.pow_succ]
   have:=ih (n / 10) zo
   omega
def num (l:List UInt8):Nat:=l.foldl (fun v b=>v*10+(b.toNat - 48)) 0
def qI (l:List UInt8):Prop:=∀ b∈l,48≤b.toNat∧b.toNat≤57
theorem om (l:List UInt8) (b:UInt8):num (l++[b])=num l*10+(b.toNat - 48):=by simp [num]
theorem MJ:num []=0:=rfl
theorem yt:∀ (m:List UInt8) (v:Nat),m.foldl (fun v b=>v*10+(b.toNat - 48)) v=v*10^m.length+num m
 | [],v=>by simp [num]
 | b::m,v=>by
  have h1:=yt m (v*10+(b.toNat - 48))
  have h2:=yt m (0*10+(b.toNat - 48))
  rw [List.foldl_cons,h1]
  have e:num (b::m)=m.foldl (fun v b=>v*10+(b.toNat - 48)) (0*10+(b.toNat - 48)):=rfl
  rw [e,h2,List.length_cons,Nat.pow_succ,Nat.add_mul,Nat.add_mul,Nat.mul_assoc,Nat.mul_comm (10^m.length) 10]
  omega
theorem Kq (l m:List UInt8):num (l++m)=num l*10^m.length+num m:=by
 unfold num
 rw [List.foldl_append,yt]
 rfl
theorem G6 {α:Type} {Q:List α→Prop} (h0:Q []) (h1:∀ l a,Q l→Q (l++[a])) (l:List α):Q l:=by
 have h:∀ m:List α,Q m.reverse:=fun m=>by
  induction m with
  | nil=>exact h0
  | cons a m ih=>rw [List.reverse_cons];exact h1 _ _ ih
 have:=h l.reverse
 rwa [List.reverse_reverse] at this
theorem Rt (l:List UInt8):qI l→num l<10^l.length :=
 G6 (Q:=fun l=>qI l→num l<10^l.length) (fun _=>by simp [num]) (fun l b ih h=>by
  rw [om,List.length_append,List.length_singleton,Nat.pow_succ]
  have h1:=ih fun x hx=>h x (by simp [hx])
  have h2:=h b zi
  omega) l
theorem IW {l m:List UInt8} (h:qI l) (k:qI m):qI (l++m):=fun b hb=>by
 rcases List.mem_append.mp hb with hb|hb
 ·exact h b hb
 ·exact k b hb
theorem lW {d:Nat} (h:d<10):(UInt8.ofNat (48+d)).toNat=48+d:=by
 rw [UInt8.toNat_ofNat']
 omega
theorem qy (n:Nat):qI (decDigits n):=by
 induction n using Nat.strongRecOn with
 | _ n ih =>
  by_cases h:n<10
  ·rw [fV h]
   intro b hb
   rw [List.mem_singleton] at hb
   subst hb
   rw [lW h]
   omega
  ·rw [oW h]
   refine IW (ih _ zo) fun b hb=>?_
   rw [List.mem_singleton] at hb
   subst hb
   rw [lW zo]
   omega
theorem qX (n:Nat):num (decDigits n)=n:=by
 induction n using Nat.strongRecOn with
 | _ n ih =>
  by_cases h:n<10
  ·rw [fV h,← List.nil_append [UInt8.ofNat (48+n)],om,MJ,lW h]
   omega
  ·rw [oW h,om,ih _ zo,lW zo]
   omega
theorem Ws (l:List UInt8):qI l→l≠[]→(l.head? =some 48→l.length=1)→decDigits (num l)=l :=
 G6 (Q:=fun l=>qI l→l≠[]→(l.head? =some 48→l.length=1)→decDigits (num l)=l) (fun _ h=>absurd rfl h) (fun l b ih hd _ h0=>by
  have hb:=hd b zi
  have hbe:UInt8.ofNat (48+(b.toNat - 48))=b:=by
   rw [show 48+(b.toNat - 48)=b.toNat by omega]
   exact UInt8.ofNat_toNat
  by_cases hl:l=[]
  ·subst hl
   rw [om,MJ,List.nil_append,fV zo,Nat.zero_mul,Nat.zero_add,hbe]
  ·have hdl:qI l:=fun x hx=>hd x (by simp [hx])
   have hh:l.head? ≠some 48:=fun e=>by
    have e2:(l++[b]).head? =some 48:=by rw [List.head?_append,e];rfl
    have:=h0 e2
    rw [List.length_append,List.length_singleton] at this
    have:=List.length_pos_iff.mpr hl
    omega
   have ih2:=ih hdl hl (fun e=>absurd e hh)
   have hpos:0<num l:=by
    rcases Nat.eq_zero_or_pos (num l) with e|e
    ·rw [e,fV zo] at ih2
     rw [← ih2] at hh
     exact absurd rfl hh
    ·exact e
   rw [om,oW zo,show (num l*10+(b.toNat - 48)) / 10=num l by omega,show (num l*10+(b.toNat - 48))%10=b.toNat - 48 by omega,ih2,hbe]) l
theorem wW {n:Nat} (h:(decDigits n).head? =some 48):n=0:=by
 induction n using Nat.strongRecOn with
 | _ n ih =>
  by_cases hn:n<10
  ·rw [fV hn] at h
   simp only [List.head?_cons,Option.some.injEq] at h
   have:=congrArg UInt8.toNat h
   rw [lW hn] at this
   simp at this
   omega
  ·rw [oW hn] at h
   have h2:(decDigits (n / 10)).head? =some 48:=by
    cases hq:decDigits (n / 10) with
    | nil=>exact absurd hq (yx _)
    | cons x t=>rw [hq] at h;simpa using h
   have:=ih _ zo h2
   omega
def dI (d:List UInt8) (neg:Bool):Bool :=
 d≠[]&&d.length≤600&&d.all (fun b=>48≤b.toNat&&b.toNat≤57)&& !(d.head? == some 48&&(neg || 1<d.length))
def cut (s:List UInt8):List UInt8 × Bool:=if s.head? =some 45 then (s.tail,true) else (s,false)
def mk (n:Nat) (neg:Bool):Int:=if neg then -(n:Int) else n
def whole (s:List UInt8):Option Int:=if dI (cut s).1 (cut s).2 then some (mk (num (cut s).1) (cut s).2) else none
theorem oP {d:List UInt8} {neg:Bool} (h:dI d neg=true):qI d:=by
 intro b hb
 unfold dI at h
 simp only [Bool.and_eq_true] at h
 have:=List.all_eq_true.mp h.1.2 b hb
 simpa using this
theorem nV {s:List UInt8} {z:Int} (h:whole s=some z):s=itoa z∧(decDigits z.natAbs).length≤600:=by
 unfold whole at h
 split at h
 ·rename_i hok
  have hd:=oP hok
  unfold dI at hok
  simp only [Bool.and_eq_true,Bool.not_eq_true',decide_eq_true_eq] at hok
  obtain ⟨⟨⟨h1,h2⟩, -⟩,h4⟩:=hok
  have hlen:(cut s).1.head? =some 48→(cut s).1.length=1:=fun e=>by
   have:=List.length_pos_iff.mpr h1
   rw [e] at h4
   simp at h4
   omega
  have hdn:=Ws _ hd h1 hlen
  simp only [Option.some.injEq] at h
  unfold cut at *
  by_cases hs:s.head? =some 45
  ·rw [if_pos hs] at *
   simp only at *
   have hz:0<num s.tail:=by
    rcases Nat.eq_zero_or_pos (num s.tail) with e|e
    ·rw [e,fV zo] at hdn
     rw [← hdn] at h4
     simp at h4
    ·exact e
   subst h
   have e1:mk (num s.tail) true= -((num s.tail:Nat):Int):=rfl
   have e2:(-((num s.tail:Nat):Int)).natAbs=num s.tail:=by omega
   rw [e1,e2,hdn]
   refine ⟨?_,h2⟩
   unfold itoa
   rw [if_pos zo,e2,hdn]
   cases s with
   | nil=>simp at hs
   | cons x t=>simp only [List.head?_cons,Option.some.injEq] at hs;subst hs;rfl
  ·rw [if_neg hs] at *
   simp only at *
   subst h
   have e1:mk (num s) false=((num s:Nat):Int):=rfl
   rw [e1,Int.natAbs_natCast,hdn]
   refine ⟨?_,h2⟩
   unfold itoa
   rw [if_neg zo,Int.toNat_natCast,hdn]
 ·simp at h
theorem dP {z:Int} (h:(decDigits z.natAbs).length≤600):whole (itoa z)=some z:=by
 unfold whole
 by_cases hz:z<0
 ·have e:itoa z=45::decDigits z.natAbs:=by unfold itoa;rw [if_pos hz]
  have ec:cut (itoa z)=(decDigits z.natAbs,true):=by rw [e];rfl
  rw [ec]
  have hh:(decDigits z.natAbs).head? ≠some 48:=fun e=>by have:=wW e;omega
  rw [if_pos,qX]
  ·have:mk z.natAbs true=z:=by unfold mk;rw [if_pos rfl];omega
   rw [this]
  ·unfold dI
   have hd:=qy z.natAbs
   simp only [Bool.and_eq_true,decide_eq_true_eq,List.all_eq_true,Bool.not_eq_true',Bool.and_eq_false_iff]
   exact ⟨⟨⟨yx _,h⟩,hd⟩,.inl (by simpa using hh)⟩
 ·have e:itoa z=decDigits z.natAbs:=by unfold itoa;rw [if_neg hz,show z.toNat=z.natAbs by omega]
  have hnm:(itoa z).head? ≠some 45:=by
   rw [e]
   intro h1
   have hd:=qy z.natAbs
   cases hq:decDigits z.natAbs with
   | nil=>exact yx _ hq
   | cons x t =>
    rw [hq] at h1 hd
    simp only [List.head?_cons,Option.some.injEq] at h1
    have:=hd x zi
    subst h1
    simp at this
  have ec:cut (itoa z)=(decDigits z.natAbs,false):=by unfold cut;rw [if_neg hnm,e]
  rw [ec,if_pos,qX]
  ·have:mk z.natAbs false=z:=by unfold mk;simp;omega
   rw [this]
  ·unfold dI
   have hd:=qy z.natAbs
   simp only [Bool.and_eq_true,decide_eq_true_eq,List.all_eq_true,Bool.not_eq_true',Bool.and_eq_false_iff]
   refine ⟨⟨⟨yx _,h⟩,hd⟩,?_⟩
   by_cases hh:(decDigits z.natAbs).head? =some 48
   ·have:=wW hh
    right
    rw [this,fV zo]
    rfl
   ·exact .inl (by simpa using hh)
theorem Tt (z:Int):cut (itoa z)=(decDigits z.natAbs,decide (z<0)):=by
 by_cases hz:z<0
 ·have e:itoa z=45::decDigits z.natAbs:=by unfold itoa;rw [if_pos hz]
  rw [e,decide_eq_true hz]
  rfl
 ·have e:itoa z=decDigits z.natAbs:=by unfold itoa;rw [if_neg hz,show z.toNat=z.natAbs by omega]
  have hnm:(itoa z).head? ≠some 45:=by
   rw [e]
   intro h1
   have hd:=qy z.natAbs
   cases hq:decDigits z.natAbs with
   | nil=>exact yx _ hq
   | cons x t =>
    rw [hq] at h1 hd
    simp only [List.head?_cons,Option.some.injEq] at h1
    have:=hd x zi
    subst h1
    simp at this
  unfold cut
  rw [if_neg hnm,e,decide_eq_false hz]
theorem Iq {a b:Int} (h:itoa a=itoa b):a=b:=by
 unfold itoa at h
 have key:∀ (n m:Nat),45::decDigits n≠decDigits m:=fun n m e=>by
  have:=qy m 45 (by rw [← e];simp)
  simp at this
 by_cases ha:a<0<;>by_cases hb:b<0
 ·rw [if_pos ha,if_pos hb] at h
  have:=congrArg num (List.cons.inj h).2
  rw [qX,qX] at this
  omega
 ·rw [if_pos ha,if_neg hb] at h;exact absurd h (key _ _)
 ·rw [if_neg ha,if_pos hb] at h;exact absurd h.symm (key _ _)
 ·rw [if_neg ha,if_neg hb] at h
  have:=congrArg num h
  rw [qX,qX] at this
  omega
theorem DU {l:List Nat} {i:Nat} (hi:i<l.length) (hd:dF 1000000000 l) (hp:0<val 1000000000 (l.drop (i+1))) :
  decDigits (val 1000000000 (l.drop i))=decDigits (val 1000000000 (l.drop (i+1)))++(List.replicate (9 - (decDigits (l.getD i 0)).length) 48++decDigits (l.getD i 0)):=by
 have hx:l.getD i 0<10^9:=hd.getD zo i
 rw [wX 9 _ zo hx,qP hi,← F7 9 _ _ hp hx]
theorem Ai {l:List Nat} (h:Top l) (i:Nat):Top (l.drop i):=fun k hk=>by
 rw [List.length_drop] at hk
 have:=h (i+k) zo
 rw [List.getD_eq_getElem?_getD,List.getElem?_drop]
 rwa [List.getD_eq_getElem?_getD] at this
theorem yZ {l:List Nat} (h:dF 1000000000 l):(decDigits (val 1000000000 l)).length≤9*l.length+1:=by
 refine j3 _ _ zo (Nat.lt_of_lt_of_le (fD zo h) ?_)
 rw [show (1000000000:Nat)=10^9 by rfl,← Nat.pow_mul]
 exact Nat.pow_le_pow_right zo zo
theorem Q5 {l:List Nat} {n i:Nat} (hn:l.length=n+1) (ht:Top l) (hi:i≤n):0<val 1000000000 (l.drop i) :=
 gu zo (Ai ht i) (fun e=>by have:=congrArg List.length e;rw [List.length_drop,hn] at this;simp at this;omega)
theorem Cr {l:List Nat} {n:Nat} (hn:l.length=n+1):val 1000000000 (l.drop n)=l.getD n 0:=by
 rw [iO zo,List.drop_eq_nil_of_le zo]
 simp [val]
theorem I4 {l:List Nat} {n:Nat} (hn:l.length=n+1) (hd:dF 1000000000 l) (ht:Top l):(decDigits (val 1000000000 l)).length=9*n+(decDigits (l.getD n 0)).length:=by
 have key:∀ j,j≤n→(decDigits (val 1000000000 (l.drop (n - j)))).length=9*j+(decDigits (l.getD n 0)).length:=fun j=>by
  induction j with
  | zero=>intro _;rw [Nat.sub_zero,Cr hn];omega
  | succ j ih =>
   intro hj
   have h1:=DU (l:=l) (i:=n - (j+1)) zo hd (Q5 hn ht zo)
   rw [show n - (j+1)+1=n - j by omega] at h1
   have h2:(decDigits (l.getD (n - (j+1)) 0)).length≤9:=j3 9 _ zo (hd.getD zo _)
   rw [h1,List.length_append,ih zo,List.length_append,List.length_replicate]
   omega
 have:=key n (Nat.le_refl _)
 rwa [Nat.sub_self,List.drop_zero] at this
theorem nS {bs:List UInt8} {s e:Nat} (h:s≤e) (he:e≤bs.length):num (bs.drop s)=num ((bs.take e).drop s)*10^(bs.length - e)+num (bs.drop e):=by
 have e1:bs.drop s=(bs.take e).drop s++bs.drop e:=by
  conv=>lhs;rw [← List.take_append_drop e bs]
  rw [List.drop_append_of_le_length (by rw [List.length_take];omega)]
 rw [e1,Kq,List.length_drop]
theorem sw {bs:List UInt8} {st i:Nat} {x:UInt8} (hst:st≤i) (hx:bs[i]? =some x):(bs.take (i+1)).drop st=(bs.take i).drop st++[x]:=by
 have hi:i<bs.length:=by
  rcases Nat.lt_or_ge i bs.length with h|h
  ·exact h
  ·rw [List.getElem?_eq_none h] at hx;simp at hx
 rw [List.take_add_one,hx,Option.toList_some,List.drop_append_of_le_length (by rw [List.length_take];omega)]
theorem Bq {bs:List UInt8} (hd:qI bs) {st i:Nat} (h9:i - st≤9):num ((bs.take i).drop st)<1000000000:=by
 have h1:=Rt ((bs.take i).drop st) (fun b hb=>hd b (List.mem_of_mem_take (List.mem_of_mem_drop hb)))
 have h2:(10:Nat)^((bs.take i).drop st).length≤10^9:=Nat.pow_le_pow_right zo (by rw [List.length_drop,List.length_take];omega)
 omega
theorem yV {bs:List UInt8} (hd:qI bs) {st i:Nat} {x:UInt8} (hst:st≤i) (h9:i - st<9) (hx:bs[i]? =some x) :
  (((num ((bs.take i).drop st):Nat):Int)*10%4294967296+((x.toNat:Int) - 48)%256)%4294967296=(num ((bs.take (i+1)).drop st):Nat):=by
 have hb:=hd x (List.mem_of_getElem? hx)
 have h2:=Bq hd (i:=i+1) (st:=st) zo
 rw [sw hst hx,om] at h2 ⊢
 omega
end Go.Dec
namespace Go.Mem
open Go Go.RowKit
variable {P:Program} {fn:Func} {R:Ending→World→Prop} {w:World} {tmps:Array Value}
theorem sH {p u:Tmp} {ty t:TypeId} {g:Nat} {cs:Array Value} {d:TypeDesc} (h:fn.results=#[.cell p ty,.tmp u])
  (hp:tmps.getD p undef= .pointer (some ⟨g,0,none⟩)) (hg:au w g cs t) (hu:P.underlying ty=some d)
  (hd:(match d with| .struct _| .array _ _=>true| _=>false)=true) (hi:(P.info? ty).map (·.size)=some cs.size) :
  (results fn tmps).run P w= .ok (.tuple #[.agg cs,tmps.getD u undef]) w:=by
 rw [results_cell_tmp h,hp]
 simp only [asAddr,Sem.run_pure,Result.andThen_ok]
 rw [run_loadVar_row w g t ty cs (0,0) d hg hu hd hi]
 rfl
theorem aP {p u:Tmp} {ty t:TypeId} {g:Nat} {cs:Array Value} {d:TypeDesc} (h:fn.results=#[.cell p ty,.tmp u])
  (hp:tmps.getD p undef= .pointer (some ⟨g,0,none⟩)) (hg:au w g cs t) (hu:P.underlying ty=some d)
  (hd:(match d with| .struct _| .array _ _=>true| _=>false)=true) (hi:(P.info? ty).map (·.size)=some cs.size)
  (k:R (.returned (.tuple #[.agg cs,tmps.getD u undef])) w):bodyPost P fn R .ret { tmps:=tmps,defers:=[] } w :=
 bodyPost_ret (sH h hp hg hu hd hi) rfl k
theorem bO {p:Tmp} {ty t:TypeId} {g:Nat} {cs:Array Value} {d:TypeDesc} (h:fn.results=#[.cell p ty])
  (hp:tmps.getD p undef= .pointer (some ⟨g,0,none⟩)) (hg:au w g cs t) (hu:P.underlying ty=some d)
  (hd:(match d with| .struct _| .array _ _=>true| _=>false)=true) (hi:(P.info? ty).map (·.size)=some cs.size)
  (k:R (.returned (.agg cs)) w):bodyPost P fn R .ret { tmps:=tmps,defers:=[] } w :=
 bodyPost_ret (results_cell_row h tmps w g t cs (0,0) d hp hg hu hd hi) rfl k
end Go.Mem
namespace Go.Mem
open Go Go.RowKit Go.SW Go.Num Go.Dec
theorem au.pJ {w:World} {b:Nat} {cs:Array Value} {T:TypeId} (h:b=w.heap.size):au (w.alloc (.cells cs T (0,0))) b cs T:=h ▸ au.new w cs T
theorem au.fZ (w:World) (o:Obj) (cs:Array Value) (T:TypeId):au ((w.alloc o).alloc (.cells cs T (0,0))) (w.heap.size+1) cs T:=au.pJ zi
theorem au.at2 (w:World) (o o2:Obj) (cs:Array Value) (T:TypeId):au (((w.alloc o).alloc o2).alloc (.cells cs T (0,0))) (w.heap.size+1+1) cs T:=au.pJ zi
theorem au.at3 (w:World) (o o2 o3:Obj) (cs:Array Value) (T:TypeId):au ((((w.alloc o).alloc o2).alloc o3).alloc (.cells cs T (0,0))) (w.heap.size+1+1+1) cs T:=au.pJ zi
theorem aM.alloc {w:World} {v:Value} {n:Nat} (h:aM w v n) (o:Obj):aM (w.alloc o) v n:=h.later ((Below.refl _ _).alloc (Nat.le_refl _) _)
theorem aM.drew {w:World} {v:Value} {n:Nat} (h:aM w v n):aM w.drew v n:=h.later (Below.drew (Below.refl _ _))
theorem bL {w W:World} (h:Below w.heap.size w W) (o:Obj):Below w.heap.size w (W.alloc o):=h.alloc h.size o
theorem aA {B:Nat} {w w':World} (h:Below B w w':=by repeat (first|(with_reducible exact Below.refl _ _)|(with_reducible assumption)|(with_reducible refine bL ?_ _)|((with_reducible refine Below.setCell ?_ ?_ _);rotate_left;focus (first|(simp;done)|(simp;omega)|assumption|(simp only [];omega)))|(with_reducible refine Below.drew ?_)|((with_reducible refine Bt (w1:=?_) ?_ ?_);rotate_right;with_reducible assumption))):Below B w w':=h
theorem aJ {w:World} {b:Nat} {cs:Array Value} {T:TypeId} (h:au w b cs T:=by repeat (first|(with_reducible assumption)|(with_reducible apply au.set)|(with_reducible exact au.new _ _ _)|(with_reducible exact au.fZ _ _ _ _)|(with_reducible exact au.at2 _ _ _ _ _)|(with_reducible apply au.alloc)|(with_reducible apply au.drew)|((with_reducible refine au.later (w:=?_) ?_ ?_);rotate_right;with_reducible assumption)|((with_reducible apply au.setOther);(case hne=>(first|assumption|(simp;done)|(simp;omega)))))):au w b cs T:=h
theorem aM.slice {w:World} {v:Value} {n:Nat} (h:aM w v n):∃ pa l ca,v= .slice pa l ca:=by
 obtain ⟨a,cap,h1, -⟩:=h
 exact ⟨_,_,_,h1⟩
def aX (w:World) (v:Value) (z:Int):Prop:=∃ pa l ca,v= .agg #[.slice pa l ca,.bool (decide (z<0))]∧aM w (.slice pa l ca) z.natAbs
theorem aX.later {w w':World} {v:Value} {z:Int} (h:aX w v z) (hb:Below w.heap.size w w'):aX w' v z:=by
 obtain ⟨pa,l,ca,h1,h2⟩:=h
 exact ⟨pa,l,ca,h1,h2.later hb⟩
theorem aX.mk {w:World} {m:Value} {z:Int} {b:Bool} {n:Nat} (h:aM w m n) (hn:n=z.natAbs) (hb:b=decide (z<0)):aX w (.agg #[m,.bool b]) z:=by
 obtain ⟨pa,l,ca,rfl⟩:=h.slice
 exact ⟨pa,l,ca,by rw [hb],hn ▸ h⟩
def sO (z:Int):Value:=.string ⟨(Lib.itoa z).toArray⟩
def jg (n:Nat) (b:Bool):Int:=if b then -(n:Int) else n
theorem jr (n:Nat) (b:Bool):(jg n b).natAbs=n:=by unfold jg;split<;>omega
theorem Mr (n:Nat) (b:Bool):(b&& !decide (n=0))=decide (jg n b<0):=by
 unfold jg
 cases b
 ·simp
 ·simp only [Bool.true_and,if_true]
  rw [Bool.eq_iff_iff]
  simp
  omega
theorem aX.aV {w:World} {pa:Option Addr} {l ca:Nat} {z:Int} (h:aM w (.slice pa l ca) z.natAbs):aX w (.agg #[.slice pa l ca,.bool (decide (z<0))]) z:=⟨pa,l,ca,rfl,h⟩
theorem aX.cast {w:World} {v:Value} {y z:Int} (h:aX w v y) (e:y=z):aX w v z:=e ▸ h
theorem Mq (z:Int):jg z.natAbs (!decide (z<0))= -z:=by
 unfold jg
 by_cases h:z<0
 ·simp [h];omega
 ·simp [h];omega
theorem Vb (z:Int) (n:Nat):jg (z.natAbs*n) (decide (z<0))=z*n:=by
 unfold jg
 by_cases h:z<0
 ·simp only [h,decide_true,if_true]
  have:z= -(z.natAbs:Int):=by omega
  rw [this,Int.natAbs_neg,Int.natAbs_natCast,Int.natCast_mul,Int.neg_mul]
 ·simp only [h,decide_false]
  have:z=(z.natAbs:Int):=by omega
  rw [this,Int.natAbs_natCast,Int.natCast_mul]
  rfl
end Go.Mem
namespace Go.Proofs
open Go.Shelf
def Tryz.lays169_ren:Go.Shelf.Ren:=⟨fun|169=>181|n=>n,fun|70=>229|9=>9|0=>0|72=>232|37=>230|127=>262|3=>3|5=>5|n=>n,fun|n=>n⟩
theorem Tryz.lays169:Go.Proofs.Lays.n169 Tryz.prog Tryz.lays169_ren:={
 mixed:=by kernel_rfl
 f169:=Tryz.func181.trans (congrArg some zk)
 t0:=Tryz.underlying0
 a0:=Tryz.isAgg0
 z0:=Tryz.sizeOf0
 v0:=Tryz.zeroValue0
 t3:=Tryz.underlying3
 a3:=Tryz.isAgg3
 z3:=Tryz.sizeOf3
 v3:=Tryz.zeroValue3
 t9:=Tryz.underlying9
 a9:=Tryz.isAgg9
 z9:=Tryz.sizeOf9
 v9:=Tryz.zeroValue9
 t37:=Tryz.underlying230
 a37:=Tryz.isAgg230
 z37:=Tryz.sizeOf230
 v37:=Tryz.zeroValue230
 t70:=Tryz.underlying229
 a70:=Tryz.isAgg229
 z70:=Tryz.sizeOf229
 v70:=Tryz.zeroValue229
 t72:=Tryz.underlying232
 a72:=Tryz.isAgg232
 z72:=Tryz.sizeOf232
 v72:=Tryz.zeroValue232
 t127:=Tryz.underlying262
 a127:=Tryz.isAgg262
 z127:=Tryz.sizeOf262
 v127:=Tryz.zeroValue262 }
theorem Tryz.Builder_Extra_169:Builder.Extra Tryz.prog Tryz.lays169_ren:={
 sizeBuilder:=by kernel_rfl
 liesBuilder:=by kernel_rfl
 t5:=Tryz.underlying5
 a5:=Tryz.isAgg5
 z5:=Tryz.sizeOf5
 v5:=Tryz.zeroValue5
 infoByte:=by kernel_rfl
 cellsByte:=by kernel_rfl
 sizeByte:=by kernel_rfl
 neB5:=by decide }
open Go.RowKit in
theorem Tryz.Builder_String_any (B b:Nat) (l:List UInt8) (w:World) (h:Lib.IsBuilder 232 5 B b (Lib.byteCells l) w) (hBw:B≤w.heap.size) :
  Calls Tryz.prog 181 #[.pointer (some ⟨b,0,none⟩)] w fun e w'=>e= .returned (.string ⟨l.toArray⟩)∧Below B w w':=Any.Builder_String_any Tryz.lays169 Tryz.Builder_Extra_169 B b l w h hBw
def Tryz.laysM171_ren:Go.Shelf.Ren:=⟨fun|171=>171|243=>209|246=>229|283=>236|284=>237|285=>238|286=>239|129=>241|317=>240|318=>242|319=>243|320=>244|337=>245|338=>246|n=>n,fun|3=>3|9=>9|2=>2|4=>4|171=>283|0=>0|53=>181|37=>230|5=>5|173=>286|212=>290|51=>113|20=>20|213=>291|46=>292|232=>295|233=>296|n=>n,fun|17=>1|18=>2|19=>3|n=>n⟩
theorem Tryz.laysM171:Go.Proofs.LaysM.n171 Tryz.prog Tryz.laysM171_ren:={
 mixed:=by kernel_rfl
 f129:=Tryz.func241.trans (congrArg some zk)
 f171:=Tryz.func171.trans (congrArg some zk)
 f243:=Tryz.func209.trans (congrArg some zk)
 f246:=Tryz.func229.trans (congrArg some zk)
 f283:=Tryz.func236.trans (congrArg some zk)
 f284:=Tryz.func237.trans (congrArg some zk)
 f285:=Tryz.func238.trans (congrArg some zk)
 f286:=Tryz.func239.trans (congrArg some zk)
 f317:=Tryz.func240.trans (congrArg some zk)
 f318:=Tryz.func242.trans (congrArg some zk)
 f319:=Tryz.func243.trans (congrArg some zk)
 f320:=Tryz.func244.trans (congrArg some zk)
 f337:=Tryz.func245.trans (congrArg some zk)
 f338:=Tryz.func246.trans (congrArg some zk)
 t0:=Tryz.underlying0
 a0:=Tryz.isAgg0
 z0:=Tryz.sizeOf0
 v0:=Tryz.zeroValue0
 t2:=Tryz.underlying2
 a2:=Tryz.isAgg2
 z2:=Tryz.sizeOf2
 v2:=Tryz.zeroValue2
 t3:=Tryz.underlying3
 a3:=Tryz.isAgg3
 z3:=Tryz.sizeOf3
 v3:=Tryz.zeroValue3
 t4:=Tryz.underlying4
 a4:=Tryz.isAgg4
 z4:=Tryz.sizeOf4
 v4:=Tryz.zeroValue4
 t5:=Tryz.underlying5
 a5:=Tryz.isAgg5
 z5:=Tryz.sizeOf5
 v5:=Tryz.zeroValue5
 t9:=Tryz.underlying9
 a9:=Tryz.isAgg9
 z9:=Tryz.sizeOf9
 v9:=Tryz.zeroValue9
 t20:=Tryz.underlying20
 a20:=Tryz.isAgg20
 z20:=Tryz.sizeOf20
 v20:=Tryz.zeroValue20
 t37:=Tryz.underlying230
 a37:=Tryz.isAgg230
 z37:=Tryz.sizeOf230
 v37:=Tryz.zeroValue230
 t46:=Tryz.underlying292
 a46:=Tryz.isAgg292
 z46:=Tryz.sizeOf292
 v46:=Tryz.zeroValue292
 t51:=Tryz.underlying113
 a51:=Tryz.isAgg113
 z51:=Tryz.sizeOf113
 v51:=Tryz.zeroValue113
 t53:=Tryz.underlying181
 a53:=Tryz.isAgg181
 z53:=Tryz.sizeOf181
 v53:=Tryz.zeroValue181
 t171:=Tryz.underlying283
 a171:=Tryz.isAgg283
 z171:=Tryz.sizeOf283
 v171:=Tryz.zeroValue283
 t173:=Tryz.underlying286
 a173:=Tryz.isAgg286
 z173:=Tryz.sizeOf286
 v173:=Tryz.zeroValue286
 t212:=Tryz.underlying290
 a212:=Tryz.isAgg290
 z212:=Tryz.sizeOf290
 v212:=Tryz.zeroValue290
 t213:=Tryz.underlying291
 a213:=Tryz.isAgg291
 z213:=Tryz.sizeOf291
 t232:=Tryz.underlying295
 a232:=Tryz.isAgg295
 z232:=Tryz.sizeOf295
 v232:=Tryz.zeroValue295
 t233:=Tryz.underlying296
 a233:=Tryz.isAgg296
 z233:=Tryz.sizeOf296
 v233:=Tryz.zeroValue296
 g17:=by kernel_rfl
 g18:=by kernel_rfl
 g19:=by kernel_rfl
 i0:=by kernel_rfl
 i2:=by kernel_rfl
 i3:=by kernel_rfl
 i4:=by kernel_rfl
 i5:=by kernel_rfl
 i9:=by kernel_rfl
 i20:=by kernel_rfl
 i37:=by kernel_rfl
 i46:=by kernel_rfl
 i51:=by kernel_rfl
 i53:=by kernel_rfl
 i171:=by kernel_rfl
 i173:=by kernel_rfl
 i212:=by kernel_rfl
 i232:=by kernel_rfl
 i233:=by kernel_rfl
 m17:=by kernel_rfl
 m18:=by kernel_rfl
 m19:=by kernel_rfl }
open Go.RowKit Go.Sort Go.Lib in
theorem Tryz.strconv_Itoa (n : Int) (h0 : -9223372036854775808 ≤ n) (h1 : n ≤ 9223372036854775807) (w : World) (htab : Lib.TabIs Tryz.prog w "internal/strconv.uint64pow10" .u64 Lib.pow10Tab) :
  Calls Tryz.prog 171 #[.int .i64 n] w fun e w'=>e= .returned (.string ⟨(Lib.itoa n).toArray⟩)∧∃ k os,w'=grow (w.drewN k) os:=Any.strconv_Itoa Tryz.laysM171 n h0 h1 w htab
end Go.Proofs
namespace Go.Proofs.pE
open Go Go.RowKit Go.SW Go.Num Go.Mem Go.Proofs
def Pow (w : World) : Prop := Lib.TabIs Tryz.prog w "internal/strconv.uint64pow10" .u64 Lib.pow10Tab
theorem Pow.later {w w':World} (h:Pow w) (hb:Below w.heap.size w w'):Pow w':=Lib.tabBelow_of_tabIs h w' hb
theorem below_grow (w:World) (k:Nat) (os:Array Obj):Below w.heap.size w (Go.Sort.grow (w.drewN k) os):=by
 unfold Go.Sort.grow
 refine ⟨rfl,rfl,rfl,?_,fun i hi=>?_⟩
 ·simp
 ·simp only [World.drewN]
  rw [Array.getElem?_append_left hi]
theorem infoByte:(Tryz.prog.info? 5).map (fun i=>(i.zero,i.size,i.bytes))=some (some (.int .u8 0),1,1):=by kernel_rfl
theorem M0:(Tryz.prog.info? 232).map (·.size)=some 2:=by kernel_rfl
abbrev LM (B b:Nat) (bs:List Value) (w:World):Prop:=Lib.IsBuilder 232 5 B b bs w
abbrev AtB (B b:Nat) (bs:List Value) (w:World):Prop:=Lib.BuilderAt 232 5 B b (.pointer (some ⟨b,0,none⟩)) bs w
theorem Cx {w w':World} (h:Below w.heap.size w w'):w.grownBy w' none:=⟨h.os,h.tape,h.output,h.size,fun i hi _=>h.block i hi⟩
theorem DX {p:Value} {B b:Nat} {bs:List Value} {w w':World} (h:Lib.BuilderAt 232 5 B b p bs w) (hb:Below w.heap.size w w'):Lib.BuilderAt 232 5 B b p bs w':=by
 have hl:=h.lt
 obtain ⟨hB,v,hbk,hown,hne⟩:=h
 refine ⟨hB,v,(hb.block _ hl).trans hbk,hown.kept (Cx hb) ?_,hne⟩
 cases h:v.ownBlock with
 | none=>exact .inl rfl
 | some k=>exact .inr zi
theorem LM.later {B b:Nat} {bs:List Value} {w w':World} (h:LM B b bs w) (hb:Below w.heap.size w w'):LM B b bs w':=by
 rcases h with h|h
 ·exact .inl (DX h hb)
 ·exact .inr (DX h hb)
theorem LM.ge {B b:Nat} {bs:List Value} {w:World} (h:LM B b bs w):B≤b:=by
 rcases h with h|h<;>exact h.1
theorem RP (n:Nat):Lib.itoa (n:Int)=Lib.decDigits n:=by
 unfold Lib.itoa
 rw [if_neg zo,Int.toNat_natCast]
theorem MW (n:Nat) (h:n<1000000000) (w:World) (ht:Pow w) :
  Calls Tryz.prog 171 #[.int .i64 n] w fun e w'=>e= .returned (.string ⟨(Lib.decDigits n).toArray⟩)∧Below w.heap.size w w':=by
 refine (Tryz.strconv_Itoa n zo zo w ht).mono ?_
 rintro e w' ⟨rfl,k,os,rfl⟩
 rw [RP]
 exact ⟨rfl,below_grow _ _ _⟩
theorem BA (b:Nat) (w:World) (h0:w.cell? ⟨b,0,none⟩=some (.pointer (some ⟨b,0,none⟩))) :
  Calls Tryz.prog 212 #[.pointer (some ⟨b,0,none⟩)] w fun e w'=>e= .returned (.tuple #[])∧w'=w:=by
 obtain ⟨j,hj,_⟩:=Option.map_eq_some_iff.1 M0
 go_enter Tryz.func212,Tryz.ntmps212
 go_wp2
 rw [Lib.run_neq_ptr_same w _ Tryz.underlying229 hj]
 go_wp2
 go_end0
 exact ⟨rfl,rfl⟩
theorem zC (b:Nat) (w:World) (h0:w.cell? ⟨b,0,none⟩=some (.pointer none)) (hsh:w.shape? b=some (232,2)) (hfz:w.frozen? ⟨b,0,none⟩=false) :
  Calls Tryz.prog 212 #[.pointer (some ⟨b,0,none⟩)] w fun e w'=>e= .returned (.tuple #[])∧w'=w.setCell ⟨b,0,none⟩ (.pointer (some ⟨b,0,none⟩)):=by
 obtain ⟨j,hj,hjs⟩:=Option.map_eq_some_iff.1 M0
 go_enter Tryz.func212,Tryz.ntmps212
 go_wp2
 rw [Lib.run_to_unsafe w ⟨b,0,none⟩ Tryz.underlying229 Tryz.underlying277 hj (by rw [hjs];decide) hsh (Nat.zero_lt_succ 1)]
 simp only [Result.andThen]
 rw [Oper.upon_value]
 go_wp2
 rw [run_callFunc_extern Tryz.func232 zk zk zk (e:=Extern.AbiNoEscape.same) zk]
 rw [Lib.run_noEscape]
 simp only [Result.andThen]
 rw [Oper.upon_value]
 go_wp2
 rw [Lib.run_from_unsafe w ⟨b,0,none⟩ Tryz.underlying277 Tryz.underlying229 hj hsh zk]
 simp only [Result.andThen]
 rw [Oper.upon_value]
 go_wp2
 go_end0
 exact ⟨rfl,rfl⟩
theorem wZ (B b:Nat) (bs:List Value) (w:World) (h:LM B b bs w) :
  Calls Tryz.prog 212 #[.pointer (some ⟨b,0,none⟩)] w fun e w'=>e= .returned (.tuple #[])∧(AtB B b bs w'∧Below B w w'):=by
 rcases h with h|h
 ·refine (zC b w h.cell0 h.shape h.frozen0).mono ?_
  rintro e w' ⟨rfl,rfl⟩
  exact ⟨rfl,h.used _,(Below.refl B w).setCell (p:=⟨b,0,none⟩) h.1 _⟩
 ·refine (BA b w h.cell0).mono ?_
  rintro e w' ⟨rfl,rfl⟩
  exact ⟨rfl,h,Below.refl B _⟩
theorem D9 (B b:Nat) (bs:List Value) (c:Int) (w:World) (h:LM B b bs w) (hlen:bs.length+1≤140737488355328) (hBw:B≤w.heap.size) :
  Calls Tryz.prog 179 #[.pointer (some ⟨b,0,none⟩),.int .u8 c] w fun e w'=>e= .returned .nilIface∧(AtB B b (bs++[.int .u8 c]) w'∧Below B w w'):=by
 obtain ⟨i0,hi,hz0,hz1,hz2⟩:=info_parts infoByte
 go_enter Tryz.func179,Tryz.ntmps179
 go_wp2_with (go_at_call 212;refine (wZ B b bs _ h).mono ?_;rintro e w1 ⟨rfl,h1,hb1⟩;refine Hid.out ?_)
 obtain ⟨hB,v,hbk,hown,hne⟩:=h1
 have c0:w1.cell? ⟨b,0,none⟩=some (.pointer (some ⟨b,0,none⟩)):=by rw [Lib.cell_of_heap hbk];rfl
 have c1:w1.cell? ⟨b,1,none⟩=some v:=by rw [Lib.cell_of_heap hbk];rfl
 refine zh ?_
 go_wp2_with (at_builtin;refine wpList_append_own _ rfl _ _ 230 rfl B 5 i0 (.int .u8 0) 1 1 Tryz.underlying230 hi hz0 hz1 hz2 rfl zd _ _ _ rfl (hown.alloc _) ⟨w1.heap.size,0,none⟩ 1 1 [.int .u8 c] rfl rfl ?c1 ?c2 ?c3 ?c4 ?c5 ?_)
 case c1 =>
  intro j u hj
  match j,hj with
  | 0,hj=>simp at hj;subst hj;simp [Addr.add]
 case c2=>intro u hu;simp at hu;subst hu;rfl
 case c3=>unfold maxLen;omega
 case c4=>omega
 case c5=>have:=hb1.size;simp;omega
 intro v' w2 hown' hgrow _
 have hlt:b<w1.heap.size:=by
  rcases Nat.lt_or_ge b w1.heap.size with h'|h'
  ·exact h'
  ·simp [Array.getElem?_eq_none h'] at hbk
 have hb2:w2.heap[b]? =some (.cells #[.pointer (some ⟨b,0,none⟩),v] 232 (0,0)):=by
  rw [hgrow.block b (by simp;omega) (fun e=>hne e.symm),Lib.alloc_old w1 _ b hlt]
  exact hbk
 have d0:w2.cell? ⟨b,0,none⟩=some (.pointer (some ⟨b,0,none⟩)):=by rw [Lib.cell_of_heap hb2];rfl
 have d1:w2.cell? ⟨b,1,none⟩=some v:=by rw [Lib.cell_of_heap hb2];rfl
 have f1:w2.frozen? ⟨b,1,none⟩=false:=Lib.frozen_of_heap hb2 1
 obtain ⟨g,cap,rfl⟩:∃ g cap,v'= .slice (some ⟨g,0,none⟩) (bs.length+1) cap:=by
  rcases hown'.2 with ⟨_,h0⟩|⟨g,cap,cur,hv,_⟩
  ·omega
  ·exact ⟨g,cap,hv⟩
 go_wp2
 go_ret
 refine ⟨rfl,?_,?_⟩
 ·exact Lib.BuilderAt.put (T:=232) (e:=5) hB hb2 (bs':=bs++[.int .u8 c]) (by simpa using hown') zd
 ·exact ((hb1.alloc (by have:=hb1.size;omega) _).grown hgrow (by have:=hb1.size;simp;omega) (fun k hk=>(hown.lt k hk).1)).setCell (p:=⟨b,1,none⟩) hB _
theorem zW (B b:Nat) (bs:List Value) (s:ByteArray) (w:World) (h:LM B b bs w) (hlen:bs.length+s.size≤140737488355328) (hBw:B≤w.heap.size) :
  Calls Tryz.prog 180 #[.pointer (some ⟨b,0,none⟩),.string s] w fun e w'=>e= .returned (.tuple #[.int .i64 s.size,.nilIface])∧(AtB B b (bs++Lib.strCells s) w'∧Below B w w'):=by
 obtain ⟨i0,hi,hz0,hz1,hz2⟩:=info_parts infoByte
 go_enter Tryz.func180,Tryz.ntmps180
 go_wp2_with (go_at_call 212;refine (wZ B b bs _ h).mono ?_;rintro e w1 ⟨rfl,h1,hb1⟩;refine Hid.out ?_)
 obtain ⟨hB,v,hbk,hown,hne⟩:=h1
 have c0:w1.cell? ⟨b,0,none⟩=some (.pointer (some ⟨b,0,none⟩)):=by rw [Lib.cell_of_heap hbk];rfl
 have c1:w1.cell? ⟨b,1,none⟩=some v:=by rw [Lib.cell_of_heap hbk];rfl
 refine zh ?_
 go_wp2_with (at_builtin;refine Lib.wpList_append_own_string _ rfl _ _ 230 9 rfl B 5 i0 Tryz.underlying230 Tryz.underlying9 hi hz0 hz1 hz2 _ _ _ rfl hown s rfl ?c3 ?c4 ?c5 ?_)
 case c3=>unfold maxLen;omega
 case c4=>omega
 case c5=>have:=hb1.size;omega
 intro v' w2 hown' hgrow _
 have hlt:b<w1.heap.size:=by
  rcases Nat.lt_or_ge b w1.heap.size with h'|h'
  ·exact h'
  ·simp [Array.getElem?_eq_none h'] at hbk
 have hb2:w2.heap[b]? =some (.cells #[.pointer (some ⟨b,0,none⟩),v] 232 (0,0)):=by
  rw [hgrow.block b hlt (fun e=>hne e.symm)]
  exact hbk
 have d0:w2.cell? ⟨b,0,none⟩=some (.pointer (some ⟨b,0,none⟩)):=by rw [Lib.cell_of_heap hb2];rfl
 have d1:w2.cell? ⟨b,1,none⟩=some v:=by rw [Lib.cell_of_heap hb2];rfl
 have f1:w2.frozen? ⟨b,1,none⟩=false:=Lib.frozen_of_heap hb2 1
 obtain ⟨ao,n',cap,rfl⟩:∃ ao n' cap,v'= .slice ao n' cap:=by
  rcases hown'.2 with ⟨hv,_⟩|⟨g,cap,cur,hv,_⟩
  ·exact ⟨_,_,_,hv⟩
  ·exact ⟨_,_,_,hv⟩
 go_wp2
 go_ret2
 refine ⟨rfl,?_,?_⟩
 ·exact Lib.BuilderAt.put (T:=232) (e:=5) hB hb2 (bs':=bs++Lib.strCells s) (by simpa [Lib.strCells_length] using hown') zd
 ·exact (hb1.grown hgrow (by have:=hb1.size;omega) (fun k hk=>(hown.lt k hk).1)).setCell (p:=⟨b,1,none⟩) hB _
end Go.Proofs.pE
namespace Go.Mem
open Go Go.RowKit Go.SW Go.Num Go.Dec
def vS (w:World) (b:Nat) (T:TypeId):Prop:=∃ cs,au w b cs T
theorem au.uL {w:World} {b:Nat} {cs:Array Value} {T:TypeId} (h:au w b cs T):vS w b T:=⟨cs,h⟩
theorem vS.setCell {w:World} {b:Nat} {T:TypeId} {a:Addr} {u:Value} (h:vS w b T):vS (w.setCell a u) b T:=by
 obtain ⟨cs,h⟩:=h
 obtain ⟨c,o,sp⟩:=a
 by_cases hb:b=c
 ·subst hb
  have hl:=h.lt
  unfold au at h
  have e:w.heap[b]= .cells cs T (0,0):=by simpa [hl] using h
  cases sp with
  | none =>
   refine ⟨cs.setIfInBounds o u,?_⟩
   unfold au
   simp [World.setCell,hl,Array.getElem_modify,e]
  | some s =>
   refine ⟨cs,?_⟩
   unfold au
   simp [World.setCell,hl,Array.getElem_modify,e]
 ·exact ⟨cs,h.setOther u hb⟩
theorem vS.later {w w':World} {b:Nat} {T:TypeId} (h:vS w b T) (hb:Below w.heap.size w w'):vS w' b T:=by
 obtain ⟨cs,h⟩:=h
 exact ⟨cs,h.later hb⟩
theorem vS.alloc {w:World} {b:Nat} {T:TypeId} {o:Obj} (h:vS w b T):vS (w.alloc o) b T:=h.later ((Below.refl _ _).alloc (Nat.le_refl _) _)
theorem vS.drew {w:World} {b:Nat} {T:TypeId} (h:vS w b T):vS w.drew b T:=h.later (Below.drew (Below.refl _ _))
theorem vS.new (w:World) (cs:Array Value) (T:TypeId):vS (w.alloc (.cells cs T (0,0))) w.heap.size T:=⟨cs,au.new _ _ _⟩
theorem aM.kZ {w:World} {v:Value} {n:Nat} {b o:Nat} {T':TypeId} {u:Value} (h:aM w v n) (hx:vS w b T') (hT:113≠T'):aM (w.setCell ⟨b,o,none⟩ u) v n:=by
 obtain ⟨cs,hx⟩:=hx
 exact h.setOther hx hT o u
theorem Mw {z y:Int} {b:Bool} (h:decide (z<0)=b) (k:decide (y<0)=b):jg (z.natAbs+y.natAbs) b=z+y:=by
 unfold jg
 cases b
 ·simp at h k ⊢;omega
 ·simp at h k ⊢;omega
theorem Ml {z y:Int} {b:Bool} (h:decide (z<0)=b) (k:decide (y<0)= !b):jg (z.natAbs - y.natAbs) b=if y.natAbs≤z.natAbs then z+y else jg (z.natAbs - y.natAbs) b:=by
 split
 ·unfold jg
  cases b
  ·simp at h k ⊢;omega
  ·simp at h k ⊢;omega
 ·rfl
theorem Ar (z y:Int):jg (z.natAbs*y.natAbs) (decide (z<0) != decide (y<0))=z*y:=by
 unfold jg
 by_cases h:z<0<;>by_cases k:y<0
 ·simp only [h,k,decide_true,decide_false,bne_self_eq_false,Bool.true_bne,Bool.false_bne,Bool.not_false,Bool.not_true,if_true,if_false]
  obtain ⟨a,rfl⟩:∃ a:Nat,z= -(a:Int):=⟨z.natAbs,by omega⟩
  obtain ⟨b,rfl⟩:∃ b:Nat,y= -(b:Int):=⟨y.natAbs,by omega⟩
  simp
  try grind
 ·simp only [h,k,decide_true,decide_false,bne_self_eq_false,Bool.true_bne,Bool.false_bne,Bool.not_false,Bool.not_true,if_true,if_false]
  obtain ⟨a,rfl⟩:∃ a:Nat,z= -(a:Int):=⟨z.natAbs,by omega⟩
  obtain ⟨b,rfl⟩:∃ b:Nat,y=(b:Int):=⟨y.natAbs,by omega⟩
  simp
  try grind
 ·simp only [h,k,decide_true,decide_false,bne_self_eq_false,Bool.true_bne,Bool.false_bne,Bool.not_false,Bool.not_true,if_true,if_false]
  obtain ⟨a,rfl⟩:∃ a:Nat,z=(a:Int):=⟨z.natAbs,by omega⟩
  obtain ⟨b,rfl⟩:∃ b:Nat,y= -(b:Int):=⟨y.natAbs,by omega⟩
  simp
  try grind
 ·simp only [h,k,decide_true,decide_false,bne_self_eq_false,Bool.true_bne,Bool.false_bne,Bool.not_false,Bool.not_true,if_true,if_false]
  obtain ⟨a,rfl⟩:∃ a:Nat,z=(a:Int):=⟨z.natAbs,by omega⟩
  obtain ⟨b,rfl⟩:∃ b:Nat,y=(b:Int):=⟨y.natAbs,by omega⟩
  simp
theorem G8 {z y:Int} (h:y ∣ z):jg (z.natAbs / y.natAbs) (decide (z<0) != decide (y<0))=z / y:=by
 obtain ⟨c,rfl⟩:=h
 rcases Int.lt_trichotomy y 0 with hy|hy|hy
 ·rw [Int.natAbs_mul,Nat.mul_div_cancel_left _ zo,Int.mul_ediv_cancel_left _ zo]
  unfold jg
  rcases Int.lt_trichotomy c 0 with hc|hc|hc
  ·have:¬ y*c<0:=by have:=Int.mul_pos_of_neg_of_neg hy hc;omega
   simp [this,hy];omega
  ·subst hc;simp
  ·have:y*c<0:=Int.mul_neg_of_neg_of_pos hy hc
   simp [this,hy];omega
 ·subst hy;simp [jg]
 ·rw [Int.natAbs_mul,Nat.mul_div_cancel_left _ zo,Int.mul_ediv_cancel_left _ zo]
  unfold jg
  have hy2:¬ y<0:=by omega
  rcases Int.lt_trichotomy c 0 with hc|hc|hc
  ·have:y*c<0:=Int.mul_neg_of_pos_of_neg hy hc
   simp [this,hy2];omega
  ·subst hc;simp
  ·have:¬ y*c<0:=by have:=Int.mul_pos hy hc;omega
   simp [this,hy2];omega
theorem aX.flag {w:World} {pa:Option Addr} {l ca:Nat} {y z:Int} {b:Bool} (h:aM w (.slice pa l ca) y.natAbs) (e:y=z) (hb:b=decide (y<0)):aX w (.agg #[.slice pa l ca,.bool b]) z:=by
 subst e hb
 exact ⟨pa,l,ca,rfl,h⟩
theorem aG {w:World} {v:Value} {n:Nat} (h:aM w v n:=by repeat (first|(with_reducible exact Hid.out (by with_reducible assumption))|((with_reducible apply aM.kZ);rotate_left;(focus (repeat (first|(with_reducible exact au.uL (by with_reducible assumption))|(with_reducible apply vS.setCell)|(with_reducible exact vS.new _ _ _)|(with_reducible apply vS.alloc)|(with_reducible apply vS.drew)|((with_reducible refine vS.later (w:=?_) ?_ ?_);rotate_right;with_reducible assumption))));(focus decide))|(with_reducible apply aM.alloc)|(with_reducible apply aM.drew)|((with_reducible refine aM.later (w:=?_) ?_ ?_);rotate_right;with_reducible assumption))):aM w v n:=h
end Go.Mem
