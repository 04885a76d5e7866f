/- Lemmas for the proof. No condition. -/
import Derived.Orders
import Derived.Below
import Derived.Tactics
import Derived.Test.YtbngfhgoeoncmaaGreatDoorProg
set_option linter.unusedVariables false
set_option linter.unusedSimpArgs false
set_option maxRecDepth 100000
set_option maxHeartbeats 16000000
open Array renaming getD_eq_getD_getElem? → iw, getElem?_eq_none → bq
open Bool renaming and_eq_true → aD, false_eq_true → bK, not_eq_true' → iN
open Go.Value renaming pointer → au
open List renaming append_assoc → kQ, cons_append → bB, getD_eq_getElem?_getD → bJ, getElem?_append_left → fq, getElem?_append_right → fO, getElem?_drop → tT, getElem_mem → bN, length_cons → aV, map_cons → bL, range → bI, replicate → bP, set_append_right → iI, set_cons_succ → aJ, set_cons_zero → aI, take_append_drop → gy, take_length → eX, take_of_length_le → kR, take_succ_eq_append_getElem → fP
open List.cons renaming injEq → iM
open Nat renaming add_mul → dH, add_zero → gL, div_add_mod → bU, div_eq_of_lt → iB, div_lt_iff_lt_mul → bO, eq_zero_or_pos → bA, le_of_not_lt → dL, le_refl → aG, lt_or_ge → aH, mod_eq_of_lt → gH, mod_lt → iD, mul_add → aU, mul_assoc → bV, mul_comm → aL, mul_le_mul → dU, mul_le_mul_left → aM, mul_le_mul_right → aZ, mul_left_comm → dz, mul_pos → fV, one_mul → jE, pow_add → eG, pow_le_pow_right → bX, pow_succ → bF, strongRecOn → fD, zero_add → dS
open Prod.mk renaming injEq → dW
namespace Go
theorem zo {G:Prop} (h:G:=by omega):G:=h
theorem zk {G:Prop} (h:G:=by kernel_rfl):G:=h
theorem zd {G:Prop} (h:G:=by decide):G:=h
theorem zi {G:Prop} (h:G:=by simp):G:=h
theorem zh {G:Prop} (h:G):Go.RowKit.Hid G:=h
theorem zR {G:Prop} (h:G:=by exact qD (by kernel_rfl)):G:=h
theorem zP {G:Prop} (h:G:=by exact fun _ _ _ _ hd h=>And.intro (hd.trans (And.left h)) (And.right h)):G:=h
theorem zS {G R:Prop} (r:R) (h:Go.RowKit.Hid R→G:=by intro r;(repeat (first|(apply JK;(rfl);(rfl);(rfl);(intro J hJ;go_simp;(with_reducible refine hJ _ ?_);clear hJ J))|(apply NK;(rfl);(rfl);(rfl);(rfl);(exact zk);(intro J hJ;go_simp;(with_reducible refine hJ _ ?_);clear hJ J))|(apply Cr;(rfl);(rfl);(intro J hJ;go_simp;(with_reducible refine hJ _ ?_);clear hJ J))|(apply JL;(rfl);(rfl);(rfl);(rfl);(intro J hJ;go_simp;(with_reducible refine hJ _ ?_);clear hJ J;try go_simp))));exact r.out):G:=h (zh r)
theorem zU {G R:Prop} (r:R) (h:Go.RowKit.Hid R→G:=by intro r;(first|(apply JK;(rfl);(rfl);(rfl);(intro J hJ;go_simp;(with_reducible refine hJ _ ?_);clear hJ J))|(apply NK;(rfl);(rfl);(rfl);(rfl);(exact zk);(intro J hJ;go_simp;(with_reducible refine hJ _ ?_);clear hJ J))|(apply Cr;(rfl);(rfl);(intro J hJ;go_simp;(with_reducible refine hJ _ ?_);clear hJ J))|(apply JL;(rfl);(rfl);(rfl);(rfl);(intro J hJ;go_simp;(with_reducible refine hJ _ ?_);clear hJ J;try go_simp)));exact r.out):G:=h (zh r)
theorem zT {G R:Prop} (r:R) (h:Go.RowKit.Hid R→G:=by intro r;(repeat (first|(apply ah6;(rfl);(rfl);(rfl);(intro J hJ;go_simp;(with_reducible refine hJ _ ?_);clear hJ J))|(apply ah7;(rfl);(rfl);(intro J hJ;go_simp;(with_reducible refine hJ _ ?_);clear hJ J))|(apply ah8;(rfl);(rfl);(rfl);(rfl);(intro J hJ;go_simp;(with_reducible refine hJ _ ?_);clear hJ J;try go_simp))));exact r.out):G:=h (zh r)
theorem zV {G R:Prop} (r:R) (h:Go.RowKit.Hid R→G:=by intro r;(repeat (first|(refine nJ rfl rfl fun J h=>?_;go_simp;refine h _ ?_;clear h J)|(refine BA rfl rfl rfl rfl fun J h=>?_;go_simp;refine h _ ?_;clear h J;try go_simp)));exact r.out):G:=h (zh r)
theorem zW {G R:Prop} (r:R) (h:Go.RowKit.Hid R→G:=by intro r;(repeat (first|(refine nJ rfl rfl fun J h=>?_;go_simp;refine h _ ?_;clear h J)|(refine BA rfl rfl rfl rfl fun J h=>?_;go_simp;refine h _ ?_;clear h J;try go_simp)|(refine yE rfl rfl fun J h=>?_;go_simp;refine h _ ?_;clear h J)|(refine yF rfl rfl rfl rfl fun J h=>?_;go_simp;refine h _ ?_;clear h J;try go_simp)));exact r.out):G:=h (zh r)
theorem zM {G:Prop} (h:G:=by simp [intOf];omega):G:=h
end Go
namespace Go.Proofs.whole
open Go Go.RowKit
abbrev zq1:= @Tryz.func248
abbrev zq2:= @Tryz.ntmps248
abbrev zq3:= @Tryz.func232
abbrev zq4:= @Tryz.ntmps232
abbrev DV:Go.TypeId:=232
abbrev D9:= @Tryz.underlying232
abbrev zq7:= @Tryz.func170
abbrev zq8:= @Tryz.ntmps170
abbrev zq9:= @Tryz.func244
abbrev Rx:= @Tryz.ntmps244
abbrev VQ:= @Tryz.func172
abbrev VP:= @Tryz.ntmps172
abbrev VO:= @Tryz.func235
abbrev VN:= @Tryz.ntmps235
abbrev VL:= @Tryz.func245
abbrev VK:= @Tryz.ntmps245
abbrev VJ:= @Tryz.func246
abbrev VI:= @Tryz.ntmps246
abbrev VH:= @Tryz.func247
abbrev VG:= @Tryz.ntmps247
abbrev NI:= @Tryz.func171
abbrev NH:= @Tryz.ntmps171
abbrev VF:= @Tryz.func281
abbrev VE:= @Tryz.ntmps281
abbrev Rw:= @Tryz.func234
abbrev Ru:= @Tryz.ntmps234
abbrev Rt:= @Tryz.func233
abbrev Rs:= @Tryz.ntmps233
abbrev VD:= @Tryz.func165
abbrev VB:= @Tryz.ntmps165
abbrev Co:= @Tryz.underlying234
abbrev Zj:= @Tryz.func238
abbrev Zi:= @Tryz.ntmps238
end Go.Proofs.whole
namespace Go.Proofs.dw
open Go Go.RowKit
abbrev zq1:= @Tryz.func161
abbrev zq2:= @Tryz.ntmps161
abbrev zq3:= @Tryz.func222
abbrev zq4:= @Tryz.ntmps222
abbrev DV:Go.TypeId:=84
abbrev D9:= @Tryz.underlying84
abbrev zq7:= @Tryz.func138
abbrev zq8:= @Tryz.ntmps138
abbrev zq9:= @Tryz.func156
abbrev Rx:= @Tryz.ntmps156
abbrev VQ:= @Tryz.func224
abbrev VP:= @Tryz.ntmps224
abbrev Zu:= @Tryz.func225
abbrev Zt:= @Tryz.ntmps225
abbrev VO:= @Tryz.func94
abbrev VN:= @Tryz.ntmps94
abbrev VL:= @Tryz.func159
abbrev VK:= @Tryz.ntmps159
abbrev Zr:= @Tryz.func157
abbrev Zq:= @Tryz.ntmps157
abbrev VJ:= @Tryz.func158
abbrev VI:= @Tryz.ntmps158
abbrev VH:= @Tryz.func160
abbrev VG:= @Tryz.ntmps160
abbrev NI:= @Tryz.func92
abbrev NH:= @Tryz.ntmps92
abbrev VF:= @Tryz.func226
abbrev VE:= @Tryz.ntmps226
abbrev Rw:= @Tryz.func155
abbrev Ru:= @Tryz.ntmps155
abbrev Rt:= @Tryz.func153
abbrev Rs:= @Tryz.ntmps153
abbrev Zp:= @Tryz.func91
abbrev Zo:= @Tryz.ntmps91
abbrev VD:= @Tryz.func93
abbrev VB:= @Tryz.ntmps93
abbrev Co:= @Tryz.underlying86
abbrev Zn:= @Tryz.func147
abbrev Zm:= @Tryz.ntmps147
abbrev Zl:= @Tryz.func150
abbrev Zk:= @Tryz.ntmps150
abbrev Rq:= @Tryz.func151
abbrev Rp:= @Tryz.ntmps151
abbrev VA:= @Tryz.func154
abbrev Vz:= @Tryz.ntmps154
end Go.Proofs.dw
namespace Go.Proofs.matrix
open Go Go.RowKit
abbrev zq1:= @Tryz.func212
abbrev zq2:= @Tryz.ntmps212
abbrev zq3:= @Tryz.func265
abbrev zq4:= @Tryz.ntmps265
abbrev DV:Go.TypeId:=201
abbrev D9:= @Tryz.underlying201
abbrev zq7:= @Tryz.func211
abbrev zq8:= @Tryz.ntmps211
abbrev zq9:= @Tryz.func266
abbrev Rx:= @Tryz.ntmps266
abbrev VQ:= @Tryz.func272
abbrev VP:= @Tryz.ntmps272
abbrev Zu:= @Tryz.func273
abbrev Zt:= @Tryz.ntmps273
abbrev VO:= @Tryz.func136
abbrev VN:= @Tryz.ntmps136
abbrev VL:= @Tryz.func267
abbrev VK:= @Tryz.ntmps267
abbrev Zr:= @Tryz.func270
abbrev Zq:= @Tryz.ntmps270
abbrev VJ:= @Tryz.func268
abbrev VI:= @Tryz.ntmps268
abbrev VH:= @Tryz.func269
abbrev VG:= @Tryz.ntmps269
abbrev NI:= @Tryz.func200
abbrev NH:= @Tryz.ntmps200
abbrev VF:= @Tryz.func271
abbrev VE:= @Tryz.ntmps271
abbrev Rw:= @Tryz.func205
abbrev Ru:= @Tryz.ntmps205
abbrev Rt:= @Tryz.func203
abbrev Rs:= @Tryz.ntmps203
abbrev Zp:= @Tryz.func202
abbrev Zo:= @Tryz.ntmps202
abbrev VD:= @Tryz.func135
abbrev VB:= @Tryz.ntmps135
abbrev Co:= @Tryz.underlying206
abbrev Zn:= @Tryz.func199
abbrev Zm:= @Tryz.ntmps199
abbrev Zl:= @Tryz.func201
abbrev Zk:= @Tryz.ntmps201
abbrev Rq:= @Tryz.func210
abbrev Rp:= @Tryz.ntmps210
abbrev VA:= @Tryz.func204
abbrev Vz:= @Tryz.ntmps204
abbrev Zj:= @Tryz.func208
abbrev Zi:= @Tryz.ntmps208
end Go.Proofs.matrix
namespace Go.Num
def val (B:Nat):List Nat→Nat
 | []=>0
 | d::l=>d+B*val B l
def gF (B:Nat) (l:List Nat):Prop:=∀ d∈l,d<B
theorem gF.nil {B:Nat}:gF B []:=fun _ h=>by cases h
theorem gF.cons {B d:Nat} {l:List Nat} (h:d<B) (k:gF B l):gF B (d::l):=fun x hx=>by
 rcases List.mem_cons.1 hx with e|e
 ·rw [e];exact h
 ·exact k x e
theorem gF.head {B d:Nat} {l:List Nat} (h:gF B (d::l)):d<B:=h d zi
theorem gF.tail {B d:Nat} {l:List Nat} (h:gF B (d::l)):gF B l:=fun x hx=>h x (by simp [hx])
theorem gF.append {B:Nat} {l m:List Nat} (h:gF B l) (k:gF B m):gF B (l++m):=fun x hx=>by
 rcases List.mem_append.1 hx with e|e
 ·exact h x e
 ·exact k x e
theorem gF.snoc {B d:Nat} {l:List Nat} (h:gF B l) (k:d<B):gF B (l++[d]):=h.append (gF.nil.cons k)
theorem gF.take {B:Nat} {l:List Nat} (h:gF B l) (n:Nat):gF B (l.take n):=fun x hx=>h x (List.mem_of_mem_take hx)
theorem gF.drop {B:Nat} {l:List Nat} (h:gF B l) (n:Nat):gF B (l.drop n):=fun x hx=>h x (List.mem_of_mem_drop hx)
theorem gF.get {B:Nat} {l:List Nat} (h:gF B l) {i:Nat} (hi:i<l.length):l[i]<B:=h _ (bN hi)
theorem gF.getD {B:Nat} {l:List Nat} (h:gF B l) (hB:0<B) (i:Nat):l.getD i 0<B:=by
 by_cases hi:i<l.length
 ·simpa [hi] using h.get hi
 ·simpa [dL hi] using hB
theorem val_append (B:Nat):∀ (l m:List Nat),val B (l++m)=val B l+B^l.length*val B m
 | [],m=>by simp [val]
 | d::l,m=>by
  simp only [bB,val,val_append B l m,aV,bF,aU,Nat.add_assoc];rw [show B*(B^l.length*val B m)=B^l.length*B*val B m by rw [← bV,aL B]]
theorem jX (B:Nat) (l:List Nat) (d:Nat):val B (l++[d])=val B l+B^l.length*d:=by
 rw [val_append];simp [val]
theorem vI (B n:Nat):val B (bP n 0)=0:=by
 induction n with
 | zero=>rfl
 | succ n ih=>simp [List.replicate_succ,val,ih]
theorem jF {B:Nat} (hB:0<B):∀ {l:List Nat},gF B l→val B l<B^l.length
 | [],_=>by simp [val]
 | d::l,h=>by
  have h1:=jF hB h.tail;have h2:=h.head;simp only [val,aV,bF];have:B*(val B l+1)≤B*B^l.length:=aM B h1;rw [aL (B^l.length) B];rw [aU] at this;omega
def fG (B n:Nat):List Nat:=if _h:1<B∧0<n then n%B::fG B (n / B) else []
termination_by n
decreasing_by exact Nat.div_lt_self _h.2 _h.1
theorem gY (B:Nat):fG B 0=[]:=by unfold fG;simp
theorem j3 {B n:Nat} (hB:1<B) (h:0<n):fG B n=n%B::fG B (n / B):=by rw [fG];simp [hB,h]
theorem dh {B:Nat} (hB:1<B) (n:Nat):val B (fG B n)=n:=by
 induction n using fD with
 | _ n ih =>
  rcases bA n with h|h
  ·subst h;simp [gY,val]
  ·rw [j3 hB h,val,ih _ (Nat.div_lt_self h hB)];exact Nat.mod_add_div n B
theorem eH {B:Nat} (hB:1<B) (n:Nat):gF B (fG B n):=by
 induction n using fD with
 | _ n ih =>
  rcases bA n with h|h
  ·subst h;rw [gY];exact gF.nil
  ·rw [j3 hB h];exact (ih _ (Nat.div_lt_self h hB)).cons (iD _ zo)
def Top (l:List Nat):Prop:=∀ k,l.length=k+1→l.getD k 0≠0
theorem Top.nil:Top []:=fun _ h=>by cases h
theorem Top.tail {d:Nat} {l:List Nat} (h:Top (d::l)):Top l:=fun k hk=>by
 have:=h (k+1) (by simp [hk])
 simpa using this
theorem Top.snoc {l:List Nat} {d:Nat} (h:d≠0):Top (l++[d]):=fun k hk=>by
 have:k=l.length:=by simp at hk;omega
 subst this;simpa using h
theorem Top.cons {d:Nat} {l:List Nat} (h:Top l) (hn:l≠[]):Top (d::l):=fun k hk=>by
 simp at hk
 cases k with
 | zero=>exact absurd (List.length_eq_zero_iff.1 hk) hn
 | succ k=>have:=h k hk;simpa using this
theorem rJ {B n:Nat} (hB:1<B):fG B n=[]↔n=0:=by
 constructor
 ·intro h
  rcases bA n with h0|h0
  ·exact h0
  ·rw [j3 hB h0] at h;cases h
 ·rintro rfl;exact gY B
theorem qU {B:Nat} (hB:1<B) (n:Nat):Top (fG B n):=by
 induction n using fD with
 | _ n ih =>
  rcases bA n with h|h
  ·subst h;rw [gY];exact Top.nil
  ·rw [j3 hB h]
   by_cases h2:n / B=0
   ·rw [h2,gY];intro k hk;have:k=0:=by simp at hk;omega
    subst this;have:n<B:=(Nat.div_eq_zero_iff_lt zo).1 h2
    simpa [gH this] using Nat.pos_iff_ne_zero.1 h
   ·exact (ih _ (Nat.div_lt_self h hB)).cons (fun e=>h2 ((rJ hB).1 e))
theorem kS {B:Nat} (hB:0<B):∀ {l:List Nat},Top l→l≠[]→0<val B l
 | [],_,h=>absurd rfl h
 | [d],h,_=>by have:=h 0 rfl;simp [val] at this ⊢;omega
 | d::e::l,h,_=>by
  have:=kS hB h.tail zi;simp only [val] at this ⊢;have:0<B*(e+B*val B l):=fV hB this;omega
theorem F6 {B:Nat} (hB:1<B):∀ {l:List Nat},gF B l→Top l→fG B (val B l)=l
 | [],_,_=>by simp [val,gY]
 | d::l,hd,ht=>by
  have hp:=kS (B:=B) zo ht zi;rw [j3 hB hp];simp only [val];have h1:(d+B*val B l)%B=d:=by rw [Nat.add_mul_mod_self_left];exact gH hd.head
  have h2:(d+B*val B l) / B=val B l:=by
   rw [Nat.add_mul_div_left _ _ zo,iB hd.head,dS]
  rw [h1,h2,F6 hB hd.tail ht.tail]
theorem jG {l:List Nat} {k:Nat} (h:k<l.length):l.take (k+1)=l.take k++[l.getD k 0]:=by
 rw [fP h];simp [h]
theorem cO (B:Nat) {l:List Nat} {k:Nat} (h:k<l.length):val B (l.take (k+1))=val B (l.take k)+B^k*l.getD k 0:=by
 rw [jG h,jX];simp [Nat.min_eq_left (Nat.le_of_lt h)]
def sz (B n:Nat):Nat:=(fG B n).length
theorem uJ (B:Nat):sz B 0=0:=by simp [sz,gY]
theorem jO {B:Nat} (hB:1<B) (n:Nat):n<B^sz B n:=by
 have:=jF zo (eH hB n)
 rwa [dh hB] at this
theorem cZ {B:Nat} (hB:1<B):∀ (k n:Nat),n<B^k→sz B n≤k
 | 0,n,h=>by
  have:n=0:=by simpa using h
  subst this;simp [uJ]
 | k+1,n,h=>by
  rcases bA n with h0|h0
  ·subst h0;simp [uJ]
  ·unfold sz;rw [j3 hB h0,aV]
   have:n / B<B^k:=by
    rw [bO zo]
    rwa [bF] at h
   have:=cZ hB k (n / B) this;unfold sz at this;omega
theorem CS {B:Nat} (hB:1<B) {n k:Nat} (h:sz B n=k+1):B^k≤n:=by
 rcases aH n (B^k) with h1|h1
 ·have:=cZ hB k n h1;omega
 ·exact h1
theorem jK {B:Nat} (hB:1<B) {m n:Nat} (h:m≤n):sz B m≤sz B n :=
 cZ hB _ _ (Nat.lt_of_le_of_lt h (jO hB n))
theorem yK {B:Nat} (hB:1<B) (m n:Nat):sz B (m+n)≤max (sz B m) (sz B n)+1:=by
 refine cZ hB _ _ ?_;have h1:=jO hB m;have h2:=jO hB n;have h3:B^sz B m≤B^max (sz B m) (sz B n):=bX zo (Nat.le_max_left _ _);have h4:B^sz B n≤B^max (sz B m) (sz B n):=bX zo (Nat.le_max_right _ _);rw [bF];have:B^max (sz B m) (sz B n)*2≤B^max (sz B m) (sz B n)*B:=aM _ hB;omega
theorem kg {B:Nat} (hB:1<B) (m n:Nat):sz B (m*n)≤sz B m+sz B n:=by
 refine cZ hB _ _ ?_;rw [eG];exact Nat.mul_lt_mul'' (jO hB m) (jO hB n)
def trimLen (l:List Nat):Nat→Nat
 | 0=>0
 | n+1=>if l.getD n 0=0 then trimLen l n else n+1
theorem trimLen_le (l:List Nat):∀ n,trimLen l n≤n
 | 0=>aG _
 | n+1=>by
  unfold trimLen;split
  ·exact Nat.le_succ_of_le (trimLen_le l n)
  ·exact aG _
theorem EF (l:List Nat):∀ n,n≤l.length→Top (l.take (trimLen l n))
 | 0,_=>Top.nil
 | n+1,h=>by
  unfold trimLen;split
  ·exact EF l n zo
  ·rename_i h0;intro k hk;have:k=n:=by simp [Nat.min_eq_left h] at hk;omega
   subst this;rw [jG zo];have hl:(l.take k).length=k:=by simp;omega
   rw [bJ,fO zo]
   simpa [hl] using h0
theorem EC (B:Nat) (l:List Nat):∀ n,n≤l.length→val B (l.take (trimLen l n))=val B (l.take n)
 | 0,_=>rfl
 | n+1,h=>by
  unfold trimLen;split
  ·rename_i h0;rw [EC B l n zo,cO B zo,h0];simp
  ·rfl
theorem BD {B:Nat} (hB:0<B) {l m:List Nat} {k:Nat} (hl:gF B l) (hk:k<l.length) (hk':k<m.length) (hd:l.drop (k+1)=m.drop (k+1)) (h:l.getD k 0<m.getD k 0):val B l<val B m:=by
 have e:∀ x:List Nat,k<x.length→val B x=val B (x.take k)+B^k*x.getD k 0+B^(k+1)*val B (x.drop (k+1)):=fun x hx=>by
  have h1:x=x.take (k+1)++x.drop (k+1):=(gy _ _).symm;have h2:(x.take (k+1)).length=k+1:=by simp;omega
  conv=>lhs;rw [h1,val_append,h2,cO B hx]
 rw [e l hk,e m hk',hd];have h1:=jF hB (hl.take k);have h2:(l.take k).length=k:=by simp;omega
 rw [h2] at h1;have h3:B^k*(l.getD k 0+1)≤B^k*m.getD k 0:=aM _ h;rw [aU] at h3;omega
theorem FH {B:Nat} (hB:1<B) {a b:Nat} (h:sz B a<sz B b):a<b:=by
 rcases aH a b with h1|h1
 ·exact h1
 ·have:=jK hB h1;omega
theorem kF {l:List Nat} {k:Nat} (h:k<l.length):l.drop k=l.getD k 0::l.drop (k+1):=by
 rw [List.drop_eq_getElem_cons h];simp [h]
theorem Ij {B:Nat} (hB:1<B) {l s:List Nat} (ht:Top l) (hs:gF B s) (hlen:s.length=l.length) (h:val B l≤val B s):Top s:=by
 intro k hk h0;have hk':l.length=k+1:=by omega
 have h1:=ht k hk'
 have h2:val B s<B^k:=by
  have e:s=s.take k++[s.getD k 0]:=by rw [← jG zo,← hk,eX]
  rw [e,h0,jX,Nat.mul_zero,gL];have:=jF (by omega:0<B) (hs.take k)
  rwa [show (s.take k).length=k by simp;omega] at this
 have h3:B^k≤val B l:=by
  have e:l=l.take k++[l.getD k 0]:=by rw [← jG zo,← hk',eX]
  rw [e,jX,show (l.take k).length=k by simp;omega];have:B^k*1≤B^k*l.getD k 0:=aM _ zo;omega
 omega
theorem set_mid {s:List Nat} {n k d:Nat} (hs:s.length=k) (hk:k<n):(s++bP (n - k) 0).set k d=(s++[d])++bP (n - (k+1)) 0:=by
 obtain ⟨j,hj⟩:∃ j,n - k=j+1:=⟨n - k - 1,by omega⟩;rw [hj,show n - (k+1)=j by omega,List.replicate_succ,iI _ _ zo,hs,Nat.sub_self];simp
theorem P5 {s:List Nat} {n k:Nat} (hs:s.length=k):(s++bP n 0).getD k 0=0:=by
 rw [bJ,fO zo,hs,Nat.sub_self];cases n<;>simp [List.replicate_succ]
theorem IV {B:Nat} {l m s:List Nat} {k c d c':Nat} (hk:k<l.length) (hs:s.length=k) (he:val B s+val B (m.take k)=val B (l.take k)+c*B^k) (h:d+m.getD k 0+c=l.getD k 0+c'*B) :
  val B (s++[d])+val B (m.take (k+1))=val B (l.take (k+1))+c'*B^(k+1):=by
 have hm:val B (m.take (k+1))=val B (m.take k)+B^k*m.getD k 0:=by
  by_cases hkm:k<m.length
  ·exact cO B hkm
  ·rw [kR zo,kR zo];simp [dL hkm]
 rw [jX,cO B hk,hm,hs,bF];have h2:=congrArg (B^k* ·) h;simp only [aU] at h2;rw [show c'*(B^k*B)=B^k*(c'*B) by rw [dz]];rw [aL c (B^k)] at he;omega
theorem Cu (B:Nat):∀ (l:List Nat) (t x:Nat),t<l.length→val B (l.set t x)+B^t*l.getD t 0=val B l+B^t*x
 | [],_,_,h=>by cases h
 | a::l,0,x,_=>by simp [val];omega
 | a::l,t+1,x,h=>by
  have ih:=Cu B l t x (by simpa using h);simp only [aJ,val,List.getD_cons_succ,bF];have h2:=congrArg (B* ·) ih;simp only [aU] at h2;rw [show B^t*B*l.getD t 0=B*(B^t*l.getD t 0) by rw [aL (B^t) B,bV],show B^t*B*x=B*(B^t*x) by rw [aL (B^t) B,bV]];omega
theorem gF.set {B:Nat} {l:List Nat} (h:gF B l) (t:Nat) {x:Nat} (hx:x<B):gF B (l.set t x):=fun y hy=>by
 rcases List.mem_or_eq_of_mem_set hy with e|e
 ·exact h y e
 ·rw [e];exact hx
theorem Kj {l:List Nat} {t u x:Nat} (h:t≠u):(l.set t x).getD u 0=l.getD u 0:=by simp [List.getElem?_set_ne h]
theorem Ik {B:Nat} {m p:List Nat} {i j c d V:Nat} (hj:j<m.length) (hp:i+j<p.length) (he:val B p+c*B^(i+j)=V+B^i*(d*val B (m.take j))) :
  val B (p.set (i+j) ((c+(p.getD (i+j) 0+d*m.getD j 0))%B))+(c+(p.getD (i+j) 0+d*m.getD j 0)) / B*B^(i+j+1)=V+B^i*(d*val B (m.take (j+1))):=by
 have h1:=Cu B p (i+j) ((c+(p.getD (i+j) 0+d*m.getD j 0))%B) hp;rw [cO B hj];generalize hX:c+(p.getD (i+j) 0+d*m.getD j 0)=X at *
 have h2:B^(i+j)*(X%B)+X / B*B^(i+j+1)=B^(i+j)*X:=by
  rw [bF,show X / B*(B^(i+j)*B)=B^(i+j)*(B*(X / B)) by rw [dz,aL (X / B) B],← aU,Nat.mod_add_div]
 have h3:B^(i+j)*X=c*B^(i+j)+B^(i+j)*p.getD (i+j) 0+B^i*(d*(B^j*m.getD j 0)):=by
  rw [← hX,aU,aU,aL c,eG];rw [show B^i*(d*(B^j*m.getD j 0))=B^i*B^j*(d*m.getD j 0) by rw [bV (B^i),dz d]];omega
 rw [aU d,aU (B^i)];omega
theorem EJ {B c x d e:Nat} (hc:c<B) (hx:x<B) (hd:d<B) (he:e<B):(c+(x+d*e)) / B<B:=by
 rw [bO zo];have h1:d*e≤(B - 1)*(B - 1):=dU zo zo;obtain ⟨b,rfl⟩:∃ b,B=b+1:=⟨B - 1,by omega⟩;simp only [Nat.add_sub_cancel] at h1;have h2:(b+1)*(b+1)=b*b+2*b+1:=by simp only [dH,aU];omega
 omega
theorem EI {B:Nat} {l m p:List Nat} {i c:Nat} (hi:i<l.length) (hp:i+m.length<p.length) (hz:p.getD (i+m.length) 0=0)
  (he:val B p+c*B^(i+m.length)=val B (l.take i)*val B m+B^i*(l.getD i 0*val B m)):val B (p.set (i+m.length) c)=val B (l.take (i+1))*val B m:=by
 have h1:=Cu B p (i+m.length) c hp;rw [hz,Nat.mul_zero,gL,aL _ c] at h1;rw [h1,he,cO B hi,dH,bV]
theorem Io {B:Nat} {l s:List Nat} {j d r:Nat} (hj:j<l.length) (he:val B (l.drop (j+1))=d*val B s+r) :
  val B (l.drop j)=d*val B ((r*B+l.getD j 0) / d::s)+(r*B+l.getD j 0)%d:=by
 rw [kF hj];simp only [val];rw [he];have h:=bU (r*B+l.getD j 0) d;have e1:d*((r*B+l.getD j 0) / d+B*val B s)=d*((r*B+l.getD j 0) / d)+B*(d*val B s):=by rw [aU,dz]
 have e2:B*(d*val B s+r)=B*(d*val B s)+r*B:=by rw [aU,aL B r]
 rw [e1,e2];omega
theorem EP {B d r x:Nat} (hr:r<d) (hx:x<B):(r*B+x) / d<B:=by
 rw [bO zo];have h:(r+1)*B≤d*B:=aZ _ hr;rw [dH,jE] at h;rw [aL B d];omega
theorem ET {s:List Nat} {k d:Nat}:(bP (k+1) 0++s).set k d=bP k 0++d::s:=by
 rw [List.replicate_succ',kQ,iI _ _ zi];simp
theorem BU {s:List Nat} {k j:Nat} (h:j<k):(bP k 0++s).getD j 0=0:=by
 rw [bJ,fq (by simpa using h)];simp [h]
theorem yN {B:Nat} {l:List Nat} {j:Nat} (hj:j<l.length):val B (l.drop j)=val B (l.drop (j+1))*B+l.getD j 0:=by
 rw [kF hj];simp only [val];rw [aL B,Nat.add_comm]
theorem wE (B:Nat) (hB:0<B):∀ (l:List Nat) (k:Nat),val B (l.drop k)≤val B l
 | [],k=>by simp
 | d::l,0=>by simp
 | d::l,k+1=>by
  have h:=wE B hB l k;have h2:val B l*1≤val B l*B:=aM _ hB;rw [List.drop_succ_cons];simp only [val];rw [aL B];omega
theorem Cz {pre s u post:List Nat} {i j d:Nat} (hj:pre.length=j) (hs:s.length=i) (hi:i<u.length):(pre++(s++u.drop i)++post).set (j+i) d=pre++((s++[d])++u.drop (i+1))++post:=by
 rw [kQ,iI _ _ zo,hj,Nat.add_sub_cancel_left,kQ s,iI _ _ zo,hs,Nat.sub_self,kF hi,bB,aI];simp
theorem getD_in {s u:List Nat} {i t:Nat} (hs:s.length=i) (ht:i≤t):(s++u.drop i).getD t 0=u.getD t 0:=by
 rw [bJ,fO zo,tT,hs,Nat.add_sub_cancel' ht,← bJ]
end Go.Num
namespace Go.SW
open Go Go.RowKit
inductive K where
 | pure|read|alloc (cs:Array Value) (T:TypeId)|ext|fin
def K.iJ:K→Bool
 | .alloc .. =>true
 | _=>false
def K.isFin:K→Bool
 | .fin=>true
 | _=>false
section
variable {P:Program} {ops:Array Oper} {Q:Exit→Act→World→Prop}
theorem kH {w w1 w2:World} (h:Below w.heap.size w w1) (k:Below w1.heap.size w1 w2):Below w.heap.size w w2 :=
 h.trans (k.mono h.size)
/-! ### The check on a region, by computation -/
def anc (ops:Array Oper):Nat→Nat→Nat→Bool
 | 0,_,_=>false
 | n+1,i,u=>match ops[i]? with
  | none=>false
  | some o=>o.after.any (fun e=>Region.binds .any e&&e.on == u) || o.after.any (fun e=>Region.binds .any e&&anc ops n e.on u)
def edge (ops:Array Oper) (i u:Nat):Bool:=match ops[i]? with
 | none=>false
 | some o=>o.after.any (fun e=>Region.binds .any e&&e.on == u)
def fwd (ops:Array Oper) (p q:Nat):Bool:=match ops[p]?, ops[q]? with
 | some x,some y =>
  (match y.dst with|some d=> !(x.looksAt ops).contains d&&x.dst != some d|none=>true) &&
  (match x.dst with|some d=> !(y.looksAt ops).contains d || edge ops q p|none=>true)
 | _,_=>false
def um (ops:Array Oper) (p:Nat):Bool:=match ops[p]? with
 | some x=>(match x.dst with|some d=> !(x.looksAt ops).contains d|none=>true)
 | none=>false
theorem qm {s a:Act} {o:Oper} (hs:∀ cs b,o.op≠ .select cs b) (h:∀ t,t∈o.looksAt ops→s.tmps[t]? =a.tmps[t]?):execOp s.eval o=execOp a.eval o :=
 execOp_congr o hs fun x hx=>by
  cases x with
  | tmp t =>
   have:=h t (List.mem_append_left _ (List.mem_filterMap.2 ⟨.tmp t,by simpa using hx,rfl⟩));simp only [Act.eval,iw, this]
  | const v=>rfl
  | global g=>rfl
  | func f=>rfl
theorem ni {s a:Act} {o:Oper} (h:∀ t,t∈o.looksAt ops→s.tmps[t]? =a.tmps[t]?):Region.wanted o (yielded ops s.tmps)=Region.wanted o (yielded ops a.tmps):=by
 unfold Region.wanted;cases hg:o.guard with
 | none=>rfl
 | some gw =>
  obtain ⟨g,want⟩:=gw
  have hy:yielded ops s.tmps g=yielded ops a.tmps g:=by
   unfold yielded;cases ht:(ops[g]?).bind (·.dst) with
   | none=>rfl
   | some t =>
    have:=h t (by simp [Oper.looksAt,hg,ht]);simp [this]
  simp only [hy]
theorem yD {i:Nat} {o:Oper} {s a:Act} {w:World} {K K':Act→World→Prop} (hi:ops[i]? =some o) (hs:∀ cs b,o.op≠ .select cs b)
  (hl:∀ t,t∈o.looksAt ops→s.tmps[t]? =a.tmps[t]?) (hd:s.defers=a.defers)
  (hQ:∀ c (a s:Act) w,s.defers=a.defers→Q (.panic c) a w→Q (.panic c) s w)
  (hK:∀ ds v w',K (({ a with defers:=ds }:Act).put o.dst v) w'→K' (({ s with defers:=ds }:Act).put o.dst v) w')
  (h:wpOp P ops Q i K a w):wpOp P ops Q i K' s w:=by
 have hev:=qm hs hl;have hw:=ni (ops:=ops) hl
 have hK0:∀ v w',K (a.put o.dst v) w'→K' (s.put o.dst v) w':=fun v w' hk=>by
  have:=hK a.defers v w' hk;rw [← hd] at this;exact this
 unfold wpOp at *;simp only [hi] at *;rw [hw];split
 ·rename_i hwt;simp only [hwt,if_true] at h
  rcases h with h|⟨hasks,hlets⟩
  case inr=>exact .inr ⟨by unfold Oper.asks at*; rw [hev];exact hasks,hlets⟩
  refine .inl ?_;unfold Oper.wp at *;rw [hev];generalize (execOp a.eval o).run P w=r at *;cases r with
  | ok n w' =>
   cases n<;>simp only [Oper.upon] at h ⊢
   case value u=>exact hK0 _ _ h
   case skip=>exact hK0 _ _ h
   case defer d=>rw [hd];exact hK _ _ _ h
   case enter f args =>
    refine Calls.mono h fun e w'' he=>?_;cases e with
    | returned u=>exact hK0 _ _ he
    | panicked c=>exact hQ _ _ _ _ hd he
    | outgrown=>exact he
   case row row args=>exact Rows.mono h fun u w'' he=>hK0 _ _ he
  | halt x w' =>
   cases x<;>simp only [Oper.upon] at h ⊢
   case panic u=>exact hQ _ _ _ _ hd h
 ·rename_i hwt;simp only [hwt,if_false,bK] at h;exact hK0 _ _ h
def om (ops:Array Oper) (i:Nat):Option Tmp:=(ops[i]?).bind (·.dst)
theorem fF {i:Nat} {o:Oper} (h:ops[i]? =some o):om ops i=o.dst:=by simp [om,h]
theorem kZ {p q:Nat} {x y:Oper} (hx:ops[p]? =some x) (hy:ops[q]? =some y) (h:fwd ops p q=true) :
  (∀ d,y.dst=some d→d∉x.looksAt ops∧x.dst≠some d)∧(∀ d,x.dst=some d→d∈y.looksAt ops→edge ops q p=true):=by
 unfold fwd at h;simp only [hx,hy,aD] at h;refine ⟨fun d hd=>?_,fun d hd hm=>?_⟩
 ·have h1:=h.1;simp only [hd,aD,iN,bne_iff_ne,ne_eq] at h1;exact ⟨by simpa using h1.1,h1.2⟩
 ·have h2:=h.2;simp only [hd,Bool.or_eq_true,iN] at h2
  rcases h2 with h2|h2
  ·simp [hm] at h2
  ·exact h2
theorem sD {q p:Nat} {y:Oper} (hy:ops[q]? =some y) (h:edge ops q p=true):∃ e∈y.after,Region.binds .any e=true∧e.on=p:=by
 unfold edge at h;simp only [hy] at h;obtain ⟨e,he,hb⟩:=Array.any_eq_true'.1 h;simp only [aD,beq_iff_eq] at hb;exact ⟨e,he,hb.1,hb.2⟩
def Closed (ops:Array Oper) (listed:Array Bool):Prop:=∀ j o,ops[j]? =some o→listed.getD j false=true→∀ e∈o.after,Region.binds .any e=true→listed.getD e.on false=true
theorem AJ {listed:Array Bool} (hc:Closed ops listed):∀ (n i u:Nat),anc ops n i u=true→(∀ o,ops[i]? =some o→∀ e∈o.after,Region.binds .any e=true→listed.getD e.on false=true)→listed.getD u false=true
 | 0,_,_,h,_=>by simp [anc] at h
 | n+1,i,u,h,hr=>by
  unfold anc at h;cases ho:ops[i]? with
  | none=>simp only [ho] at h;cases h
  | some o =>
   simp only [ho,Bool.or_eq_true] at h
   rcases h with h|h
   ·obtain ⟨e,he,hb⟩:=Array.any_eq_true'.1 h;simp only [aD,beq_iff_eq] at hb;exact hb.2 ▸ hr o ho e he hb.1
   ·obtain ⟨e,he,hb⟩:=Array.any_eq_true'.1 h;simp only [aD] at hb;have hl:=hr o ho e he hb.1;exact AJ hc n e.on u hb.2 fun o' ho' e' he' hb'=>hc e.on o' ho' hl e' he' hb'
theorem qz {listed:Array Bool} {r:Nat} {o:Oper} (hc:Closed ops listed) (hr:ops[r]? =some o) (ak4:∀ e∈o.after,Region.binds .any e=true→listed.getD e.on false=true) :
  Closed ops (listed.setIfInBounds r true):=by
 intro j oj hj hl e he hb;refine getD_set_true ?_
 by_cases h:r=j
 ·subst h;rw [hr] at hj;cases hj;exact ak4 e he hb
 ·rw [getD_set_ne false h] at hl;exact hc j oj hj hl e he hb
theorem kU (a:Act) {x:Option Tmp} {t:Tmp} (v:Value) (h:x≠some t):(a.put x v).tmps[t]? =a.tmps[t]? :=by
 cases x with
 | none=>rfl
 | some d =>
  have:d≠t:=fun e=>h (by rw [e]);simp [Act.put,Array.getElem?_setIfInBounds_ne this]
theorem put_eq (a:Act) {t:Tmp} (v:Value) (h:t<a.tmps.size):(a.put (some t) v).tmps[t]? =some v:=by
 simp [Act.put,h]
theorem fQ (a:Act) (x:Option Tmp) (v:Value):(a.put x v).tmps.size=a.tmps.size:=by
 cases x<;>simp [Act.put]
theorem kE (a:Act) (x:Option Tmp) (v:Value):(a.put x v).defers=a.defers:=by cases x<;>rfl
def compat (ops:Array Oper) (x y:Nat):Prop :=
 (∀ d,om ops x=some d→om ops y≠some d)∧(∀ d o,om ops x=some d→ops[y]? =some o→d∈o.looksAt ops→edge ops y x=true)
theorem jB {p q:Nat} (h:fwd ops p q=true):compat ops p q∧compat ops q p:=by
 unfold fwd at h;cases hx:ops[p]? with
 | none=>simp [hx] at h
 | some x =>
  cases hy:ops[q]? with
  | none=>simp [hx,hy] at h
  | some y =>
   have hf:fwd ops p q=true:=by unfold fwd;simpa [hx,hy] using h
   obtain ⟨h1,h2⟩:=kZ hx hy hf;refine ⟨⟨fun d hd hd'=>?_,fun d o hd ho hm=>?_⟩,⟨fun d hd hd'=>?_,fun d o hd ho hm=>?_⟩⟩
   ·rw [fF hx] at hd;rw [fF hy] at hd';exact (h1 d hd').2 hd
   ·rw [hy] at ho;cases ho;rw [fF hx] at hd;exact h2 d hd hm
   ·rw [fF hy] at hd;rw [fF hx] at hd';exact (h1 d hd).2 hd'
   ·rw [hx] at ho;cases ho;rw [fF hy] at hd;exact absurd hm (h1 d hd).1
theorem fZ {listed:Array Bool} {r:Nat} (hr:r∈Region.ready .any ops listed):∃ o,ops[r]? =some o∧listed.getD r true=false∧∀ e∈o.after,Region.binds .any e=true→listed.getD e.on false=true:=by
 obtain ⟨h0,o,ho,h⟩:=mem_ready.1 hr;exact ⟨o,ho,h0,h⟩
theorem getD_both {listed:Array Bool} {i:Nat} (h:listed.getD i true=false):listed.getD i false=false:=by
 rcases aH i listed.size with h'|h'
 ·simpa [h'] using h
 ·simp [bq h'] at h
theorem nC {listed:Array Bool} {r i:Nat} (hi:i<listed.size):(listed.setIfInBounds r true).getD i true=false↔listed.getD i true=false∧i≠r:=by
 by_cases h:r=i
 ·subst h;simp [hi]
 ·rw [getD_set_ne true h];exact ⟨fun x=>⟨x,fun e=>h e.symm⟩,fun x=>x.1⟩
def ordered (ops:Array Oper):Bool:=(bI ops.size).all fun i=>match ops[i]? with
 | some o=>o.after.all (fun e=> !Region.binds .any e || e.on<i)
 | none=>true
theorem Jp {listed:Array Bool} (ho:ordered ops=true) (hsz:listed.size=ops.size) (hr:Region.ready .any ops listed=[]):∀ i,i<ops.size→listed.getD i true=true:=by
 intro i
 induction i using fD with
 | _ i ih =>
  intro hi;cases hl:listed.getD i true with
  | true=>rfl
  | false =>
   exfalso
   have ho':ops[i]? =some ops[i]:=by simp [hi]
   have hmem:i∈Region.ready .any ops listed:=mem_ready.2 ⟨hl,ops[i],ho',fun e he hb=>by
    unfold ordered at ho;have h1:=List.all_eq_true.1 ho i (List.mem_range.2 hi);simp only [ho'] at h1;have h2:=Array.all_eq_true_iff_forall_mem.1 h1 e he;simp only [hb,Bool.not_true,Bool.false_or,decide_eq_true_eq] at h2;have h3:=ih e.on h2 zo;have:e.on<listed.size:=by omega
    simpa [this] using h3⟩
   rw [hr] at hmem;cases hmem
def Led (ops:Array Oper):Prop:=∀ (listed:Array Bool),listed.size=ops.size→Region.ready .any ops listed=[]→∀ i,i<ops.size→listed.getD i true=true
theorem Wz (ho:ordered ops=true):Led ops:=fun _ hsz hr=>Jp ho hsz hr
theorem K8 {s a:Act} (hd:s.defers=a.defers) (h:∀ t:Nat,s.tmps[t]? =a.tmps[t]?):s=a:=by
 obtain ⟨t,d⟩:=s;obtain ⟨t',d'⟩:=a;simp only at hd h;rw [hd,Array.ext_getElem? h]
def K.isPure:K→Bool
 | .pure=>true
 | _=>false
def kV (ops:Array Oper) (x q:K × Nat):Bool:=if q.1.isFin then (anc ops ops.size q.2 x.2 || (x.1.isPure&&fwd ops x.2 q.2)) else fwd ops x.2 q.2
def blocked (ops:Array Oper) (i:Nat) (is:List (K × Nat)) (q:K × Nat):Bool:=q.1.iJ || edge ops q.2 i || is.any (fun r=> !r.1.iJ&&edge ops q.2 r.2)
def iY (ops:Array Oper):List (K × Nat)→Bool
 | []=>true
 | (k,i)::is=>(match k with
  | .pure| .read=>um ops i&&is.all (kV ops (k,i))
  | .alloc .. =>is.all (kV ops (k,i))&&is.all (blocked ops i is)
  | .ext=>is.all (kV ops (k,i))&&is.all (blocked ops i is)
  | .fin=>is.all (·.1.isFin)&&is.all (blocked ops i is))&&(ops[i]?).isSome&&iY ops is
def check (ops:Array Oper) (is:List (K × Nat)):Bool :=
 Region.noSelect ops&&ordered ops&&iY ops is&&decide (is.map (·.2)).Nodup&&decide (is.length≤ops.size)&&(bI ops.size).all (fun i=>(is.map (·.2)).contains i)
theorem gI {listed:Array Bool} {q r:Nat} (hr:q∈Region.ready .any ops listed) (he:edge ops q r=true) (hun:listed.getD r true=false):False:=by
 obtain ⟨o,ho,_,hall⟩:=fZ hr;obtain ⟨e,h1,h2,h3⟩:=sD ho he;have:=hall e h1 h2;rw [h3,getD_both hun] at this;cases this
theorem uL {listed:Array Bool} {q:Nat} (hr:q∈Region.ready .any ops listed):q<ops.size:=by
 obtain ⟨o,ho,_⟩:=fZ hr;exact (Array.getElem?_eq_some_iff.1 ho).1
def pR (P:Program) (ops:Array Oper) (is:List (K × Nat)):Prop :=
 ∀ cs T j,(K.alloc cs T,j)∈is→∀ o,ops[j]? =some o→o.guard=none∧∀ ρ w,(execOp ρ o).run P w= .ok (.value (au (some ⟨w.heap.size,0,none⟩))) (w.alloc (.cells cs T (0,0)))
structure Early (ops:Array Oper) (N:Nat) (is:List (K × Nat)) (A:List Nat) (E:List (Nat × Nat)) (s a:Act) (w:World):Prop where
 good:∀ p∈E,∃ cs T,(K.alloc cs T,p.1)∈is∧w.heap[p.2]? =some (.cells cs T (0,0))∧N≤p.2∧p.2<w.heap.size∧p.2∉A
 dist:∀ p∈E,∀ q∈E,p.1≠q.1→p.2≠q.2
 slot:∀ p∈E,∀ d,om ops p.1=some d→d<a.tmps.size→s.tmps[d]? =some (.pointer (some ⟨p.2,0,none⟩))
 old:∀ x∈A,x<w.heap.size
 base:N≤w.heap.size
def dZ (is:List (K × Nat)) (E:List (Nat × Nat)):Nat:=(is.filter (fun x=> !(E.map (·.1)).contains x.2)).length
theorem oI (is:List (K × Nat)):dZ is []=is.length:=by
 unfold dZ;rw [List.filter_eq_self.2 zi]
theorem tC:∀ (is:List (K × Nat)),iY ops is=true→∀ x∈is,∀ y∈is,x.1.iJ=true→y.1.iJ=true→x.2≠y.2→compat ops x.2 y.2
 | [],_,_,hx,_,_,_,_,_=>by cases hx
 | (k,i)::is,h,x,hx,y,hy,hxa,hya,hne=>by
  unfold iY at h;have hrest:iY ops is=true:=by simp only [aD] at h;exact h.2
  have key:∀ y∈is,k.iJ=true→y.1.iJ=true→fwd ops i y.2=true:=fun y hy hk hya=>by
   have hp:is.all (kV ops (k,i))=true:=by
    cases k<;>simp [K.iJ] at hk
    simp only [aD] at h;exact h.1.1.1
   have h2:=List.all_eq_true.1 hp y hy;unfold kV at h2;have hf:y.1.isFin=false:=by cases hk:y.1<;>simp [K.iJ,K.isFin,hk] at hya ⊢
   simpa [hf] using h2
  rcases List.mem_cons.1 hx with hx|hx<;>rcases List.mem_cons.1 hy with hy|hy
  ·subst hx hy;exact absurd rfl hne
  ·subst hx;exact (jB (key y hy hxa hya)).1
  ·subst hy;exact (jB (key x hx hya hxa)).2
  ·exact tC is hrest x hx y hy hxa hya hne
/-! ### The steps -/
def BQ (ops:Array Oper) (j:Nat) (T:TypeId):Bool:=match ops[j]? with
 | some o=>(match o.op with| .alloc T'=>T' == T| _=>false)&&o.guard.isNone
 | none=>false
def sI (P:Program) (T:TypeId):Option (Array Value):=((P.info? T).bind (·.zero)).map Value.cells
def probe (P:Program) (ops:Array Oper):K × Nat→Bool × Option (Array Value)
 | (.alloc _ T,j)=>(BQ ops j T,sI P T)
 | _=>(true,none)
def want:K × Nat→Bool × Option (Array Value)
 | (.alloc cs _,_)=>(true,some cs)
 | _=>(true,none)
theorem qD {is:List (K × Nat)} (h:is.map (probe P ops)=is.map want):pR P ops is:=by
 intro cs T j hj o ho
 have h1:probe P ops (.alloc cs T,j)=want (.alloc cs T,j):=by
  induction is with
  | nil=>cases hj
  | cons x xs ih =>
   simp only [bL,iM] at h
   rcases List.mem_cons.1 hj with hj|hj
   ·rw [hj];exact h.1
   ·exact ih h.2 hj
 simp only [probe,want,dW] at h1;obtain ⟨h2,h3⟩:=h1;unfold BQ at h2;simp only [ho,aD] at h2;obtain ⟨h4,h5⟩:=h2;refine ⟨by simpa using h5,fun ρ w=>?_⟩;obtain ⟨dst,op,ty,pos,after,guard⟩:=o;cases op<;>simp at h4
 case alloc T' =>
  subst h4;unfold sI at h3;cases hi:P.info? T' with
  | none=>simp [hi] at h3
  | some i =>
   cases hz:i.zero with
   | none=>simp [hi,hz] at h3
   | some z =>
    simp [hi,hz] at h3
    subst h3;simp [execOp,Instr.alloc,zeroValue,typeInfo,hi,hz,newVar,newRow,newObj]
    rfl
end
end Go.SW
