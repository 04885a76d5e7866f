/- Lemmas for the proof. No condition. -/
import Derived.Orders
import Derived.Below
import Derived.Tactics
import Derived.WalkKit
import Derived.WalkSpells
import Derived.WalkLawsBesides
import Derived.Lib.Hide
import Derived.Laws.OwnMore
import Derived.Laws.ResultCell
import Derived.Laws.Rows
import Derived.Lib.ItoaNum
import Derived.Test.YtbngfhgoeoncmaaGreatDoorProg
set_option linter.unusedVariables false
set_option linter.unusedSimpArgs false
set_option maxRecDepth 100000
set_option maxHeartbeats 16000000
open Array renaming getD_eq_getD_getElem? → ji, getElem?_eq_none → bQ
open Bool renaming and_eq_true → aF, eq_iff_iff → iZ, false_eq_true → cK, not_eq_true' → jO
open Go.Ending renaming returned → aj
open Go.IntKind renaming i64 → I
open Go.Value renaming agg → aB, int → Z, pointer → ay, slice → ah, tuple → aD
open List renaming all_cons → gD, all_eq_true → dI, append_assoc → jP, cons_append → bP, getD_eq_getElem?_getD → cO, getElem?_append_left → eO, getElem?_append_right → fC, getElem?_drop → jw, getElem_mem → dx, length_cons → aV, map_cons → bH, map_nil → gM, mem_cons → dQ, mem_filter → Ck, mem_map → Jg, not_mem_nil → gU, range → dB, replicate → bJ, set_append_right → jG, set_cons_succ → aN, set_cons_zero → aM, take_append_drop → gJ, take_length → eX, take_of_length_le → fu, take_succ_eq_append_getElem → iq
open List.cons renaming injEq → jc
open Nat renaming add_assoc → kY, add_comm → iH, add_mul → dM, add_zero → fZ, div_add_mod → dG, div_eq_of_lt → fD, div_lt_iff_lt_mul → dz, eq_zero_or_pos → aY, le_of_lt → kM, le_of_not_lt → dJ, le_refl → aC, le_trans → au, lt_of_lt_of_le → aP, lt_or_ge → aH, min_eq_left → kU, mod_eq_of_lt → fQ, mod_lt → gH, mul_add → aX, mul_assoc → dA, mul_comm → aJ, mul_le_mul → fq, mul_le_mul_left → aT, mul_le_mul_right → aU, mul_left_comm → dN, mul_pos → gV, one_mul → iL, pow_add → gy, pow_le_pow_right → bW, pow_succ → bS, strongRecOn → gN, zero_add → dP
open Prod.mk renaming injEq → fP
namespace Go
abbrev Bw (w w':World):Prop:=RowKit.Below w.heap.size w w'
theorem zo {G:Prop} (h:G:=by omega):G:=h
theorem zk {G:Prop} (h:G:=by kernel_rfl):G:=h
theorem zd {G:Prop} (h:G:=by decide):G:=h
theorem zi {G:Prop} (h:G:=by simp):G:=h
theorem zh {G:Prop} (h:G):Go.RowKit.Hid G:=h
theorem zR {G:Prop} (h:G:=by exact uZ (by kernel_rfl)):G:=h
theorem zP {G:Prop} (h:G:=by exact fun _ _ _ _ hd h=>And.intro (hd.trans (And.left h)) (And.right h)):G:=h
theorem zS {G R:Prop} (r:R) (h:Go.RowKit.Hid R→G:=by intro r;(repeat (first|(apply Qj;(rfl);(rfl);(rfl);(intro J hJ;go_simp;(with_reducible refine hJ _ ?_);clear hJ J))|(apply Um;(rfl);(rfl);(rfl);(rfl);(exact zk);(intro J hJ;go_simp;(with_reducible refine hJ _ ?_);clear hJ J))|(apply Jk;(rfl);(rfl);(intro J hJ;go_simp;(with_reducible refine hJ _ ?_);clear hJ J))|(apply Qk;(rfl);(rfl);(rfl);(rfl);(intro J hJ;go_simp;(with_reducible refine hJ _ ?_);clear hJ J;try go_simp))));exact r.out):G:=h (zh r)
theorem zU {G R:Prop} (r:R) (h:Go.RowKit.Hid R→G:=by intro r;(first|(apply Qj;(rfl);(rfl);(rfl);(intro J hJ;go_simp;(with_reducible refine hJ _ ?_);clear hJ J))|(apply Um;(rfl);(rfl);(rfl);(rfl);(exact zk);(intro J hJ;go_simp;(with_reducible refine hJ _ ?_);clear hJ J))|(apply Jk;(rfl);(rfl);(intro J hJ;go_simp;(with_reducible refine hJ _ ?_);clear hJ J))|(apply Qk;(rfl);(rfl);(rfl);(rfl);(intro J hJ;go_simp;(with_reducible refine hJ _ ?_);clear hJ J;try go_simp)));exact r.out):G:=h (zh r)
theorem zT {G R:Prop} (r:R) (h:Go.RowKit.Hid R→G:=by intro r;(repeat (first|(apply aP7;(rfl);(rfl);(rfl);(intro J hJ;go_simp;(with_reducible refine hJ _ ?_);clear hJ J))|(apply aP8;(rfl);(rfl);(intro J hJ;go_simp;(with_reducible refine hJ _ ?_);clear hJ J))|(apply aP9;(rfl);(rfl);(rfl);(rfl);(intro J hJ;go_simp;(with_reducible refine hJ _ ?_);clear hJ J;try go_simp))));exact r.out):G:=h (zh r)
theorem zV {G R:Prop} (r:R) (h:Go.RowKit.Hid R→G:=by intro r;(repeat (first|(refine qD rfl rfl fun J h=>?_;go_simp;refine h _ ?_;clear h J)|(refine Ik rfl rfl rfl rfl fun J h=>?_;go_simp;refine h _ ?_;clear h J;try go_simp)));exact r.out):G:=h (zh r)
theorem zW {G R:Prop} (r:R) (h:Go.RowKit.Hid R→G:=by intro r;(repeat (first|(refine qD rfl rfl fun J h=>?_;go_simp;refine h _ ?_;clear h J)|(refine Ik rfl rfl rfl rfl fun J h=>?_;go_simp;refine h _ ?_;clear h J;try go_simp)|(refine Du rfl rfl fun J h=>?_;go_simp;refine h _ ?_;clear h J)|(refine Dv rfl rfl rfl rfl fun J h=>?_;go_simp;refine h _ ?_;clear h J;try go_simp)));exact r.out):G:=h (zh r)
theorem zM {G:Prop} (h:G:=by simp [intOf];omega):G:=h
end Go
namespace Go.Proofs.whole
open Go Go.RowKit
abbrev zq1:= @Tryz.func248
abbrev zq2:= @Tryz.ntmps248
abbrev zq3:= @Tryz.func232
abbrev zq4:= @Tryz.ntmps232
abbrev K6:Go.TypeId:=232
abbrev Lb:= @Tryz.underlying232
abbrev zq7:= @Tryz.func170
abbrev zq8:= @Tryz.ntmps170
abbrev zq9:= @Tryz.func244
abbrev Yx:= @Tryz.ntmps244
abbrev al9:= @Tryz.func172
abbrev al8:= @Tryz.ntmps172
abbrev al7:= @Tryz.func235
abbrev al6:= @Tryz.ntmps235
abbrev al5:= @Tryz.func245
abbrev al0:= @Tryz.ntmps245
abbrev ak9:= @Tryz.func246
abbrev ak8:= @Tryz.ntmps246
abbrev ak7:= @Tryz.func247
abbrev ak6:= @Tryz.ntmps247
abbrev Uj:= @Tryz.func171
abbrev Ui:= @Tryz.ntmps171
abbrev ak5:= @Tryz.func281
abbrev ak4:= @Tryz.ntmps281
abbrev Yw:= @Tryz.func234
abbrev Yv:= @Tryz.ntmps234
abbrev Yu:= @Tryz.func233
abbrev Yt:= @Tryz.ntmps233
abbrev ak3:= @Tryz.func165
abbrev ak2:= @Tryz.ntmps165
abbrev Jh:= @Tryz.underlying234
abbrev aB6:= @Tryz.func238
abbrev aB5:= @Tryz.ntmps238
end Go.Proofs.whole
namespace Go.Proofs.dZ
open Go Go.RowKit
abbrev zq1:= @Tryz.func161
abbrev zq2:= @Tryz.ntmps161
abbrev zq3:= @Tryz.func222
abbrev zq4:= @Tryz.ntmps222
abbrev K6:Go.TypeId:=84
abbrev Lb:= @Tryz.underlying84
abbrev zq7:= @Tryz.func138
abbrev zq8:= @Tryz.ntmps138
abbrev zq9:= @Tryz.func156
abbrev Yx:= @Tryz.ntmps156
abbrev al9:= @Tryz.func224
abbrev al8:= @Tryz.ntmps224
abbrev aC6:= @Tryz.func225
abbrev aC5:= @Tryz.ntmps225
abbrev al7:= @Tryz.func94
abbrev al6:= @Tryz.ntmps94
abbrev al5:= @Tryz.func159
abbrev al0:= @Tryz.ntmps159
abbrev aC4:= @Tryz.func157
abbrev aC3:= @Tryz.ntmps157
abbrev ak9:= @Tryz.func158
abbrev ak8:= @Tryz.ntmps158
abbrev ak7:= @Tryz.func160
abbrev ak6:= @Tryz.ntmps160
abbrev Uj:= @Tryz.func92
abbrev Ui:= @Tryz.ntmps92
abbrev ak5:= @Tryz.func226
abbrev ak4:= @Tryz.ntmps226
abbrev Yw:= @Tryz.func155
abbrev Yv:= @Tryz.ntmps155
abbrev Yu:= @Tryz.func153
abbrev Yt:= @Tryz.ntmps153
abbrev aC2:= @Tryz.func91
abbrev aC1:= @Tryz.ntmps91
abbrev ak3:= @Tryz.func93
abbrev ak2:= @Tryz.ntmps93
abbrev Jh:= @Tryz.underlying86
abbrev aC0:= @Tryz.func147
abbrev aB9:= @Tryz.ntmps147
abbrev aB8:= @Tryz.func150
abbrev aB7:= @Tryz.ntmps150
abbrev Yr:= @Tryz.func151
abbrev Yq:= @Tryz.ntmps151
abbrev ak1:= @Tryz.func154
abbrev ak0:= @Tryz.ntmps154
end Go.Proofs.dZ
namespace Go.Proofs.matrix
open Go Go.RowKit
abbrev zq1:= @Tryz.func212
abbrev zq2:= @Tryz.ntmps212
abbrev zq3:= @Tryz.func265
abbrev zq4:= @Tryz.ntmps265
abbrev K6:Go.TypeId:=201
abbrev Lb:= @Tryz.underlying201
abbrev zq7:= @Tryz.func211
abbrev zq8:= @Tryz.ntmps211
abbrev zq9:= @Tryz.func266
abbrev Yx:= @Tryz.ntmps266
abbrev al9:= @Tryz.func272
abbrev al8:= @Tryz.ntmps272
abbrev aC6:= @Tryz.func273
abbrev aC5:= @Tryz.ntmps273
abbrev al7:= @Tryz.func136
abbrev al6:= @Tryz.ntmps136
abbrev al5:= @Tryz.func267
abbrev al0:= @Tryz.ntmps267
abbrev aC4:= @Tryz.func270
abbrev aC3:= @Tryz.ntmps270
abbrev ak9:= @Tryz.func268
abbrev ak8:= @Tryz.ntmps268
abbrev ak7:= @Tryz.func269
abbrev ak6:= @Tryz.ntmps269
abbrev Uj:= @Tryz.func200
abbrev Ui:= @Tryz.ntmps200
abbrev ak5:= @Tryz.func271
abbrev ak4:= @Tryz.ntmps271
abbrev Yw:= @Tryz.func205
abbrev Yv:= @Tryz.ntmps205
abbrev Yu:= @Tryz.func203
abbrev Yt:= @Tryz.ntmps203
abbrev aC2:= @Tryz.func202
abbrev aC1:= @Tryz.ntmps202
abbrev ak3:= @Tryz.func135
abbrev ak2:= @Tryz.ntmps135
abbrev Jh:= @Tryz.underlying206
abbrev aC0:= @Tryz.func199
abbrev aB9:= @Tryz.ntmps199
abbrev aB8:= @Tryz.func201
abbrev aB7:= @Tryz.ntmps201
abbrev Yr:= @Tryz.func210
abbrev Yq:= @Tryz.ntmps210
abbrev ak1:= @Tryz.func204
abbrev ak0:= @Tryz.ntmps204
abbrev aB6:= @Tryz.func208
abbrev aB5:= @Tryz.ntmps208
end Go.Proofs.matrix
namespace Go.Num
def val (B:Nat):List Nat→Nat
 | []=>0
 | d::l=>d+B*val B l
def fV (B:Nat) (l:List Nat):Prop:=∀ d∈l,d<B
theorem fV.nil {B:Nat}:fV B []:=fun _ h=>by cases h
theorem fV.cons {B d:Nat} {l:List Nat} (h:d<B) (k:fV B l):fV B (d::l):=fun x hx=>by
 rcases List.mem_cons.1 hx with e|e
 ·rw [e];exact h
 ·exact k x e
theorem fV.head {B d:Nat} {l:List Nat} (h:fV B (d::l)):d<B:=h d zi
theorem fV.tail {B d:Nat} {l:List Nat} (h:fV B (d::l)):fV B l:=fun x hx=>h x (by simp [hx])
theorem fV.append {B:Nat} {l m:List Nat} (h:fV B l) (k:fV B m):fV B (l++m):=fun x hx=>by
 rcases List.mem_append.1 hx with e|e
 ·exact h x e
 ·exact k x e
theorem fV.snoc {B d:Nat} {l:List Nat} (h:fV B l) (k:d<B):fV B (l++[d]):=h.append (fV.nil.cons k)
theorem fV.take {B:Nat} {l:List Nat} (h:fV B l) (n:Nat):fV B (l.take n):=fun x hx=>h x (List.mem_of_mem_take hx)
theorem fV.drop {B:Nat} {l:List Nat} (h:fV B l) (n:Nat):fV B (l.drop n):=fun x hx=>h x (List.mem_of_mem_drop hx)
theorem fV.get {B:Nat} {l:List Nat} (h:fV B l) {i:Nat} (hi:i<l.length):l[i]<B:=h _ (dx hi)
theorem fV.getD {B:Nat} {l:List Nat} (h:fV B l) (hB:0<B) (i:Nat):l.getD i 0<B:=by
 by_cases hi:i<l.length
 ·simpa [hi] using h.get hi
 ·simpa [dJ hi] using hB
theorem val_append (B:Nat):∀ (l m:List Nat),val B (l++m)=val B l+B^l.length*val B m
 | [],m=>by simp [val]
 | d::l,m=>by
  simp only [bP,val,val_append B l m,aV,bS,aX,kY];rw [show B*(B^l.length*val B m)=B^l.length*B*val B m by rw [← dA,aJ B]]
theorem jy (B:Nat) (l:List Nat) (d:Nat):val B (l++[d])=val B l+B^l.length*d:=by
 rw [val_append];simp [val]
theorem xk (B n:Nat):val B (bJ n 0)=0:=by
 induction n with
 | zero=>rfl
 | succ n ih=>simp [List.replicate_succ,val,ih]
theorem jd {B:Nat} (hB:0<B):∀ {l:List Nat},fV B l→val B l<B^l.length
 | [],_=>by simp [val]
 | d::l,h=>by
  have h1:=jd hB h.tail;have h2:=h.head;simp only [val,aV,bS];have:B*(val B l+1)≤B*B^l.length:=aT B h1;rw [aJ (B^l.length) B];rw [aX] at this;omega
def d9 (B n:Nat):List Nat:=if _h:1<B∧0<n then n%B::d9 B (n / B) else []
termination_by n
decreasing_by exact Nat.div_lt_self _h.2 _h.1
theorem iA (B:Nat):d9 B 0=[]:=by unfold d9;simp
theorem mD {B n:Nat} (hB:1<B) (h:0<n):d9 B n=n%B::d9 B (n / B):=by rw [d9];simp [hB,h]
theorem bN {B:Nat} (hB:1<B) (n:Nat):val B (d9 B n)=n:=by
 induction n using gN with
 | _ n ih =>
  rcases aY n with h|h
  ·subst h;simp [iA,val]
  ·rw [mD hB h,val,ih _ (Nat.div_lt_self h hB)];exact Nat.mod_add_div n B
theorem dw {B:Nat} (hB:1<B) (n:Nat):fV B (d9 B n):=by
 induction n using gN with
 | _ n ih =>
  rcases aY n with h|h
  ·subst h;rw [iA];exact fV.nil
  ·rw [mD hB h];exact (ih _ (Nat.div_lt_self h hB)).cons (gH _ zo)
def Top (l:List Nat):Prop:=∀ k,l.length=k+1→l.getD k 0≠0
theorem Top.nil:Top []:=fun _ h=>by cases h
theorem Top.tail {d:Nat} {l:List Nat} (h:Top (d::l)):Top l:=fun k hk=>by
 have:=h (k+1) (by simp [hk])
 simpa using this
theorem Top.snoc {l:List Nat} {d:Nat} (h:d≠0):Top (l++[d]):=fun k hk=>by
 have:k=l.length:=by simp at hk;omega
 subst this;simpa using h
theorem Top.cons {d:Nat} {l:List Nat} (h:Top l) (hn:l≠[]):Top (d::l):=fun k hk=>by
 simp at hk
 cases k with
 | zero=>exact absurd (List.length_eq_zero_iff.1 hk) hn
 | succ k=>have:=h k hk;simpa using this
theorem pz {B n:Nat} (hB:1<B):d9 B n=[]↔n=0:=by
 constructor
 ·intro h
  rcases aY n with h0|h0
  ·exact h0
  ·rw [mD hB h0] at h;cases h
 ·rintro rfl;exact iA B
theorem oU {B:Nat} (hB:1<B) (n:Nat):Top (d9 B n):=by
 induction n using gN with
 | _ n ih =>
  rcases aY n with h|h
  ·subst h;rw [iA];exact Top.nil
  ·rw [mD hB h]
   by_cases h2:n / B=0
   ·rw [h2,iA];intro k hk;have:k=0:=by simp at hk;omega
    subst this;have:n<B:=(Nat.div_eq_zero_iff_lt zo).1 h2
    simpa [fQ this] using Nat.pos_iff_ne_zero.1 h
   ·exact (ih _ (Nat.div_lt_self h hB)).cons (fun e=>h2 ((pz hB).1 e))
theorem jA {B:Nat} (hB:0<B):∀ {l:List Nat},Top l→l≠[]→0<val B l
 | [],_,h=>absurd rfl h
 | [d],h,_=>by have:=h 0 rfl;simp [val] at this ⊢;omega
 | d::e::l,h,_=>by
  have:=jA hB h.tail zi;simp only [val] at this ⊢;have:0<B*(e+B*val B l):=gV hB this;omega
theorem FU {B:Nat} (hB:1<B):∀ {l:List Nat},fV B l→Top l→d9 B (val B l)=l
 | [],_,_=>by simp [val,iA]
 | d::l,hd,ht=>by
  have hp:=jA (B:=B) zo ht zi;rw [mD hB hp];simp only [val];have h1:(d+B*val B l)%B=d:=by rw [Nat.add_mul_mod_self_left];exact fQ hd.head
  have h2:(d+B*val B l) / B=val B l:=by
   rw [Nat.add_mul_div_left _ _ zo,fD hd.head,dP]
  rw [h1,h2,FU hB hd.tail ht.tail]
theorem lW {l:List Nat} {k:Nat} (h:k<l.length):l.take (k+1)=l.take k++[l.getD k 0]:=by
 rw [iq h];simp [h]
theorem dR (B:Nat) {l:List Nat} {k:Nat} (h:k<l.length):val B (l.take (k+1))=val B (l.take k)+B^k*l.getD k 0:=by
 rw [lW h,jy];simp [kU (kM h)]
def sz (B n:Nat):Nat:=(d9 B n).length
theorem xu (B:Nat):sz B 0=0:=by simp [sz,iA]
theorem jM {B:Nat} (hB:1<B) (n:Nat):n<B^sz B n:=by
 have:=jd zo (dw hB n)
 rwa [bN hB] at this
theorem dF {B:Nat} (hB:1<B):∀ (k n:Nat),n<B^k→sz B n≤k
 | 0,n,h=>by
  have:n=0:=by simpa using h
  subst this;simp [xu]
 | k+1,n,h=>by
  rcases aY n with h0|h0
  ·subst h0;simp [xu]
  ·unfold sz;rw [mD hB h0,aV]
   have:n / B<B^k:=by
    rw [dz zo]
    rwa [bS] at h
   have:=dF hB k (n / B) this;unfold sz at this;omega
theorem JH {B:Nat} (hB:1<B) {n k:Nat} (h:sz B n=k+1):B^k≤n:=by
 rcases aH n (B^k) with h1|h1
 ·have:=dF hB k n h1;omega
 ·exact h1
theorem iJ {B:Nat} (hB:1<B) {m n:Nat} (h:m≤n):sz B m≤sz B n :=
 dF hB _ _ (Nat.lt_of_le_of_lt h (jM hB n))
theorem AZ {B:Nat} (hB:1<B) (m n:Nat):sz B (m+n)≤max (sz B m) (sz B n)+1:=by
 refine dF hB _ _ ?_;have h1:=jM hB m;have h2:=jM hB n;have h3:B^sz B m≤B^max (sz B m) (sz B n):=bW zo (Nat.le_max_left _ _);have h4:B^sz B n≤B^max (sz B m) (sz B n):=bW zo (Nat.le_max_right _ _);rw [bS];have:B^max (sz B m) (sz B n)*2≤B^max (sz B m) (sz B n)*B:=aT _ hB;omega
theorem mR {B:Nat} (hB:1<B) (m n:Nat):sz B (m*n)≤sz B m+sz B n:=by
 refine dF hB _ _ ?_;rw [gy];exact Nat.mul_lt_mul'' (jM hB m) (jM hB n)
def trimLen (l:List Nat):Nat→Nat
 | 0=>0
 | n+1=>if l.getD n 0=0 then trimLen l n else n+1
theorem trimLen_le (l:List Nat):∀ n,trimLen l n≤n
 | 0=>aC _
 | n+1=>by
  unfold trimLen;split
  ·exact Nat.le_succ_of_le (trimLen_le l n)
  ·exact aC _
theorem zx (l:List Nat):∀ n,n≤l.length→Top (l.take (trimLen l n))
 | 0,_=>Top.nil
 | n+1,h=>by
  unfold trimLen;split
  ·exact zx l n zo
  ·rename_i h0;intro k hk;have:k=n:=by simp [kU h] at hk;omega
   subst this;rw [lW zo];have hl:(l.take k).length=k:=by simp;omega
   rw [cO,fC zo]
   simpa [hl] using h0
theorem zw (B:Nat) (l:List Nat):∀ n,n≤l.length→val B (l.take (trimLen l n))=val B (l.take n)
 | 0,_=>rfl
 | n+1,h=>by
  unfold trimLen;split
  ·rename_i h0;rw [zw B l n zo,dR B zo,h0];simp
  ·rfl
theorem xq {B:Nat} (hB:0<B) {l m:List Nat} {k:Nat} (hl:fV B l) (hk:k<l.length) (hk':k<m.length) (hd:l.drop (k+1)=m.drop (k+1)) (h:l.getD k 0<m.getD k 0):val B l<val B m:=by
 have e:∀ x:List Nat,k<x.length→val B x=val B (x.take k)+B^k*x.getD k 0+B^(k+1)*val B (x.drop (k+1)):=fun x hx=>by
  have h1:x=x.take (k+1)++x.drop (k+1):=(gJ _ _).symm;have h2:(x.take (k+1)).length=k+1:=by simp;omega
  conv=>lhs;rw [h1,val_append,h2,dR B hx]
 rw [e l hk,e m hk',hd];have h1:=jd hB (hl.take k);have h2:(l.take k).length=k:=by simp;omega
 rw [h2] at h1;have h3:B^k*(l.getD k 0+1)≤B^k*m.getD k 0:=aT _ h;rw [aX] at h3;omega
theorem wB {B:Nat} (hB:1<B) {a b:Nat} (h:sz B a<sz B b):a<b:=by
 rcases aH a b with h1|h1
 ·exact h1
 ·have:=iJ hB h1;omega
theorem kF {l:List Nat} {k:Nat} (h:k<l.length):l.drop k=l.getD k 0::l.drop (k+1):=by
 rw [List.drop_eq_getElem_cons h];simp [h]
theorem Oo {B:Nat} (hB:1<B) {l s:List Nat} (ht:Top l) (hs:fV B s) (hlen:s.length=l.length) (h:val B l≤val B s):Top s:=by
 intro k hk h0;have hk':l.length=k+1:=by omega
 have h1:=ht k hk'
 have h2:val B s<B^k:=by
  have e:s=s.take k++[s.getD k 0]:=by rw [← lW zo,← hk,eX]
  rw [e,h0,jy,Nat.mul_zero,fZ];have:=jd (by omega:0<B) (hs.take k)
  rwa [show (s.take k).length=k by simp;omega] at this
 have h3:B^k≤val B l:=by
  have e:l=l.take k++[l.getD k 0]:=by rw [← lW zo,← hk',eX]
  rw [e,jy,show (l.take k).length=k by simp;omega];have:B^k*1≤B^k*l.getD k 0:=aT _ zo;omega
 omega
theorem set_mid {s:List Nat} {n k d:Nat} (hs:s.length=k) (hk:k<n):(s++bJ (n - k) 0).set k d=(s++[d])++bJ (n - (k+1)) 0:=by
 obtain ⟨j,hj⟩:∃ j,n - k=j+1:=⟨n - k - 1,by omega⟩;rw [hj,show n - (k+1)=j by omega,List.replicate_succ,jG _ _ zo,hs,Nat.sub_self];simp
theorem WM {s:List Nat} {n k:Nat} (hs:s.length=k):(s++bJ n 0).getD k 0=0:=by
 rw [cO,fC zo,hs,Nat.sub_self];cases n<;>simp [List.replicate_succ]
theorem Fh {B:Nat} {l m s:List Nat} {k c d c':Nat} (hk:k<l.length) (hs:s.length=k) (he:val B s+val B (m.take k)=val B (l.take k)+c*B^k) (h:d+m.getD k 0+c=l.getD k 0+c'*B) :
  val B (s++[d])+val B (m.take (k+1))=val B (l.take (k+1))+c'*B^(k+1):=by
 have hm:val B (m.take (k+1))=val B (m.take k)+B^k*m.getD k 0:=by
  by_cases hkm:k<m.length
  ·exact dR B hkm
  ·rw [fu zo,fu zo];simp [dJ hkm]
 rw [jy,dR B hk,hm,hs,bS];have h2:=congrArg (B^k* ·) h;simp only [aX] at h2;rw [show c'*(B^k*B)=B^k*(c'*B) by rw [dN]];rw [aJ c (B^k)] at he;omega
theorem Jo (B:Nat):∀ (l:List Nat) (t x:Nat),t<l.length→val B (l.set t x)+B^t*l.getD t 0=val B l+B^t*x
 | [],_,_,h=>by cases h
 | a::l,0,x,_=>by simp [val];omega
 | a::l,t+1,x,h=>by
  have ih:=Jo B l t x (by simpa using h);simp only [aN,val,List.getD_cons_succ,bS];have h2:=congrArg (B* ·) ih;simp only [aX] at h2;rw [show B^t*B*l.getD t 0=B*(B^t*l.getD t 0) by rw [aJ (B^t) B,dA],show B^t*B*x=B*(B^t*x) by rw [aJ (B^t) B,dA]];omega
theorem fV.set {B:Nat} {l:List Nat} (h:fV B l) (t:Nat) {x:Nat} (hx:x<B):fV B (l.set t x):=fun y hy=>by
 rcases List.mem_or_eq_of_mem_set hy with e|e
 ·exact h y e
 ·rw [e];exact hx
theorem Df {l:List Nat} {t u x:Nat} (h:t≠u):(l.set t x).getD u 0=l.getD u 0:=by simp [List.getElem?_set_ne h]
theorem DF {B:Nat} {m p:List Nat} {i j c d V:Nat} (hj:j<m.length) (hp:i+j<p.length) (he:val B p+c*B^(i+j)=V+B^i*(d*val B (m.take j))) :
  val B (p.set (i+j) ((c+(p.getD (i+j) 0+d*m.getD j 0))%B))+(c+(p.getD (i+j) 0+d*m.getD j 0)) / B*B^(i+j+1)=V+B^i*(d*val B (m.take (j+1))):=by
 have h1:=Jo B p (i+j) ((c+(p.getD (i+j) 0+d*m.getD j 0))%B) hp;rw [dR B hj];generalize hX:c+(p.getD (i+j) 0+d*m.getD j 0)=X at *
 have h2:B^(i+j)*(X%B)+X / B*B^(i+j+1)=B^(i+j)*X:=by
  rw [bS,show X / B*(B^(i+j)*B)=B^(i+j)*(B*(X / B)) by rw [dN,aJ (X / B) B],← aX,Nat.mod_add_div]
 have h3:B^(i+j)*X=c*B^(i+j)+B^(i+j)*p.getD (i+j) 0+B^i*(d*(B^j*m.getD j 0)):=by
  rw [← hX,aX,aX,aJ c,gy];rw [show B^i*(d*(B^j*m.getD j 0))=B^i*B^j*(d*m.getD j 0) by rw [dA (B^i),dN d]];omega
 rw [aX d,aX (B^i)];omega
theorem BO {B c x d e:Nat} (hc:c<B) (hx:x<B) (hd:d<B) (he:e<B):(c+(x+d*e)) / B<B:=by
 rw [dz zo];have h1:d*e≤(B - 1)*(B - 1):=fq zo zo;obtain ⟨b,rfl⟩:∃ b,B=b+1:=⟨B - 1,by omega⟩;simp only [Nat.add_sub_cancel] at h1;have h2:(b+1)*(b+1)=b*b+2*b+1:=by simp only [dM,aX];omega
 omega
theorem BN {B:Nat} {l m p:List Nat} {i c:Nat} (hi:i<l.length) (hp:i+m.length<p.length) (hz:p.getD (i+m.length) 0=0)
  (he:val B p+c*B^(i+m.length)=val B (l.take i)*val B m+B^i*(l.getD i 0*val B m)):val B (p.set (i+m.length) c)=val B (l.take (i+1))*val B m:=by
 have h1:=Jo B p (i+m.length) c hp;rw [hz,Nat.mul_zero,fZ,aJ _ c] at h1;rw [h1,he,dR B hi,dM,dA]
theorem DN {B:Nat} {l s:List Nat} {j d r:Nat} (hj:j<l.length) (he:val B (l.drop (j+1))=d*val B s+r) :
  val B (l.drop j)=d*val B ((r*B+l.getD j 0) / d::s)+(r*B+l.getD j 0)%d:=by
 rw [kF hj];simp only [val];rw [he];have h:=dG (r*B+l.getD j 0) d;have e1:d*((r*B+l.getD j 0) / d+B*val B s)=d*((r*B+l.getD j 0) / d)+B*(d*val B s):=by rw [aX,dN]
 have e2:B*(d*val B s+r)=B*(d*val B s)+r*B:=by rw [aX,aJ B r]
 rw [e1,e2];omega
theorem BP {B d r x:Nat} (hr:r<d) (hx:x<B):(r*B+x) / d<B:=by
 rw [dz zo];have h:(r+1)*B≤d*B:=aU _ hr;rw [dM,iL] at h;rw [aJ B d];omega
theorem zD {s:List Nat} {k d:Nat}:(bJ (k+1) 0++s).set k d=bJ k 0++d::s:=by
 rw [List.replicate_succ',jP,jG _ _ zi];simp
theorem xG {s:List Nat} {k j:Nat} (h:j<k):(bJ k 0++s).getD j 0=0:=by
 rw [cO,eO (by simpa using h)];simp [h]
theorem uz {B:Nat} {l:List Nat} {j:Nat} (hj:j<l.length):val B (l.drop j)=val B (l.drop (j+1))*B+l.getD j 0:=by
 rw [kF hj];simp only [val];rw [aJ B,iH]
theorem BK (B:Nat) (hB:0<B):∀ (l:List Nat) (k:Nat),val B (l.drop k)≤val B l
 | [],k=>by simp
 | d::l,0=>by simp
 | d::l,k+1=>by
  have h:=BK B hB l k;have h2:val B l*1≤val B l*B:=aT _ hB;rw [List.drop_succ_cons];simp only [val];rw [aJ B];omega
theorem Jy {pre s u post:List Nat} {i j d:Nat} (hj:pre.length=j) (hs:s.length=i) (hi:i<u.length):(pre++(s++u.drop i)++post).set (j+i) d=pre++((s++[d])++u.drop (i+1))++post:=by
 rw [jP,jG _ _ zo,hj,Nat.add_sub_cancel_left,jP s,jG _ _ zo,hs,Nat.sub_self,kF hi,bP,aM];simp
theorem getD_in {s u:List Nat} {i t:Nat} (hs:s.length=i) (ht:i≤t):(s++u.drop i).getD t 0=u.getD t 0:=by
 rw [cO,fC zo,jw,hs,Nat.add_sub_cancel' ht,← cO]
end Go.Num
namespace Go.SW
open Go Go.RowKit
inductive K where
 | pure|read|alloc (cs:Array Value) (T:TypeId)|ext|fin
def K.jH:K→Bool
 | .alloc .. =>true
 | _=>false
def K.isFin:K→Bool
 | .fin=>true
 | _=>false
section
variable {P:Program} {ops:Array Oper} {Q:Exit→Act→World→Prop}
theorem nL {w w1 w2:World} (h:Bw w w1) (k:Bw w1 w2):Bw w w2 :=
 h.trans (k.mono h.size)
/-! ### The check on a region, by computation -/
def anc (ops:Array Oper):Nat→Nat→Nat→Bool
 | 0,_,_=>false
 | n+1,i,u=>match ops[i]? with
  | none=>false
  | some o=>o.after.any (fun e=>Region.binds .any e&&e.on == u) || o.after.any (fun e=>Region.binds .any e&&anc ops n e.on u)
def edge (ops:Array Oper) (i u:Nat):Bool:=match ops[i]? with
 | none=>false
 | some o=>o.after.any (fun e=>Region.binds .any e&&e.on == u)
def fwd (ops:Array Oper) (p q:Nat):Bool:=match ops[p]?, ops[q]? with
 | some x,some y =>
  (match y.dst with|some d=> !(x.looksAt ops).contains d&&x.dst != some d|none=>true) &&
  (match x.dst with|some d=> !(y.looksAt ops).contains d || edge ops q p|none=>true)
 | _,_=>false
def yJ (ops:Array Oper) (p:Nat):Bool:=match ops[p]? with
 | some x=>(match x.dst with|some d=> !(x.looksAt ops).contains d|none=>true)
 | none=>false
theorem uQ {s a:Act} {o:Oper} (hs:∀ cs b,o.op≠ .select cs b) (h:∀ t,t∈o.looksAt ops→s.tmps[t]? =a.tmps[t]?):execOp s.eval o=execOp a.eval o :=
 execOp_congr o hs fun x hx=>by
  cases x with
  | tmp t =>
   have:=h t (List.mem_append_left _ (List.mem_filterMap.2 ⟨.tmp t,by simpa using hx,rfl⟩));simp only [Act.eval,ji, this]
  | const v=>rfl
  | global g=>rfl
  | func f=>rfl
theorem pY {s a:Act} {o:Oper} (h:∀ t,t∈o.looksAt ops→s.tmps[t]? =a.tmps[t]?):Region.wanted o (yielded ops s.tmps)=Region.wanted o (yielded ops a.tmps):=by
 unfold Region.wanted;cases hg:o.guard with
 | none=>rfl
 | some gw =>
  obtain ⟨g,want⟩:=gw
  have hy:yielded ops s.tmps g=yielded ops a.tmps g:=by
   unfold yielded;cases ht:(ops[g]?).bind (·.dst) with
   | none=>rfl
   | some t =>
    have:=h t (by simp [Oper.looksAt,hg,ht]);simp [this]
  simp only [hy]
theorem Dq {i:Nat} {o:Oper} {s a:Act} {w:World} {K K':Act→World→Prop} (hi:ops[i]? =some o) (hs:∀ cs b,o.op≠ .select cs b)
  (hl:∀ t,t∈o.looksAt ops→s.tmps[t]? =a.tmps[t]?) (hd:s.defers=a.defers)
  (hQ:∀ c (a s:Act) w,s.defers=a.defers→Q (.panic c) a w→Q (.panic c) s w)
  (hK:∀ ds v w',K (({ a with defers:=ds }:Act).put o.dst v) w'→K' (({ s with defers:=ds }:Act).put o.dst v) w')
  (h:wpOp P ops Q i K a w):wpOp P ops Q i K' s w:=by
 have hev:=uQ hs hl;have hw:=pY (ops:=ops) hl
 have hK0:∀ v w',K (a.put o.dst v) w'→K' (s.put o.dst v) w':=fun v w' hk=>by
  have:=hK a.defers v w' hk;rw [← hd] at this;exact this
 unfold wpOp at *;simp only [hi] at *;rw [hw];split
 ·rename_i hwt;simp only [hwt,if_true] at h
  rcases h with h|⟨hasks,hlets⟩
  case inr=>exact .inr ⟨by unfold Oper.asks at*; rw [hev];exact hasks,hlets⟩
  refine .inl ?_;unfold Oper.wp at *;rw [hev];generalize (execOp a.eval o).run P w=r at *;cases r with
  | ok n w' =>
   cases n<;>simp only [Oper.upon] at h ⊢
   case value u=>exact hK0 _ _ h
   case skip=>exact hK0 _ _ h
   case defer d=>rw [hd];exact hK _ _ _ h
   case enter f args =>
    refine Calls.mono h fun e w'' he=>?_;cases e with
    | returned u=>exact hK0 _ _ he
    | panicked c=>exact hQ _ _ _ _ hd he
    | outgrown=>exact he
   case row row args=>exact Rows.mono h fun u w'' he=>hK0 _ _ he
  | halt x w' =>
   cases x<;>simp only [Oper.upon] at h ⊢
   case panic u=>exact hQ _ _ _ _ hd h
 ·rename_i hwt;simp only [hwt,if_false,cK] at h;exact hK0 _ _ h
def rM (ops:Array Oper) (i:Nat):Option Tmp:=(ops[i]?).bind (·.dst)
theorem gW {i:Nat} {o:Oper} (h:ops[i]? =some o):rM ops i=o.dst:=by simp [rM,h]
theorem nX {p q:Nat} {x y:Oper} (hx:ops[p]? =some x) (hy:ops[q]? =some y) (h:fwd ops p q=true) :
  (∀ d,y.dst=some d→d∉x.looksAt ops∧x.dst≠some d)∧(∀ d,x.dst=some d→d∈y.looksAt ops→edge ops q p=true):=by
 unfold fwd at h;simp only [hx,hy,aF] at h;refine ⟨fun d hd=>?_,fun d hd hm=>?_⟩
 ·have h1:=h.1;simp only [hd,aF,jO,bne_iff_ne,ne_eq] at h1;exact ⟨by simpa using h1.1,h1.2⟩
 ·have h2:=h.2;simp only [hd,Bool.or_eq_true,jO] at h2
  rcases h2 with h2|h2
  ·simp [hm] at h2
  ·exact h2
theorem xH {q p:Nat} {y:Oper} (hy:ops[q]? =some y) (h:edge ops q p=true):∃ e∈y.after,Region.binds .any e=true∧e.on=p:=by
 unfold edge at h;simp only [hy] at h;obtain ⟨e,he,hb⟩:=Array.any_eq_true'.1 h;simp only [aF,beq_iff_eq] at hb;exact ⟨e,he,hb.1,hb.2⟩
def Closed (ops:Array Oper) (listed:Array Bool):Prop:=∀ j o,ops[j]? =some o→listed.getD j false=true→∀ e∈o.after,Region.binds .any e=true→listed.getD e.on false=true
theorem Gb {listed:Array Bool} (hc:Closed ops listed):∀ (n i u:Nat),anc ops n i u=true→(∀ o,ops[i]? =some o→∀ e∈o.after,Region.binds .any e=true→listed.getD e.on false=true)→listed.getD u false=true
 | 0,_,_,h,_=>by simp [anc] at h
 | n+1,i,u,h,hr=>by
  unfold anc at h;cases ho:ops[i]? with
  | none=>simp only [ho] at h;cases h
  | some o =>
   simp only [ho,Bool.or_eq_true] at h
   rcases h with h|h
   ·obtain ⟨e,he,hb⟩:=Array.any_eq_true'.1 h;simp only [aF,beq_iff_eq] at hb;exact hb.2 ▸ hr o ho e he hb.1
   ·obtain ⟨e,he,hb⟩:=Array.any_eq_true'.1 h;simp only [aF] at hb;have hl:=hr o ho e he hb.1;exact Gb hc n e.on u hb.2 fun o' ho' e' he' hb'=>hc e.on o' ho' hl e' he' hb'
theorem uW {listed:Array Bool} {r:Nat} {o:Oper} (hc:Closed ops listed) (hr:ops[r]? =some o) (aU9:∀ e∈o.after,Region.binds .any e=true→listed.getD e.on false=true) :
  Closed ops (listed.setIfInBounds r true):=by
 intro j oj hj hl e he hb;refine getD_set_true ?_
 by_cases h:r=j
 ·subst h;rw [hr] at hj;cases hj;exact aU9 e he hb
 ·rw [getD_set_ne false h] at hl;exact hc j oj hj hl e he hb
theorem nS (a:Act) {x:Option Tmp} {t:Tmp} (v:Value) (h:x≠some t):(a.put x v).tmps[t]? =a.tmps[t]? :=by
 cases x with
 | none=>rfl
 | some d =>
  have:d≠t:=fun e=>h (by rw [e]);simp [Act.put,Array.getElem?_setIfInBounds_ne this]
theorem put_eq (a:Act) {t:Tmp} (v:Value) (h:t<a.tmps.size):(a.put (some t) v).tmps[t]? =some v:=by
 simp [Act.put,h]
theorem iw (a:Act) (x:Option Tmp) (v:Value):(a.put x v).tmps.size=a.tmps.size:=by
 cases x<;>simp [Act.put]
theorem nH (a:Act) (x:Option Tmp) (v:Value):(a.put x v).defers=a.defers:=by cases x<;>rfl
def compat (ops:Array Oper) (x y:Nat):Prop :=
 (∀ d,rM ops x=some d→rM ops y≠some d)∧(∀ d o,rM ops x=some d→ops[y]? =some o→d∈o.looksAt ops→edge ops y x=true)
theorem kZ {p q:Nat} (h:fwd ops p q=true):compat ops p q∧compat ops q p:=by
 unfold fwd at h;cases hx:ops[p]? with
 | none=>simp [hx] at h
 | some x =>
  cases hy:ops[q]? with
  | none=>simp [hx,hy] at h
  | some y =>
   have hf:fwd ops p q=true:=by unfold fwd;simpa [hx,hy] using h
   obtain ⟨h1,h2⟩:=nX hx hy hf;refine ⟨⟨fun d hd hd'=>?_,fun d o hd ho hm=>?_⟩,⟨fun d hd hd'=>?_,fun d o hd ho hm=>?_⟩⟩
   ·rw [gW hx] at hd;rw [gW hy] at hd';exact (h1 d hd').2 hd
   ·rw [hy] at ho;cases ho;rw [gW hx] at hd;exact h2 d hd hm
   ·rw [gW hy] at hd;rw [gW hx] at hd';exact (h1 d hd).2 hd'
   ·rw [hx] at ho;cases ho;rw [gW hy] at hd;exact absurd hm (h1 d hd).1
theorem iC {listed:Array Bool} {r:Nat} (hr:r∈Region.ready .any ops listed):∃ o,ops[r]? =some o∧listed.getD r true=false∧∀ e∈o.after,Region.binds .any e=true→listed.getD e.on false=true:=by
 obtain ⟨h0,o,ho,h⟩:=mem_ready.1 hr;exact ⟨o,ho,h0,h⟩
theorem getD_both {listed:Array Bool} {i:Nat} (h:listed.getD i true=false):listed.getD i false=false:=by
 rcases aH i listed.size with h'|h'
 ·simpa [h'] using h
 ·simp [bQ h'] at h
theorem qp {listed:Array Bool} {r i:Nat} (hi:i<listed.size):(listed.setIfInBounds r true).getD i true=false↔listed.getD i true=false∧i≠r:=by
 by_cases h:r=i
 ·subst h;simp [hi]
 ·rw [getD_set_ne true h];exact ⟨fun x=>⟨x,fun e=>h e.symm⟩,fun x=>x.1⟩
def ordered (ops:Array Oper):Bool:=(dB ops.size).all fun i=>match ops[i]? with
 | some o=>o.after.all (fun e=> !Region.binds .any e || e.on<i)
 | none=>true
theorem PU {listed:Array Bool} (ho:ordered ops=true) (hsz:listed.size=ops.size) (hr:Region.ready .any ops listed=[]):∀ i,i<ops.size→listed.getD i true=true:=by
 intro i
 induction i using gN with
 | _ i ih =>
  intro hi;cases hl:listed.getD i true with
  | true=>rfl
  | false =>
   exfalso
   have ho':ops[i]? =some ops[i]:=by simp [hi]
   have hmem:i∈Region.ready .any ops listed:=mem_ready.2 ⟨hl,ops[i],ho',fun e he hb=>by
    unfold ordered at ho;have h1:=List.all_eq_true.1 ho i (List.mem_range.2 hi);simp only [ho'] at h1;have h2:=Array.all_eq_true_iff_forall_mem.1 h1 e he;simp only [hb,Bool.not_true,Bool.false_or,decide_eq_true_eq] at h2;have h3:=ih e.on h2 zo;have:e.on<listed.size:=by omega
    simpa [this] using h3⟩
   rw [hr] at hmem;cases hmem
def Led (ops:Array Oper):Prop:=∀ (listed:Array Bool),listed.size=ops.size→Region.ready .any ops listed=[]→∀ i,i<ops.size→listed.getD i true=true
theorem aq6 (ho:ordered ops=true):Led ops:=fun _ hsz hr=>PU ho hsz hr
theorem Ry {s a:Act} (hd:s.defers=a.defers) (h:∀ t:Nat,s.tmps[t]? =a.tmps[t]?):s=a:=by
 obtain ⟨t,d⟩:=s;obtain ⟨t',d'⟩:=a;simp only at hd h;rw [hd,Array.ext_getElem? h]
def K.isPure:K→Bool
 | .pure=>true
 | _=>false
def nU (ops:Array Oper) (x q:K × Nat):Bool:=if q.1.isFin then (anc ops ops.size q.2 x.2 || (x.1.isPure&&fwd ops x.2 q.2)) else fwd ops x.2 q.2
def blocked (ops:Array Oper) (i:Nat) (is:List (K × Nat)) (q:K × Nat):Bool:=q.1.jH || edge ops q.2 i || is.any (fun r=> !r.1.jH&&edge ops q.2 r.2)
def kC (ops:Array Oper):List (K × Nat)→Bool
 | []=>true
 | (k,i)::is=>(match k with
  | .pure| .read=>yJ ops i&&is.all (nU ops (k,i))
  | .alloc .. =>is.all (nU ops (k,i))&&is.all (blocked ops i is)
  | .ext=>is.all (nU ops (k,i))&&is.all (blocked ops i is)
  | .fin=>is.all (·.1.isFin)&&is.all (blocked ops i is))&&(ops[i]?).isSome&&kC ops is
def check (ops:Array Oper) (is:List (K × Nat)):Bool :=
 Region.noSelect ops&&ordered ops&&kC ops is&&decide (is.map (·.2)).Nodup&&decide (is.length≤ops.size)&&(dB ops.size).all (fun i=>(is.map (·.2)).contains i)
theorem iG {listed:Array Bool} {q r:Nat} (hr:q∈Region.ready .any ops listed) (he:edge ops q r=true) (hun:listed.getD r true=false):False:=by
 obtain ⟨o,ho,_,hall⟩:=iC hr;obtain ⟨e,h1,h2,h3⟩:=xH ho he;have:=hall e h1 h2;rw [h3,getD_both hun] at this;cases this
theorem zH {listed:Array Bool} {q:Nat} (hr:q∈Region.ready .any ops listed):q<ops.size:=by
 obtain ⟨o,ho,_⟩:=iC hr;exact (Array.getElem?_eq_some_iff.1 ho).1
def uj (P:Program) (ops:Array Oper) (is:List (K × Nat)):Prop :=
 ∀ cs T j,(K.alloc cs T,j)∈is→∀ o,ops[j]? =some o→o.guard=none∧∀ ρ w,(execOp ρ o).run P w= .ok (.value (ay (some ⟨w.heap.size,0,none⟩))) (w.alloc (.cells cs T (0,0)))
structure Early (ops:Array Oper) (N:Nat) (is:List (K × Nat)) (A:List Nat) (E:List (Nat × Nat)) (s a:Act) (w:World):Prop where
 good:∀ p∈E,∃ cs T,(K.alloc cs T,p.1)∈is∧w.heap[p.2]? =some (.cells cs T (0,0))∧N≤p.2∧p.2<w.heap.size∧p.2∉A
 dist:∀ p∈E,∀ q∈E,p.1≠q.1→p.2≠q.2
 slot:∀ p∈E,∀ d,rM ops p.1=some d→d<a.tmps.size→s.tmps[d]? =some (.pointer (some ⟨p.2,0,none⟩))
 old:∀ x∈A,x<w.heap.size
 base:N≤w.heap.size
def gu (is:List (K × Nat)) (E:List (Nat × Nat)):Nat:=(is.filter (fun x=> !(E.map (·.1)).contains x.2)).length
theorem sK (is:List (K × Nat)):gu is []=is.length:=by
 unfold gu;rw [List.filter_eq_self.2 zi]
theorem xY:∀ (is:List (K × Nat)),kC ops is=true→∀ x∈is,∀ y∈is,x.1.jH=true→y.1.jH=true→x.2≠y.2→compat ops x.2 y.2
 | [],_,_,hx,_,_,_,_,_=>by cases hx
 | (k,i)::is,h,x,hx,y,hy,hxa,hya,hne=>by
  unfold kC at h;have hrest:kC ops is=true:=by simp only [aF] at h;exact h.2
  have key:∀ y∈is,k.jH=true→y.1.jH=true→fwd ops i y.2=true:=fun y hy hk hya=>by
   have hp:is.all (nU ops (k,i))=true:=by
    cases k<;>simp [K.jH] at hk
    simp only [aF] at h;exact h.1.1.1
   have h2:=List.all_eq_true.1 hp y hy;unfold nU at h2;have hf:y.1.isFin=false:=by cases hk:y.1<;>simp [K.jH,K.isFin,hk] at hya ⊢
   simpa [hf] using h2
  rcases List.mem_cons.1 hx with hx|hx<;>rcases List.mem_cons.1 hy with hy|hy
  ·subst hx hy;exact absurd rfl hne
  ·subst hx;exact (kZ (key y hy hxa hya)).1
  ·subst hy;exact (kZ (key x hx hya hxa)).2
  ·exact xY is hrest x hx y hy hxa hya hne
/-! ### The steps -/
def IU (ops:Array Oper) (j:Nat) (T:TypeId):Bool:=match ops[j]? with
 | some o=>(match o.op with| .alloc T'=>T' == T| _=>false)&&o.guard.isNone
 | none=>false
def xI (P:Program) (T:TypeId):Option (Array Value):=((P.info? T).bind (·.zero)).map Value.cells
def probe (P:Program) (ops:Array Oper):K × Nat→Bool × Option (Array Value)
 | (.alloc _ T,j)=>(IU ops j T,xI P T)
 | _=>(true,none)
def want:K × Nat→Bool × Option (Array Value)
 | (.alloc cs _,_)=>(true,some cs)
 | _=>(true,none)
theorem uZ {is:List (K × Nat)} (h:is.map (probe P ops)=is.map want):uj P ops is:=by
 intro cs T j hj o ho
 have h1:probe P ops (.alloc cs T,j)=want (.alloc cs T,j):=by
  induction is with
  | nil=>cases hj
  | cons x xs ih =>
   simp only [bH,jc] at h
   rcases List.mem_cons.1 hj with hj|hj
   ·rw [hj];exact h.1
   ·exact ih h.2 hj
 simp only [probe,want,fP] at h1;obtain ⟨h2,h3⟩:=h1;unfold IU at h2;simp only [ho,aF] at h2;obtain ⟨h4,h5⟩:=h2;refine ⟨by simpa using h5,fun ρ w=>?_⟩;obtain ⟨dst,op,ty,pos,after,guard⟩:=o;cases op<;>simp at h4
 case alloc T' =>
  subst h4;unfold xI at h3;cases hi:P.info? T' with
  | none=>simp [hi] at h3
  | some i =>
   cases hz:i.zero with
   | none=>simp [hi,hz] at h3
   | some z =>
    simp [hi,hz] at h3
    subst h3;simp [execOp,Instr.alloc,zeroValue,typeInfo,hi,hz,newVar,newRow,newObj]
    rfl
end
end Go.SW
namespace Go.Ic
open Go Go.RowKit Go.SW
structure Lax (N:Nat) (dO:World→World→Prop):Prop where
 refl:∀ w,dO w w
 trans:∀ {a b c:World},dO a b→dO b c→dO a c
 of:∀ {w w':World},Bw w w'→dO w w'
 size:∀ {w w':World},dO w w'→w.heap.size≤w'.heap.size
 block:∀ {w w':World},dO w w'→∀ b,N≤b→b<w.heap.size→w'.heap[b]? =w.heap[b]?
section
variable (dO:World→World→Prop) (P:Program) (ops:Array Oper) (Q:Exit→Act→World→Prop)
def walk (N:Nat):List (K × Nat)→List Nat→Act→World→Prop
 | [],_,a,w=>∀ w',Bw w w'→Q .normal a w'
 | (k,i)::is,A,a,w =>
  match ops[i]? with
  | none=>False
  | some o =>
   match k with
   | .pure=>if Region.wanted o (yielded ops a.tmps) then ∃ v,(∀ w',(execOp a.eval o).run P w'= .ok (.value v) w')∧walk N is A (a.put o.dst v) w else walk N is A (a.put o.dst undef) w
   | .read=>if Region.wanted o (yielded ops a.tmps) then ∃ v,(∀ w',dO w w'→(execOp a.eval o).run P w'= .ok (.value v) w')∧walk N is A (a.put o.dst v) w else walk N is A (a.put o.dst undef) w
   | .alloc cs T=>∀ b w',Bw w w'→N≤b→b<w'.heap.size→b∉A→w'.heap[b]? =some (.cells cs T (0,0))→walk N is (b::A) (a.put o.dst (ay (some ⟨b,0,none⟩))) w'
   | .ext=>if Region.wanted o (yielded ops a.tmps) then ∀ w',Bw w w'→o.wp P a w' (fun a' w''=>dO w' w''∧walk N is A a' w'') Q else walk N is A (a.put o.dst undef) w
   | .fin=>∀ w',Bw w w'→wpOps P ops Q (i::is.map (·.2)) a w'
end
section
variable {dO:World→World→Prop} {P:Program} {ops:Array Oper} {Q:Exit→Act→World→Prop}
theorem qz {N:Nat} (hZ:Lax N dO):∀ (is:List (K × Nat)) (A:List Nat) (a:Act) (w w1:World),Bw w w1→walk dO P ops Q N is A a w→walk dO P ops Q N is A a w1
 | [],_,_,_,_,hb,h=>fun w' hw'=>h w' (nL hb hw')
 | (k,i)::is,A,a,w,w1,hb,h=>by
  unfold walk at h ⊢;cases ho:ops[i]? with
  | none=>simp only [ho] at h
  | some o =>
   simp only [ho] at h ⊢;cases k with
   | pure =>
    simp only at h ⊢;split at h
    ·rename_i hw;obtain ⟨v,h1,h2⟩:=h;simp only [hw,if_true];exact ⟨v,h1,qz hZ is _ _ _ _ hb h2⟩
    ·rename_i hw;simp only [hw,if_false,cK];exact qz hZ is _ _ _ _ hb h
   | read =>
    simp only at h ⊢;split at h
    ·rename_i hw;obtain ⟨v,h1,h2⟩:=h;simp only [hw,if_true];exact ⟨v,fun w' hw'=>h1 w' (hZ.trans (hZ.of hb) hw'),qz hZ is _ _ _ _ hb h2⟩
    ·rename_i hw;simp only [hw,if_false,cK];exact qz hZ is _ _ _ _ hb h
   | alloc cs T=>exact fun b w' hw'=>h b w' (nL hb hw')
   | ext =>
    simp only at h ⊢;split at h
    ·rename_i hw;simp only [hw,if_true];exact fun w' hw'=>h w' (nL hb hw')
    ·rename_i hw;simp only [hw,if_false,cK];exact qz hZ is _ _ _ _ hb h
   | fin=>exact fun w' hw'=>h w' (nL hb hw')
def KL (dO:World→World→Prop) (P:Program) (ops:Array Oper) (u:Bool × Nat) (a:Act) (w:World):Prop :=
 ∃ o,ops[u.2]? =some o∧∃ v,(∀ d,o.dst=some d→d<a.tmps.size→a.tmps[d]? =some v) ∧
  ((Region.wanted o (yielded ops a.tmps)=true∧∀ w',(u.1=false→dO w w')→(execOp a.eval o).run P w'= .ok (.value v) w') ∨
   (Region.wanted o (yielded ops a.tmps)=false∧v=undef))
theorem KL.put {u:Bool × Nat} {a:Act} {w:World} (hs:Region.noSelect ops=true) (h:KL dO P ops u a w) {x:Option Tmp} (v:Value)
  (hx:∀ o,ops[u.2]? =some o→∀ d,x=some d→d∉o.looksAt ops∧o.dst≠some d):KL dO P ops u (a.put x v) w:=by
 obtain ⟨o,ho,v',h1,h2⟩:=h;have hl:∀ t,t∈o.looksAt ops→(a.put x v).tmps[t]? =a.tmps[t]? :=fun t ht=>nS a v fun e=>(hx o ho t e).1 ht;have hsel:=fun cs b=>Region.noSelect_spec hs u.2 o cs b ho;refine ⟨o,ho,v',fun d hd hlt=>?_,?_⟩
 ·rw [nS a v fun e=>(hx o ho d e).2 hd];exact h1 d hd (by rwa [iw] at hlt)
 ·rw [pY hl,uQ hsel hl];exact h2
theorem KL.later {N:Nat} (hZ:Lax N dO) {u:Bool × Nat} {a:Act} {w w1:World} (h:KL dO P ops u a w) (hb:u.1=false→dO w w1):KL dO P ops u a w1:=by
 obtain ⟨o,ho,v',h1,h2⟩:=h;exact ⟨o,ho,v',h1,h2.imp (fun ⟨x,y⟩=>⟨x,fun w' hw'=>y w' fun hu=>hZ.trans (hb hu) (hw' hu)⟩) id⟩
structure Inv (dO:World→World→Prop) (P:Program) (ops:Array Oper) (L:List Nat) (U:List (Bool × Nat)) (E:List (Nat × Nat)) (listed:Array Bool) (s a:Act) (w:World):Prop where
 size:listed.size=ops.size
 Jp:∀ i,i<ops.size→(listed.getD i true=false↔(i∈L∧i∉E.map (·.1))∨i∈U.map (·.2))
 closed:Closed ops listed
 defers:s.defers=a.defers
 Qn:s.tmps.size=a.tmps.size
 agree:∀ t,(∀ u∈U,rM ops u.2≠some t)→(∀ p∈E,rM ops p.1≠some t)→s.tmps[t]? =a.tmps[t]?
 pend:∀ u∈U,KL dO P ops u a w
 Dw:∀ u∈U,yJ ops u.2=true
 uu:∀ u∈U,∀ v∈U,u.2≠v.2→compat ops u.2 v.2
 ue:∀ u∈U,∀ p∈E,fwd ops u.2 p.1=true
theorem BQ {N:Nat} (hZ:Lax N dO) {L:List Nat} {U:List (Bool × Nat)} {E:List (Nat × Nat)} {listed:Array Bool} {s a:Act} {w:World} (hs:Region.noSelect ops=true) (bI:Inv dO P ops L U E listed s a w) {r:Nat}
  (hr:r∈Region.ready .any ops listed) (hU:r∈U.map (·.2)) {K:Act→World→Prop}
  (hL:r∉L∨r∈E.map (·.1))
  (hK:∀ v,Inv dO P ops L (U.filter (fun u=>u.2 != r)) E (listed.setIfInBounds r true) (s.put (rM ops r) v) a w→K (s.put (rM ops r) v) w):wpOp P ops Q r K s w:=by
 obtain ⟨u,hu,rfl⟩:=List.mem_map.1 hU;obtain ⟨o,ho,hun,hall⟩:=iC hr;obtain ⟨o',ho',v,hv,hrun⟩:=bI.pend u hu;rw [ho] at ho';cases ho';have hsel:=fun cs b=>Region.noSelect_spec hs u.2 o cs b ho;have hself:=bI.Dw u hu
 have IV:∀ t,t∈o.looksAt ops→s.tmps[t]? =a.tmps[t]? :=fun t ht=>by
  refine bI.agree t (fun u' hu' hd=>?_) (fun p hp hd=>?_)
  ·by_cases he:u'.2=u.2
   ·rw [he,gW ho] at hd;unfold yJ at hself;simp only [ho,hd] at hself;simp [ht] at hself
   ·have hc:=(bI.uu u' hu' u hu he).2 t o hd ho ht;obtain ⟨e,he1,he2,he3⟩:=xH ho hc;have hl:=hall e he1 he2;rw [he3] at hl
    have hlt:u'.2<ops.size:=by
     obtain ⟨o2,h2,_⟩:=bI.pend u' hu';exact (Array.getElem?_eq_some_iff.1 h2).1
    have:=(bI.Jp u'.2 hlt).2 (.inr (List.mem_map.2 ⟨u',hu',rfl⟩));rw [getD_both this] at hl;cases hl
  ·have hf:=bI.ue u hu p hp;cases hy:ops[p.1]? with
   | none=>simp [rM,hy] at hd
   | some y=>exact ((nX ho hy hf).1 t (by rw [gW hy] at hd;exact hd)).1 ht
 have hev:=uQ hsel IV;have hwt:=pY (ops:=ops) IV
 have hI:Inv dO P ops L (U.filter (fun x=>x.2 != u.2)) E (listed.setIfInBounds u.2 true) (s.put o.dst v) a w:=by
  refine ⟨by simpa using bI.size,fun i hi=>?_,uW bI.closed ho hall,by rw [nH];exact bI.defers,by rw [iw];exact bI.Qn,fun t h1 h2=>?_,fun x hx=>bI.pend x (List.mem_filter.1 hx).1,
   fun x hx=>bI.Dw x (List.mem_filter.1 hx).1,fun x hx y hy hne=>bI.uu x (List.mem_filter.1 hx).1 y ((List.mem_filter.1 hy).1) hne,fun x hx p hp=>bI.ue x (List.mem_filter.1 hx).1 p hp⟩
  ·rw [qp (by rw [bI.size];exact hi),bI.Jp i hi]
   constructor
   ·rintro ⟨h|h,hne⟩
    ·exact .inl h
    ·obtain ⟨x,hx,rfl⟩:=List.mem_map.1 h;exact .inr (List.mem_map.2 ⟨x,List.mem_filter.2 ⟨hx,by simpa using hne⟩,rfl⟩)
   ·rintro (h|h)
    ·refine ⟨.inl h,?_⟩;rintro rfl
     rcases hL with hL|hL
     ·exact hL h.1
     ·exact h.2 hL
    ·obtain ⟨x,hx,rfl⟩:=List.mem_map.1 h;obtain ⟨hx1,hx2⟩:=List.mem_filter.1 hx;exact ⟨.inr (List.mem_map.2 ⟨x,hx1,rfl⟩),by simpa using hx2⟩
  ·by_cases hd:o.dst=some t
   ·by_cases hlt:t<a.tmps.size
    ·rw [hd,put_eq _ _ (by rw [bI.Qn];exact hlt),hv t hd hlt]
    ·rw [bQ (by rw [iw,bI.Qn];exact dJ hlt),bQ (dJ hlt)]
   ·rw [nS _ _ hd];refine bI.agree t (fun x hx=>?_) h2
    by_cases he:x.2=u.2
    ·rw [he,gW ho];exact hd
    ·exact h1 x (List.mem_filter.2 ⟨hx,by simpa using he⟩)
 rw [gW ho] at hK;have hKv:=hK _ hI;unfold wpOp;simp only [ho];rw [hwt]
 rcases hrun with ⟨hw1,hw2⟩|⟨hw1,rfl⟩
 ·simp only [hw1,if_true];refine .inl ?_;unfold Oper.wp;rw [hev,hw2 w fun _=>hZ.refl _];exact hKv
 ·simp only [hw1,cK,if_false];exact hKv
theorem IC {N:Nat} (hZ:Lax N dO) (hs:Region.noSelect ops=true) (Wp:Led ops)
  (hQ:∀ c (a s:Act) w,s.defers=a.defers→Q (.panic c) a w→Q (.panic c) s w) :
  ∀ (fuel:Nat) (is:List (K × Nat)) (U:List (Bool × Nat)) (listed:Array Bool) (s a:Act) (w:World),
   is.length+U.length≤fuel→Inv dO P ops (is.map (·.2)) U [] listed s a w→kC ops is=true→is.all (·.1.isFin)=true→(is.map (·.2)).Nodup →
   (∀ u∈U,u.2∉is.map (·.2))→(∀ u∈U,∀ q∈is,nU ops (if u.1 then .pure else .read,u.2) q=true) →
   wpOps P ops Q (is.map (·.2)) a w→wpAny P .any ops Q fuel listed s w:=by
 intro fuel
 induction fuel with
 | zero =>
  intro is U listed s a w hm bI hok hfin hnd xV hpr h;have h1:is=[]:=List.length_eq_zero_iff.1 zo;have h2:U=[]:=List.length_eq_zero_iff.1 zo;subst h1 h2;have hsa:s=a:=Ry bI.defers fun t=>bI.agree t zi zi;refine ⟨?_,by rw [hsa];simpa [wpOps] using h⟩;cases hr:Region.ready .any ops listed with
  | nil=>rfl
  | cons r rs =>
   have hm:r∈Region.ready .any ops listed:=by rw [hr];simp
   have:=(bI.Jp r (zH hm)).1 (iC hm).choose_spec.2.1;simp at this
 | succ fuel ih =>
  intro is U listed s a w hm bI hok hfin hnd xV hpr h;refine ⟨fun hr=>?_,fun r hr=>?_⟩
  ·have hall:=Wp _ bI.size hr
   have h1:is=[]:=by
    cases is with
    | nil=>rfl
    | cons x xs =>
     unfold kC at hok;simp only [aF] at hok
     have hlt:x.2<ops.size:=by
      have:=hok.1.2;cases hx:ops[x.2]? with
      | none=>simp [hx] at this
      | some o=>exact (Array.getElem?_eq_some_iff.1 hx).1
     have:=(bI.Jp x.2 hlt).2 (.inl ⟨by simp,by simp⟩);rw [hall x.2 hlt] at this;cases this
   have h2:U=[]:=by
    cases U with
    | nil=>rfl
    | cons x xs =>
     obtain ⟨o,ho,_⟩:=bI.pend x zi;have hlt:=(Array.getElem?_eq_some_iff.1 ho).1;have:=(bI.Jp x.2 hlt).2 (.inr zi);rw [hall x.2 hlt] at this;cases this
   subst h1 h2;have hsa:s=a:=Ry bI.defers fun t=>bI.agree t zi zi;rw [hsa];simpa [wpOps] using h
  ·obtain ⟨o,ho,hun,Wo⟩:=iC hr
   rcases (bI.Jp r (zH hr)).1 hun with ⟨hL,_⟩|hU
   ·cases is with
    | nil=>simp at hL
    | cons x xs =>
     have hxi:r=x.2:=by
      simp only [bH,dQ] at hL
      rcases hL with hL|hL
      ·exact hL
      ·exfalso
       obtain ⟨q,hq,rfl⟩:=List.mem_map.1 hL;unfold kC at hok;simp only [gD,aF] at hfin;have hk:x.1= .fin:=by cases hk:x.1<;>simp [K.isFin,hk] at hfin ⊢
       obtain ⟨k,i⟩:=x;simp only at hk;subst hk;simp only [aF] at hok;have hb:=List.all_eq_true.1 hok.1.1.2 q hq;unfold SW.blocked at hb;have hqf:=List.all_eq_true.1 hfin.2 q hq;have hqa:q.1.jH=false:=by cases hk:q.1<;>simp [K.isFin,K.jH,hk] at hqf ⊢
       simp only [hqa,Bool.false_or,Bool.or_eq_true] at hb
       rcases hb with hb|hb
       ·refine iG hr hb ((bI.Jp i ?_).2 (.inl ⟨by simp,by simp⟩));have:=hok.1.2;cases hx:ops[i]? with
        | none=>simp [hx] at this
        | some o=>exact (Array.getElem?_eq_some_iff.1 hx).1
       ·obtain ⟨y,hy,hy2⟩:=List.any_eq_true.1 hb;simp only [aF] at hy2;obtain ⟨e,he1,he2,he3⟩:=xH ho hy2.2
        by_cases hlt:y.2<ops.size
        ·exact iG hr hy2.2 ((bI.Jp y.2 hlt).2 (.inl ⟨by simp;exact .inr ⟨y.1,hy⟩,by simp⟩))
        ·have:=Wo e he1 he2;rw [he3] at this;simp [bI.size,dJ hlt] at this
     subst hxi
     have hpure:∀ u∈U,u.1=true∧fwd ops u.2 x.2=true:=fun u hu=>by
      have hp:=hpr u hu x zi;have hxf:x.1.isFin=true:=by simp only [gD,aF] at hfin;exact hfin.1
      unfold nU at hp;simp only [hxf,if_true,Bool.or_eq_true,aF] at hp
      rcases hp with hp|hp
      ·exfalso
       have hl:=Gb bI.closed _ _ _ hp fun o' ho'=>by rw [ho] at ho';cases ho';exact Wo
       obtain ⟨o2,h2,_⟩:=bI.pend u hu;have:=(bI.Jp u.2 (Array.getElem?_eq_some_iff.1 h2).1).2 (.inr (List.mem_map.2 ⟨u,hu,rfl⟩));rw [getD_both this] at hl;cases hl
      ·refine ⟨?_,hp.2⟩;cases hu1:u.1<;>simp [hu1,K.isPure] at hp ⊢
     have IV:∀ t,t∈o.looksAt ops→s.tmps[t]? =a.tmps[t]? :=fun t ht=>by
      refine bI.agree t (fun u hu hd=>?_) zi;have hf:=(hpure u hu).2;cases hx:ops[u.2]? with
      | none=>simp [rM,hx] at hd
      | some y =>
       have he:=(nX hx ho hf).2 t (by rw [gW hx] at hd;exact hd) ht;exact iG hr he ((bI.Jp u.2 (Array.getElem?_eq_some_iff.1 hx).1).2 (.inr (List.mem_map.2 ⟨u,hu,rfl⟩)))
     simp only [bH] at h;rw [wpOps_cons] at h;refine Dq ho (fun cs b=>Region.noSelect_spec hs x.2 o cs b ho) IV bI.defers hQ (fun ds v w' hk=>?_) h;have hxf:x.1.isFin=true:=by simp only [gD,aF] at hfin;exact hfin.1
     refine ih xs U (listed.setIfInBounds x.2 true) _ ({ a with defers:=ds }.put o.dst v) w' (by simp at hm;omega) ?_ (by unfold kC at hok;simp only [aF] at hok;exact hok.2) (by simp only [gD,aF] at hfin;exact hfin.2) (by simp at hnd;simpa using hnd.2)
      (fun u hu hm=>xV u hu (by simp only [bH,dQ];exact .inr hm)) (fun u hu q hq=>hpr u hu q (by simp [hq])) hk
     refine ⟨by simpa using bI.size,fun i hi=>?_,uW bI.closed ho Wo,by simp [nH],by rw [iw,iw];exact bI.Qn,fun t h1 h2=>?_,fun u hu=>?_,bI.Dw,bI.uu,by simp⟩
     ·rw [qp (by rw [bI.size];exact hi),bI.Jp i hi];simp only [bH,dQ,gM,gU,not_false_eq_true,and_true];have hnd':x.2∉xs.map (·.2):=by rw [bH,List.nodup_cons] at hnd;exact hnd.1
      constructor
      ·rintro ⟨(h|h)|h,hne⟩
       ·exact absurd h hne
       ·exact .inl h
       ·exact .inr h
      ·rintro (h|h)
       ·exact ⟨.inl (.inr h),fun e=>hnd' (by rw [← e];exact h)⟩
       ·obtain ⟨u,hu,rfl⟩:=List.mem_map.1 h;exact ⟨.inr h,fun e=>xV u hu (by simp [e])⟩
     ·by_cases hd:o.dst=some t
      ·by_cases hlt:t<a.tmps.size
       ·rw [hd,put_eq _ _ (by exact Nat.lt_of_lt_of_eq hlt bI.Qn.symm),put_eq _ _ (by exact hlt)]
       ·rw [bQ (by rw [iw];exact bI.Qn ▸ dJ hlt),bQ (by rw [iw];exact dJ hlt)]
      ·rw [nS _ _ hd,nS _ _ hd];exact bI.agree t h1 zi
     ·have hf:=(hpure u hu).2;have h3:KL dO P ops u { a with defers:=ds } w:=bI.pend u hu
      exact (h3.put hs v fun o' ho' d hd=>(nX ho' ho hf).1 d hd).later hZ fun hu1=>by rw [(hpure u hu).1] at hu1;cases hu1
   ·obtain ⟨u,hu,rfl⟩:=List.mem_map.1 hU;refine BQ hZ hs bI hr hU (.inl (xV u hu)) fun v' I'=>?_;refine ih is _ _ _ a w ?_ I' hok hfin hnd (fun x hx=>xV x (List.mem_filter.1 hx).1) (fun x hx=>hpr x (List.mem_filter.1 hx).1) h;have:(U.filter (fun x=>x.2 != u.2)).length<U.length:=List.length_filter_lt_length_iff_exists.2 ⟨u,hu,by simp⟩;omega
theorem EP (hs:Region.noSelect ops=true) (Wp:Led ops)
  (hQ:∀ c (a s:Act) w,s.defers=a.defers→Q (.panic c) a w→Q (.panic c) s w) (N:Nat) (hZ:Lax N dO) :
  ∀ (fuel:Nat) (is:List (K × Nat)) (A:List Nat) (U:List (Bool × Nat)) (E:List (Nat × Nat)) (listed:Array Bool) (s a:Act) (w:World),
   gu is E+U.length≤fuel→Inv dO P ops (is.map (·.2)) U E listed s a w→kC ops is=true→(is.map (·.2)).Nodup →
   (∀ u∈U,u.2∉is.map (·.2))→(∀ u∈U,∀ q∈is,nU ops (if u.1 then .pure else .read,u.2) q=true) →
   uj P ops is→Early ops N is A E s a w →
   walk dO P ops Q N is A a w→wpAny P .any ops Q fuel listed s w:=by
 intro fuel
 induction fuel using gN with
 | _ fuel ihf =>
 intro is
 induction is with
 | nil =>
  intro A U E listed s a w hm bI hok hnd xV hpr hal he h
  have hE:E=[]:=by
   cases E with
   | nil=>rfl
   | cons p ps=>obtain ⟨cs,T,hmem,_⟩:=he.good p zi;cases hmem
  subst hE;exact IC hZ hs Wp hQ fuel [] U listed s a w (by simp [gu] at hm;simpa using hm) bI rfl rfl zi zi zi (by simp only [gM,wpOps];exact h w (Below.refl _ _))
 | cons x xs ihl =>
  intro A U E listed s a w hm bI hok hnd xV hpr hal he h;obtain ⟨k,i⟩:=x;have hrest:kC ops xs=true:=by unfold kC at hok;simp only [aF] at hok;exact hok.2
  obtain ⟨o,ho⟩:∃ o,ops[i]? =some o:=by
   unfold kC at hok;simp only [aF] at hok;exact Option.isSome_iff_exists.1 hok.1.2
  have hilt:i<ops.size:=(Array.getElem?_eq_some_iff.1 ho).1;have J3:i∉xs.map (·.2)∧(xs.map (·.2)).Nodup:=by simpa only [bH,List.nodup_cons] using hnd
  have hpx:k.isFin=false→∀ q∈xs,nU ops (k,i) q=true:=fun hk=>by
   unfold kC at hok;cases k<;>simp [K.isFin] at hk<;>simp only [aF] at hok
   ·exact fun q hq=>List.all_eq_true.1 hok.1.1.2 q hq
   ·exact fun q hq=>List.all_eq_true.1 hok.1.1.2 q hq
   ·exact fun q hq=>List.all_eq_true.1 hok.1.1.1 q hq
   ·exact fun q hq=>List.all_eq_true.1 hok.1.1.1 q hq
  have hUf:k.isFin=false→∀ u∈U,fwd ops u.2 i=true:=fun hk u hu=>by
   have:=hpr u hu (k,i) zi;unfold nU at this
   simpa [hk] using this
  have advance:∀ (b:Bool) (v:Value),k.isFin=false→k.jH=false→k.isPure=b→yJ ops i=true→i∉E.map (·.1) →
    ((Region.wanted o (yielded ops a.tmps)=true∧∀ w',(b=false→dO w w')→(execOp a.eval o).run P w'= .ok (.value v) w')∨(Region.wanted o (yielded ops a.tmps)=false∧v=undef)) →
    (k= .pure∨k= .read)→walk dO P ops Q N xs A (a.put o.dst v) w→wpAny P .any ops Q fuel listed s w:=fun b v hkf hka hkb hself Bo hrun hkk hw=>by
   have hxl:∀ d,o.dst=some d→d∉o.looksAt ops:=fun d hd hm=>by unfold yJ at hself;simp only [ho,hd] at hself;simp [hm] at hself
   have hl:∀ t,t∈o.looksAt ops→(a.put o.dst v).tmps[t]? =a.tmps[t]? :=fun t ht=>nS a v fun e=>hxl t e ht;refine ihl A ((b,i)::U) E listed s (a.put o.dst v) w ?_ ?_ hrest J3.2 ?_ ?_ (fun cs T j hj=>hal cs T j (by simp [hj])) ?_ hw
   ·have:gu ((k,i)::xs) E=gu xs E+1:=by
     unfold gu;rw [List.filter_cons_of_pos (by simpa using Bo)];rfl
    simp only [aV];omega
   ·refine ⟨bI.size,fun j hj=>?_,bI.closed,by rw [nH];exact bI.defers,by rw [iw];exact bI.Qn,fun t h1 h2=>?_,fun u hu=>?_,fun u hu=>?_,fun u hu v' hv hne=>?_,fun u hu p hp=>?_⟩
    ·rw [bI.Jp j hj];simp only [bH,dQ]
     constructor
     ·rintro (⟨h|h,h2⟩|h)
      ·exact .inr (.inl h)
      ·exact .inl ⟨h,h2⟩
      ·exact .inr (.inr h)
     ·rintro (⟨h,h2⟩|h|h)
      ·exact .inl ⟨.inr h,h2⟩
      ·exact .inl ⟨.inl h,by rw [h];exact Bo⟩
      ·exact .inr h
    ·have hd:o.dst≠some t:=by have:=h1 (b,i) zi;rwa [gW ho] at this
     rw [nS _ _ hd];exact bI.agree t (fun u hu=>h1 u (by simp [hu])) h2
    ·rcases List.mem_cons.1 hu with hu|hu
     ·subst hu;refine ⟨o,ho,v,fun d hd hlt=>?_,?_⟩
      ·rw [hd];exact put_eq _ _ (by rwa [iw] at hlt)
      ·rw [pY hl,uQ (fun cs b=>Region.noSelect_spec hs i o cs b ho) hl];exact hrun
     ·exact (bI.pend u hu).put hs v fun o' ho' d hd=>(nX ho' ho (hUf hkf u hu)).1 d hd
    ·rcases List.mem_cons.1 hu with hu|hu
     ·subst hu;exact hself
     ·exact bI.Dw u hu
    ·rcases List.mem_cons.1 hu with hu|hu<;>rcases List.mem_cons.1 hv with hv|hv
     ·subst hu hv;exact absurd rfl hne
     ·subst hu;exact (kZ (hUf hkf v' hv)).2
     ·subst hv;exact (kZ (hUf hkf u hu)).1
     ·exact bI.uu u hu v' hv hne
    ·rcases List.mem_cons.1 hu with hu|hu
     ·subst hu;obtain ⟨cs,T,hmem,_⟩:=he.good p hp
      rcases List.mem_cons.1 hmem with hmem|hmem
      ·cases hmem;simp [K.jH] at hka
      ·have:=hpx hkf _ hmem;unfold nU at this
       simpa [K.isFin] using this
     ·exact bI.ue u hu p hp
   ·intro u hu
    rcases List.mem_cons.1 hu with hu|hu
    ·subst hu;exact J3.1
    ·intro hm;exact xV u hu (by simp only [bH,dQ];exact .inr hm)
   ·intro u hu q hq
    rcases List.mem_cons.1 hu with hu|hu
    ·subst hu;have:=hpx hkf q hq
     rcases hkk with rfl|rfl<;>simp [K.isPure] at hkb<;>subst hkb<;>simpa using this
    ·exact hpr u hu q (by simp [hq])
   ·refine ⟨fun p hp=>?_,he.dist,fun p hp d hd hlt=>he.slot p hp d hd (by rwa [iw] at hlt),he.old,he.base⟩;obtain ⟨cs,T,hmem,hg⟩:=he.good p hp;refine ⟨cs,T,?_,hg⟩
    rcases List.mem_cons.1 hmem with hmem|hmem
    ·cases hmem;simp [K.jH] at hka
    ·exact hmem
  have early:∀ (cs:Array Value) (T:TypeId) (r:Nat),(K.alloc cs T,r)∈(k,i)::xs→r∈Region.ready .any ops listed→r∉E.map (·.1)→∀ f,f<fuel→gu ((k,i)::xs) E+U.length≤f+1 →
    wpOp P ops Q r (wpAny P .any ops Q f (listed.setIfInBounds r true)) s w:=fun cs T r hmem hr hrE f hf Q0=>by
   obtain ⟨y,hy,ar7,Mw⟩:=iC hr;obtain ⟨hg,hrun⟩:=hal cs T r hmem y hy;have bi1:=zH hr;have hb:Below w.heap.size w (w.alloc (.cells cs T (0,0))):=(Below.refl _ _).alloc (aC _) _;have hsz:(w.alloc (.cells cs T (0,0))).heap.size=w.heap.size+1:=by simp
   have aF8:r∈((k,i)::xs).map (·.2):=List.mem_map.2 ⟨_,hmem,rfl⟩
   have key:wpAny P .any ops Q f (listed.setIfInBounds r true) (s.put y.dst (ay (some ⟨w.heap.size,0,none⟩))) (w.alloc (.cells cs T (0,0))):=by
    refine ihf f hf ((k,i)::xs) A U ((r,w.heap.size)::E) _ _ a _ ?_ ?_ hok hnd xV hpr hal ?_ (qz hZ _ _ _ _ _ hb h)
    ·have hlt:gu ((k,i)::xs) ((r,w.heap.size)::E)<gu ((k,i)::xs) E:=by
      unfold gu
      have e:((k,i)::xs).filter (fun x=> !(((r,w.heap.size)::E).map (·.1)).contains x.2)=(((k,i)::xs).filter (fun x=> !(E.map (·.1)).contains x.2)).filter (fun x=>x.2 != r):=by
       rw [List.filter_filter]
       congr 1
       funext x
       simp only [bH,List.contains_cons,Bool.not_or];rfl
      rw [e];exact List.length_filter_lt_length_iff_exists.2 ⟨_,List.mem_filter.2 ⟨hmem,by simpa using hrE⟩,by simp⟩
     omega
    ·refine ⟨by simpa using bI.size,fun j hj=>?_,uW bI.closed hy Mw,by rw [nH];exact bI.defers,by rw [iw];exact bI.Qn,fun t h1 h2=>?_,fun u hu=>(bI.pend u hu).later hZ fun _=>(by first|exact hZ.of hb|exact hb),bI.Dw,bI.uu,fun u hu p hp=>?_⟩
     ·rw [qp (by rw [bI.size];exact hj),bI.Jp j hj];simp only [bH,dQ,not_or]
      constructor
      ·rintro ⟨⟨h,h2⟩|h,hne⟩
       ·exact .inl ⟨h,hne,h2⟩
       ·exact .inr h
      ·rintro (⟨h,hne,h2⟩|h)
       ·exact ⟨.inl ⟨h,h2⟩,hne⟩
       ·obtain ⟨u,hu,rfl⟩:=List.mem_map.1 h;exact ⟨.inr h,fun e=>xV u hu (e ▸ aF8)⟩
     ·have hd:y.dst≠some t:=by have:=h2 (r,w.heap.size) zi;rwa [gW hy] at this
      rw [nS _ _ hd];exact bI.agree t h1 fun p hp=>h2 p (by simp [hp])
     ·rcases List.mem_cons.1 hp with hp|hp
      ·subst hp;have:=hpr u hu _ hmem;unfold nU at this
       simpa [K.isFin] using this
      ·exact bI.ue u hu p hp
    ·refine ⟨fun p hp=>?_,fun p hp q hq hne=>?_,fun p hp d hd hlt=>?_,fun x hx=>by rw [hsz];exact Nat.lt_succ_of_lt (he.old x hx),by rw [hsz];exact Nat.le_succ_of_le he.base⟩
     ·rcases List.mem_cons.1 hp with hp|hp
      ·subst hp;exact ⟨cs,T,hmem,(by show (w.heap.push _)[w.heap.size]? =_;simp),he.base,by rw [hsz];exact Nat.lt_succ_self _,fun hA=>Nat.lt_irrefl _ (he.old _ hA)⟩
      ·obtain ⟨cs',T',hm',hh,h1,h2,h3⟩:=he.good p hp;exact ⟨cs',T',hm',by rw [Below.heap_alloc _ _ _ h2];exact hh,h1,by rw [hsz];exact Nat.lt_succ_of_lt h2,h3⟩
     ·rcases List.mem_cons.1 hp with hp|hp<;>rcases List.mem_cons.1 hq with hq|hq
      ·subst hp hq;exact absurd rfl hne
      ·subst hp;obtain ⟨_,_,_,_,_,h2,_⟩:=he.good q hq;exact fun e=>by simp only at e;omega
      ·subst hq;obtain ⟨_,_,_,_,_,h2,_⟩:=he.good p hp;exact fun e=>by simp only at e;omega
      ·exact he.dist p hp q hq hne
     ·rcases List.mem_cons.1 hp with hp|hp
      ·subst hp;rw [gW hy] at hd;rw [hd];exact put_eq _ _ (by exact Nat.lt_of_lt_of_eq hlt bI.Qn.symm)
      ·obtain ⟨cs',T',hm',_⟩:=he.good p hp;have hne:p.1≠r:=fun e=>hrE (e ▸ List.mem_map.2 ⟨p,hp,rfl⟩);have hc:=xY _ hok _ hm' _ hmem rfl rfl hne;rw [nS _ _ (fun e=>hc.1 d hd (by rw [gW hy];exact e))];exact he.slot p hp d hd hlt
   unfold wpOp;simp only [hy,Region.wanted,hg,if_true];refine .inl ?_;unfold Oper.wp;rw [hrun];exact key
  have hcount:i∉E.map (·.1)→1≤fuel:=fun Bo=>by
   have:gu ((k,i)::xs) E=gu xs E+1:=by
    unfold gu;rw [List.filter_cons_of_pos (by simpa using Bo)];rfl
   omega
  have hinj:∀ (l:List (K × Nat)),(l.map (·.2)).Nodup→∀ x∈l,∀ y∈l,x.2=y.2→x=y:=by
   intro l
   induction l with
   | nil=>intro _ x hx;cases hx
   | cons c l ihh =>
    intro hn x hx0 y hy0 hxy;rw [bH,List.nodup_cons] at hn
    rcases List.mem_cons.1 hx0 with hx|hx<;>rcases List.mem_cons.1 hy0 with hy|hy
    ·rw [hx,hy]
    ·exact absurd (List.mem_map.2 ⟨y,hy,by rw [← hxy,hx]⟩) hn.1
    ·exact absurd (List.mem_map.2 ⟨x,hx,by rw [hxy,hy]⟩) hn.1
    ·exact ihh hn.2 x hx y hy hxy
  have actual:(k= .ext∨k.jH=true)→i∉E.map (·.1)→xs.all (SW.blocked ops i xs)=true →
    (∀ f,fuel=f+1→i∈Region.ready .any ops listed→wpOp P ops Q i (wpAny P .any ops Q f (listed.setIfInBounds i true)) s w)→wpAny P .any ops Q fuel listed s w:=fun hk Bo hbl hhead=>by
   obtain ⟨f,rfl⟩:∃ f,fuel=f+1:=⟨fuel - 1,by have:=hcount Bo;omega⟩;have aF5:listed.getD i true=false:=(bI.Jp i hilt).2 (.inl ⟨by simp,Bo⟩);refine ⟨fun hr=>?_,fun r hr=>?_⟩
   ·exfalso
    have:=Wp _ bI.size hr i hilt;rw [aF5] at this;cases this
   ·obtain ⟨y,hy,ar7,Mw⟩:=iC hr
    rcases (bI.Jp r (zH hr)).1 ar7 with ⟨hL,hrE⟩|hU
    ·simp only [bH,dQ] at hL
     rcases hL with hL|hL
     ·subst hL;exact hhead f rfl hr
     ·obtain ⟨q,hq,rfl⟩:=List.mem_map.1 hL;have hb:=List.all_eq_true.1 hbl q hq;unfold SW.blocked at hb;simp only [Bool.or_eq_true] at hb
      rcases hb with (hb|hb)|hb
      ·obtain ⟨kq,jq⟩:=q;cases kq with
       | alloc cs T=>exact early cs T jq (by simp [hq]) hr hrE f (Nat.lt_succ_self _) zo
       | _=>simp [K.jH] at hb
      ·exact (iG hr hb aF5).elim
      ·obtain ⟨z,hz,hz2⟩:=List.any_eq_true.1 hb;simp only [aF,jO] at hz2;obtain ⟨e,he1,he2,he3⟩:=xH hy hz2.2
       by_cases hlt:z.2<ops.size
       ·refine (iG hr hz2.2 ((bI.Jp z.2 hlt).2 (.inl ⟨by simp;exact .inr ⟨z.1,hz⟩,fun hzE=>?_⟩))).elim;obtain ⟨p,hp,hpe⟩:=List.mem_map.1 hzE;obtain ⟨cs,T,hmem,_⟩:=he.good p hp;have hmem':(K.alloc cs T,z.2)∈(k,i)::xs:=by rw [← hpe];exact hmem
        rcases List.mem_cons.1 hmem' with h3|h3
        ·have:z.2=i:=by cases h3;rfl
         exact J3.1 (this ▸ List.mem_map.2 ⟨z,hz,rfl⟩)
        ·have:z=(K.alloc cs T,z.2):=by
          exact hinj xs J3.2 z hz _ h3 rfl
         rw [this] at hz2;simp [K.jH] at hz2
       ·have:=Mw e he1 he2;rw [he3] at this;simp [bI.size,dJ hlt] at this
    ·obtain ⟨u,hu,rfl⟩:=List.mem_map.1 hU;refine BQ hZ hs bI hr hU (.inl (xV u hu)) fun v' I'=>?_;refine ihf f (Nat.lt_succ_self _) ((k,i)::xs) A _ E _ _ a w ?_ I' hok hnd (fun x hx=>xV x (List.mem_filter.1 hx).1) (fun x hx=>hpr x (List.mem_filter.1 hx).1) hal ?_ h
     ·have:(U.filter (fun x=>x.2 != u.2)).length<U.length:=List.length_filter_lt_length_iff_exists.2 ⟨u,hu,by simp⟩;omega
     ·refine ⟨he.good,he.dist,fun p hp d hd hlt=>?_,he.old,he.base⟩;have hc:=(kZ (bI.ue u hu p hp)).2;rw [nS _ _ (fun e=>hc.1 d hd e)];exact he.slot p hp d hd hlt
  have Ae:k.jH=false→i∉E.map (·.1):=fun hk hm=>by
   obtain ⟨p,hp,hpe⟩:=List.mem_map.1 hm;obtain ⟨cs,T,hmem,_⟩:=he.good p hp;have:=hinj _ hnd _ hmem (k,i) zi hpe;cases this
   simp [K.jH] at hk
  have ZH:∀ p∈E,p.1≠i→∃ cs T,(K.alloc cs T,p.1)∈xs∧w.heap[p.2]? =some (.cells cs T (0,0))∧N≤p.2∧p.2<w.heap.size∧p.2∉A:=fun p hp hne=>by
   obtain ⟨cs,T,hmem,hg⟩:=he.good p hp;refine ⟨cs,T,?_,hg⟩
   rcases List.mem_cons.1 hmem with hmem|hmem
   ·cases hmem;exact absurd rfl hne
   ·exact hmem
  unfold walk at h;simp only [ho] at h;cases k with
  | pure =>
   simp only at h;have hself:yJ ops i=true:=by unfold kC at hok;simp only [aF] at hok;exact hok.1.1.1
   split at h
   ·rename_i hw;obtain ⟨v,h1,h2⟩:=h;exact advance true v rfl rfl rfl hself (Ae rfl) (.inl ⟨hw,fun w' _=>h1 w'⟩) (.inl rfl) h2
   ·rename_i hw;exact advance true undef rfl rfl rfl hself (Ae rfl) (.inr ⟨by simpa using hw,rfl⟩) (.inl rfl) h
  | read =>
   simp only at h;have hself:yJ ops i=true:=by unfold kC at hok;simp only [aF] at hok;exact hok.1.1.1
   split at h
   ·rename_i hw;obtain ⟨v,h1,h2⟩:=h;exact advance false v rfl rfl rfl hself (Ae rfl) (.inl ⟨hw,fun w' hb=>h1 w' (hb rfl)⟩) (.inr rfl) h2
   ·rename_i hw;exact advance false undef rfl rfl rfl hself (Ae rfl) (.inr ⟨by simpa using hw,rfl⟩) (.inr rfl) h
  | fin =>
   have hfin:xs.all (·.1.isFin)=true:=by unfold kC at hok;simp only [aF] at hok;exact hok.1.1.1
   have hE:E=[]:=by
    cases E with
    | nil=>rfl
    | cons p ps =>
     obtain ⟨cs,T,hmem,_⟩:=he.good p zi
     rcases List.mem_cons.1 hmem with hmem|hmem
     ·cases hmem
     ·have:=List.all_eq_true.1 hfin _ hmem;simp [K.isFin] at this
   subst hE;exact IC hZ hs Wp hQ fuel ((.fin,i)::xs) U listed s a w (by rw [sK] at hm;exact hm) bI hok (by rw [gD,hfin];rfl) hnd xV hpr (h w (Below.refl _ _))
  | ext =>
   have hbl:xs.all (SW.blocked ops i xs)=true:=by unfold kC at hok;simp only [aF] at hok;exact hok.1.1.2
   refine actual (.inl rfl) (Ae rfl) hbl fun f hf hr=>?_;obtain ⟨y,hy,ar7,Mw⟩:=iC hr;rw [ho] at hy;cases hy
   have IV:∀ t,t∈o.looksAt ops→s.tmps[t]? =a.tmps[t]? :=fun t ht=>by
    refine bI.agree t (fun u hu hd=>?_) (fun p hp hd=>?_)
    ·have hf:=hUf rfl u hu;cases hx:ops[u.2]? with
     | none=>simp [rM,hx] at hd
     | some y =>
      have he':=(nX hx ho hf).2 t (by rw [gW hx] at hd;exact hd) ht;exact iG hr he' ((bI.Jp u.2 (Array.getElem?_eq_some_iff.1 hx).1).2 (.inr (List.mem_map.2 ⟨u,hu,rfl⟩)))
    ·obtain ⟨cs,T,hmem,_⟩:=ZH p hp fun e=>Ae rfl (e ▸ List.mem_map.2 ⟨p,hp,rfl⟩);have hf:=hpx rfl _ hmem;unfold nU at hf;simp only [K.isFin,cK,if_false] at hf;cases hx:ops[p.1]? with
     | none=>simp [rM,hx] at hd
     | some y=>exact ((nX ho hx hf).1 t (by rw [gW hx] at hd;exact hd)).1 ht
   have h':wpOp P ops Q i (fun a' w''=>dO w w''∧walk dO P ops Q N xs A a' w'') a w:=by
    unfold wpOp;simp only [ho];simp only at h;split at h
    ·rename_i hw;simp only [hw,if_true];exact .inl (h w (Below.refl _ _))
    ·rename_i hw;simp only [hw,cK,if_false];exact ⟨hZ.refl _,h⟩
   refine Dq ho (fun cs b=>Region.noSelect_spec hs i o cs b ho) IV bI.defers hQ (fun ds v w' hk=>?_) h';obtain ⟨hb,hk⟩:=hk
   have bj1:gu ((.ext,i)::xs) E=gu xs E+1:=by
    unfold gu;rw [List.filter_cons_of_pos (by simpa using Ae rfl)];rfl
   refine ihf f zo xs A U E _ _ ({ a with defers:=ds }.put o.dst v) w' zo ?_ hrest J3.2 (fun u hu hm=>xV u hu (by simp only [bH,dQ];exact .inr hm)) (fun u hu q hq=>hpr u hu q (by simp [hq]))
    (fun cs T j hj=>hal cs T j (by simp [hj])) ?_ hk
   ·refine ⟨by simpa using bI.size,fun j hj=>?_,uW bI.closed ho Mw,by simp [nH],by rw [iw,iw];exact bI.Qn,fun t h1 h2=>?_,fun u hu=>?_,bI.Dw,bI.uu,bI.ue⟩
    ·rw [qp (by rw [bI.size];exact hj),bI.Jp j hj];simp only [bH,dQ]
     constructor
     ·rintro ⟨⟨h|h,h2⟩|h,hne⟩
      ·exact absurd h hne
      ·exact .inl ⟨h,h2⟩
      ·exact .inr h
     ·rintro (⟨h,h2⟩|h)
      ·exact ⟨.inl ⟨.inr h,h2⟩,fun e=>J3.1 (e ▸ h)⟩
      ·obtain ⟨u,hu,rfl⟩:=List.mem_map.1 h;exact ⟨.inr h,fun e=>xV u hu (by simp [e])⟩
    ·by_cases hd:o.dst=some t
     ·by_cases hlt:t<a.tmps.size
      ·rw [hd,put_eq _ _ (by exact Nat.lt_of_lt_of_eq hlt bI.Qn.symm),put_eq _ _ (by exact hlt)]
      ·rw [bQ (by rw [iw];exact bI.Qn ▸ dJ hlt),bQ (by rw [iw];exact dJ hlt)]
     ·rw [nS _ _ hd,nS _ _ hd];exact bI.agree t h1 h2
    ·have h3:KL dO P ops u { a with defers:=ds } w:=bI.pend u hu
     exact (h3.put hs v fun o' ho' d hd=>(nX ho' ho (hUf rfl u hu)).1 d hd).later hZ fun _=>(by first|exact hZ.of hb|exact hb)
   ·refine ⟨fun p hp=>?_,he.dist,fun p hp d hd hlt=>?_,fun x hx=>aP (he.old x hx) (hZ.size hb),au he.base (hZ.size hb)⟩
    ·obtain ⟨cs,T,hmem,hh,h1,h2,h3⟩:=ZH p hp fun e=>Ae rfl (e ▸ List.mem_map.2 ⟨p,hp,rfl⟩);exact ⟨cs,T,hmem,by rw [hZ.block hb _ h1 h2];exact hh,h1,aP h2 (hZ.size hb),h3⟩
    ·obtain ⟨cs,T,hmem,_⟩:=ZH p hp fun e=>Ae rfl (e ▸ List.mem_map.2 ⟨p,hp,rfl⟩);have hf:=hpx rfl _ hmem;unfold nU at hf;simp only [K.isFin,cK,if_false] at hf;have hc:=(kZ hf).2;rw [nS _ _ (fun e=>hc.1 d hd (by rw [gW ho];exact e))];exact he.slot p hp d hd (by rwa [iw] at hlt)
  | alloc cs T =>
   have hbl:xs.all (SW.blocked ops i xs)=true:=by unfold kC at hok;simp only [aF] at hok;exact hok.1.1.2
   by_cases Bo:i∈E.map (·.1)
   ·obtain ⟨p,hp,hpi⟩:=List.mem_map.1 Bo;obtain ⟨cs',T',hmem,hh,h1,h2,h3⟩:=he.good p hp;have hsame:=hinj _ hnd _ hmem (.alloc cs T,i) zi hpi;have e1:cs'=cs:=by injection hsame with a b;injection a
    have e2:T'=T:=by injection hsame with a b;injection a
    subst e1 e2;have hk:=h p.2 w (Below.refl _ _) h1 h2 h3 hh;have aF6:∀ d,o.dst=some d→d<a.tmps.size→s.tmps[d]? =some (.pointer (some ⟨p.2,0,none⟩)):=fun d hd hlt=>he.slot p hp d (by rw [hpi,gW ho];exact hd) hlt
    refine ihl (p.2::A) U (E.filter (fun x=>x.1 != i)) listed s (a.put o.dst (ay (some ⟨p.2,0,none⟩))) w ?_ ?_ hrest J3.2 (fun u hu hm=>xV u hu (by simp only [bH,dQ];exact .inr hm)) (fun u hu q hq=>hpr u hu q (by simp [hq]))
     (fun cs T j hj=>hal cs T j (by simp [hj])) ?_ hk
    ·have:gu xs (E.filter (fun x=>x.1 != i))=gu ((.alloc cs' T',i)::xs) E:=by
      unfold gu;rw [List.filter_cons_of_neg (by simpa using Bo)]
      congr 1
      refine List.filter_congr fun x hx=>?_;have hxi:x.2≠i:=fun e=>J3.1 (e ▸ List.mem_map.2 ⟨x,hx,rfl⟩)
      congr 1
      rw [iZ];simp only [List.contains_iff_mem,Jg,Ck,bne_iff_ne,ne_eq]
      constructor
      ·rintro ⟨y,⟨hy,_⟩,e⟩;exact ⟨y,hy,e⟩
      ·rintro ⟨y,hy,e⟩;exact ⟨y,⟨hy,fun e2=>hxi (e ▸ e2)⟩,e⟩
     omega
    ·refine ⟨bI.size,fun j hj=>?_,bI.closed,by rw [nH];exact bI.defers,by rw [iw];exact bI.Qn,fun t h1 h2=>?_,fun u hu=>(bI.pend u hu).put hs _ fun o' ho' d hd=>(nX ho' ho (hUf rfl u hu)).1 d hd,bI.Dw,bI.uu,fun u hu q hq=>bI.ue u hu q (List.mem_filter.1 hq).1⟩
     ·rw [bI.Jp j hj];simp only [bH,dQ,Jg,Ck,bne_iff_ne,ne_eq]
      constructor
      ·rintro (⟨h|h,h2⟩|h)
       ·subst h;exact absurd ⟨p,hp,hpi⟩ h2
       ·exact .inl ⟨h,fun ⟨y,⟨hy,_⟩,e⟩=>h2 ⟨y,hy,e⟩⟩
       ·exact .inr h
      ·rintro (⟨h,h2⟩|h)
       ·refine .inl ⟨.inr h,fun ⟨y,hy,e⟩=>h2 ⟨y,⟨hy,fun e2=>?_⟩,e⟩⟩;obtain ⟨z,hz,hz2⟩:=h;exact J3.1 (List.mem_map.2 ⟨z,hz,by rw [hz2,← e,e2]⟩)
       ·exact .inr h
     ·by_cases hd:o.dst=some t
      ·by_cases hlt:t<a.tmps.size
       ·rw [hd,put_eq _ _ hlt,aF6 t hd hlt]
       ·rw [bQ (by rw [bI.Qn];exact dJ hlt),bQ (by rw [iw];exact dJ hlt)]
      ·rw [nS _ _ hd];refine bI.agree t h1 fun q hq G9=>?_
       by_cases hqi:q.1=i
       ·rw [hqi,gW ho] at G9;exact hd G9
       ·exact h2 q (List.mem_filter.2 ⟨hq,by simpa using hqi⟩) G9
    ·refine ⟨fun q hq=>?_,fun q hq r hr=>he.dist q (List.mem_filter.1 hq).1 r (List.mem_filter.1 hr).1,fun q hq d hd hlt=>he.slot q (List.mem_filter.1 hq).1 d hd (by rwa [iw] at hlt),fun x hx=>?_,he.base⟩
     ·obtain ⟨hq1,hq2⟩:=List.mem_filter.1 hq;have hqi:q.1≠i:=by simpa using hq2
      obtain ⟨cs2,T2,aG5,hh2,g1,g2,g3⟩:=ZH q hq1 hqi;refine ⟨cs2,T2,aG5,hh2,g1,g2,?_⟩;simp only [dQ,not_or];exact ⟨he.dist q hq1 p hp (by rw [hpi];exact hqi),g3⟩
     ·rcases List.mem_cons.1 hx with hx|hx
      ·rw [hx];exact h2
      ·exact he.old x hx
   ·exact actual (.inr rfl) Bo hbl fun f hf hr=>early cs T i zi hr Bo f zo zo
theorem aO {id:Nat} {a:Act} {w:World} (is:List (K × Nat)) {N:Nat} (hZ:Lax N dO) (hN:w.heap.size=N) (hm:P.follows .mixedOrders=true) (hc:check ops is=true) (hal:uj P ops is)
  (hQ:∀ c (a s:Act) w,s.defers=a.defers→Q (.panic c) a w→Q (.panic c) s w)
  (h:walk dO P ops Q N is [] a w.drew):(Code.region id ops true).wp P Q a w:=by
 unfold check at hc;simp only [aF,decide_eq_true_eq] at hc;obtain ⟨⟨⟨⟨⟨h1,h2⟩,h3⟩,h4⟩,h5⟩,h6⟩:=hc;refine wp_region_any hm ?_;refine EP h1 (aq6 h2) hQ N hZ ops.size is [] [] [] _ a a w.drew ?_ ?_ h3 h4 zi zi hal ?_ h
 ·rw [sK];exact h5
 ·refine ⟨by simp,fun i hi=>?_,fun j o hj hl=>?_,rfl,rfl,fun t _ _=>rfl,by simp,by simp,by simp,by simp⟩
  ·have hmem:i∈is.map (·.2):=by simpa using List.all_eq_true.1 h6 i (List.mem_range.2 hi)
   simp [hi] 
   simpa using hmem
  ·have hj':=(Array.getElem?_eq_some_iff.1 hj).1;simp [hj'] at hl
 ·exact ⟨by simp,by simp,by simp,by simp,Nat.le_of_eq hN.symm⟩
variable {N:Nat} {is:List (K × Nat)} {i:Nat} {A:List Nat} {a:Act} {w:World} {o:Oper}
theorem dU {cs:Array Value} {T:TypeId} (ho:ops[i]? =some o) (h:∀ b w',Bw w w'→N≤b→b<w'.heap.size→b∉A→w'.heap[b]? =some (.cells cs T (0,0))→walk dO P ops Q N is (b::A) (a.put o.dst (ay (some ⟨b,0,none⟩))) w'):walk dO P ops Q N ((.alloc cs T,i)::is) A a w:=by
 unfold walk;simp only [ho];exact h
end
end Go.Ic
namespace Go.SW
open Go Go.RowKit
section
variable (P:Program) (ops:Array Oper) (Q:Exit→Act→World→Prop)
def walk (N:Nat):List (K × Nat)→List Nat→Act→World→Prop
 | [],_,a,w=>∀ w',Bw w w'→Q .normal a w'
 | (k,i)::is,A,a,w =>
  match ops[i]? with
  | none=>False
  | some o =>
   match k with
   | .pure=>if Region.wanted o (yielded ops a.tmps) then ∃ v,(∀ w',(execOp a.eval o).run P w'= .ok (.value v) w')∧walk N is A (a.put o.dst v) w else walk N is A (a.put o.dst undef) w
   | .read=>if Region.wanted o (yielded ops a.tmps) then ∃ v,(∀ w',Bw w w'→(execOp a.eval o).run P w'= .ok (.value v) w')∧walk N is A (a.put o.dst v) w else walk N is A (a.put o.dst undef) w
   | .alloc cs T=>∀ b w',Bw w w'→N≤b→b<w'.heap.size→b∉A→w'.heap[b]? =some (.cells cs T (0,0))→walk N is (b::A) (a.put o.dst (ay (some ⟨b,0,none⟩))) w'
   | .ext=>if Region.wanted o (yielded ops a.tmps) then ∀ w',Bw w w'→o.wp P a w' (fun a' w''=>Below w'.heap.size w' w''∧walk N is A a' w'') Q else walk N is A (a.put o.dst undef) w
   | .fin=>∀ w',Bw w w'→wpOps P ops Q (i::is.map (·.2)) a w'
end
section
variable {P:Program} {ops:Array Oper} {Q:Exit→Act→World→Prop}
theorem aU1 {N:Nat}:Ic.Lax N (fun w w'=>Bw w w'):=⟨fun _=>Below.refl _ _,nL,id,fun h=>h.size,fun h b _ h2=>h.block b h2⟩
theorem oO {N:Nat}:∀ (is:List (K × Nat)) (A:List Nat) (a:Act) (w:World),walk P ops Q N is A a w→Ic.walk (fun w w'=>Bw w w') P ops Q N is A a w
 | [],_,_,_,h=>h
 | (k,i)::is,A,a,w,h=>by
  unfold walk at h;unfold Ic.walk;cases ho:ops[i]? with
  | none=>simp only [ho] at h
  | some o =>
   simp only [ho] at h ⊢;cases k with
   | pure =>
    simp only at h ⊢;split at h
    ·rename_i hw;simp only [hw,if_true];obtain ⟨v,h1,h2⟩:=h;exact ⟨v,h1,oO is _ _ _ h2⟩
    ·rename_i hw;simp only [hw,if_false,cK];exact oO is _ _ _ h
   | read =>
    simp only at h ⊢;split at h
    ·rename_i hw;simp only [hw,if_true];obtain ⟨v,h1,h2⟩:=h;exact ⟨v,h1,oO is _ _ _ h2⟩
    ·rename_i hw;simp only [hw,if_false,cK];exact oO is _ _ _ h
   | alloc cs T=>exact fun b w' h1 h2 h3 h4 h5=>oO is _ _ _ (h b w' h1 h2 h3 h4 h5)
   | ext =>
    simp only at h ⊢;split at h
    ·rename_i hw;simp only [hw,if_true];exact fun w' hb=>Oper.wp_mono (fun a' w'' hk=>⟨hk.1,oO is _ _ _ hk.2⟩) (h w' hb)
    ·rename_i hw;simp only [hw,if_false,cK];exact oO is _ _ _ h
   | fin=>exact h
theorem aO {id:Nat} {a:Act} {w:World} (is:List (K × Nat)) (hm:P.follows .mixedOrders=true) (hc:check ops is=true) (hal:uj P ops is)
  (hQ:∀ c (a s:Act) w,s.defers=a.defers→Q (.panic c) a w→Q (.panic c) s w)
  (h:walk P ops Q w.heap.size is [] a w.drew):(Code.region id ops true).wp P Q a w:=Ic.aO is aU1 rfl hm hc hal hQ (oO _ _ _ _ h)
section
variable {N:Nat} {is:List (K × Nat)} {i:Nat} {A:List Nat} {a:Act} {w:World} {o:Oper}
theorem RS (ho:ops[i]? =some o) (h:∀ J:Act→Prop,(∀ a,walk P ops Q N is A a w→J a) →
  if Region.wanted o (yielded ops a.tmps) then ∃ v,(∀ w',(execOp a.eval o).run P w'= .ok (.value v) w')∧J (a.put o.dst v) else J (a.put o.dst undef)):walk P ops Q N ((.pure,i)::is) A a w:=by
 unfold walk;simp only [ho];exact h (fun a=>walk P ops Q N is A a w) fun _ h=>h
theorem qD (ho:ops[i]? =some o) (hg:o.guard=none) (h:∀ J:Act→Prop,(∀ a,walk P ops Q N is A a w→J a)→∃ v,(∀ w',(execOp a.eval o).run P w'= .ok (.value v) w')∧J (a.put o.dst v)):walk P ops Q N ((.pure,i)::is) A a w:=by
 unfold walk;simp only [ho,Region.wanted,hg,if_true];exact h (fun a=>walk P ops Q N is A a w) fun _ h=>h
theorem cells_of_cell {w:World} {p:Addr} (h:(w.cell? p).isSome=true):∃ cs T fr,w.heap[p.block]? =some (.cells cs T fr):=by
 unfold World.cell? at h;split at h
 ·rename_i c e f hh;exact ⟨c,e,f,hh⟩
 ·cases h
theorem pX {w w':World} (p:Addr) (hh:w'.heap[p.block]? =w.heap[p.block]?) (hcs:∃ cs T fr,w.heap[p.block]? =some (.cells cs T fr)):∀ (n i:Nat) (acc:Array Value) (v:Array Value),
  (loadCellsFrom p i n acc).run P w= .ok v w→(loadCellsFrom p i n acc).run P w'= .ok v w'
 | 0,i,acc,v,h=>by
  simp [loadCellsFrom] at h ⊢
  exact h
 | n+1,i,acc,v,h=>by
  have hbl:(p.add i).block=p.block:=by unfold Addr.add;split<;>rfl
  have hq:w'.cell? (p.add i)=w.cell? (p.add i):=World.cell?_of_block (by rw [hbl];exact hh);simp only [loadCellsFrom,Sem.run_bind,run_load,hq] at h ⊢;cases hcell:w.cell? (p.add i) with
  | none =>
   obtain ⟨cs,T,fr,hb⟩:=hcs;simp [hcell,Result.andThen,World.farLoad,hbl,hb] at h
  | some u =>
   simp only [hcell,Result.andThen] at h ⊢;exact pX p hh hcs n (i+1) _ v h
theorem yh {w w':World} {T:TypeId} {p:Addr} {v:Value} (hb:Bw w w') (hc:(w.cell? p).isSome=true) (h:(loadVar T p).run P w= .ok v w):(loadVar T p).run P w'= .ok v w':=by
 have hcs:=cells_of_cell hc
 have hp:p.block<w.heap.size:=by
  obtain ⟨cs,T,fr,hh⟩:=hcs
  rcases aH p.block w.heap.size with h|h
  ·exact h
  ·rw [bQ h] at hh;cases hh
 have hh:=hb.block p.block hp;have hq:w'.cell? p=w.cell? p:=World.cell?_of_block hh;obtain ⟨u,hu⟩:=Option.isSome_iff_exists.1 hc;unfold loadVar at h ⊢;rw [Sem.run_bind] at h ⊢
 have ha:∃ r,∀ x:World,(isAgg T).run P x=match r with|Except.ok b=>Result.ok b x|Except.error e=>Result.halt e x:=by
  cases hT:P.underlying T with
  | none => exact ⟨.error (.stuck "no such type"), fun x => by simp [isAgg, Go.underlying, Sem.run_bind, hT, Result.andThen]⟩
  | some d=>cases d<;>first
   | (refine ⟨.ok true,fun x=>?_⟩;simp [isAgg,Go.underlying,Sem.run_bind,hT,Result.andThen];done)
   | (refine ⟨.ok false,fun x=>?_⟩;simp [isAgg,Go.underlying,Sem.run_bind,hT,Result.andThen];done)
 obtain ⟨r,hr⟩:=ha;rw [hr] at h ⊢;cases r with
 | error e=>simp [Result.andThen] at h
 | ok b =>
  simp only [Result.andThen] at h ⊢;cases b with
  | false =>
   simp only [cK,if_false,run_load,hq,hu] at h ⊢
   injection h with h1
   rw [h1]
  | true =>
   simp only [if_true,Sem.run_bind,sizeOf,typeInfo] at h ⊢;cases hi:P.info? T with
   | none=>simp [hi,Result.andThen] at h
   | some i =>
    simp [hi,Result.andThen] at h ⊢
    unfold loadCells at h ⊢;cases hl:(loadCellsFrom p 0 i.size #[]).run P w with
    | halt e x=>simp [hl] at h
    | ok c x =>
     simp [hl] at h
     obtain ⟨h1,h2⟩:=h;rw [h2] at hl;rw [pX p hh hcs _ _ _ _ hl];simp [h1]
theorem Ik {T:TypeId} {x:Operand} {p:Addr} (ho:ops[i]? =some o) (hg:o.guard=none) (hop:o.op= .load T x) (hx:a.eval x= ay (some p))
  (h:∀ J:Value→Prop,(∀ v,walk P ops Q N is A (a.put o.dst v) w→J v)→(w.cell? p).isSome=true∧∃ v,(loadVar T p).run P w= .ok v w∧J v):walk P ops Q N ((.read,i)::is) A a w:=by
 unfold walk;simp only [ho,Region.wanted,hg,if_true];obtain ⟨h1,v,h2,h3⟩:=h (fun v=>walk P ops Q N is A (a.put o.dst v) w) fun _ h=>h;refine ⟨v,fun w' hb=>?_,h3⟩;simp only [execOp,hop,hx,Instr.loadAt,Instr.sureAddr,Sem.run_bind,Sem.run_pure,Result.andThen_ok,yh hb h1 h2]
theorem aL (ho:ops[i]? =some o) (hg:o.guard=none) (h:∀ w',Bw w w'→∀ J:Act→World→Prop,(∀ a' w'',Below w'.heap.size w' w''→walk P ops Q N is A a' w''→J a' w'')→o.wp P a w' J Q):walk P ops Q N ((.ext,i)::is) A a w:=by
 unfold walk;simp only [ho,Region.wanted,hg,if_true];exact fun w' hb=>h w' hb _ fun a' w'' h1 h2=>⟨h1,h2⟩
theorem dU {cs:Array Value} {T:TypeId} (ho:ops[i]? =some o) (h:∀ b w',Bw w w'→N≤b→b<w'.heap.size→b∉A→w'.heap[b]? =some (.cells cs T (0,0))→walk P ops Q N is (b::A) (a.put o.dst (ay (some ⟨b,0,none⟩))) w'):walk P ops Q N ((.alloc cs T,i)::is) A a w:=by
 unfold walk;simp only [ho];exact h
theorem rX:∀ (js:List Nat) (l:List Oper) (a:Act) (w:World),js.map (ops[·]?)=l.map some→wpList P ops Q l a w→wpOps P ops Q js a w
 | [],[],_,_,_,h=>h
 | [],_:: _,_,_,hl,_=>by cases hl
 | _:: _,[],_,_,hl,_=>by cases hl
 | j::js,x::xs,a,w,hl,h=>by
  simp only [bH,jc] at hl;unfold wpList at h;simp only [wpOps,hl.1];split
  ·rename_i hw;simp only [hw,if_true] at h;exact h.imp (Oper.wp_mono fun a w h=>rX js xs a w hl.2 h) id
  ·rename_i hw;simp only [hw] at h;exact rX js xs _ _ hl.2 h
theorem cZ (l:List Oper) (hl:(i::is.map (·.2)).map (ops[·]?)=l.map some) (h:∀ w',Bw w w'→wpList P ops Q l a w'):walk P ops Q N ((.fin,i)::is) A a w:=by
 have hi:∃ o,ops[i]? =some o:=by
  cases l with
  | nil=>cases hl
  | cons x xs=>simp only [bH,jc] at hl;exact ⟨x,hl.1⟩
 obtain ⟨o,ho⟩:=hi;unfold walk;simp only [ho];exact fun w' hb=>rX _ l a w' hl (h w' hb)
end
end
end Go.SW
namespace Go.Mem
open Go Go.RowKit Go.SW Go.Num
def aA (w:World) (b:Nat) (cs:Array Value) (T:TypeId):Prop:=w.heap[b]? =some (.cells cs T (0,0))
theorem aA.lt {w:World} {b:Nat} {cs:Array Value} {T:TypeId} (h:aA w b cs T):b<w.heap.size:=by
 rcases aH b w.heap.size with h1|h1
 ·exact h1
 ·unfold aA at h;rw [bQ h1] at h;cases h
theorem aA.cell {w:World} {b:Nat} {cs:Array Value} {T:TypeId} (h:aA w b cs T) (o:Nat):w.cell? ⟨b,o,none⟩=cs[o]? :=by
 unfold aA at h;simp [World.cell?, h]
theorem aA.free {w:World} {b:Nat} {cs:Array Value} {T:TypeId} (h:aA w b cs T) (o:Nat):w.frozen? ⟨b,o,none⟩=false:=by
 unfold aA at h;simp [World.frozen?, h]
theorem aA.later {w w':World} {b:Nat} {cs:Array Value} {T:TypeId} (h:aA w b cs T) (hb:Bw w w'):aA w' b cs T:=by
 unfold aA;rw [hb.block b h.lt];exact h
theorem aA.new (w:World) (cs:Array Value) (T:TypeId):aA (w.alloc (.cells cs T (0,0))) w.heap.size cs T:=by
 show (w.heap.push _)[w.heap.size]? =_;simp
theorem aA.alloc {w:World} {b:Nat} {cs:Array Value} {T:TypeId} (h:aA w b cs T) (o:Obj):aA (w.alloc o) b cs T :=
 h.later ((Below.refl _ _).alloc (aC _) _)
theorem aA.drew {w:World} {b:Nat} {cs:Array Value} {T:TypeId} (h:aA w b cs T):aA w.drew b cs T:=h
theorem wG {w:World} {b:Nat} (a:Addr) (u:Value) (h:b≠a.block):(w.setCell a u).heap[b]? =w.heap[b]? :=Below.heap_setCell w a u b h
theorem aA.setOther {w:World} {b:Nat} {cs:Array Value} {T:TypeId} (h:aA w b cs T) {a:Addr} (u:Value) (hne:b≠a.block):aA (w.setCell a u) b cs T:=by
 unfold aA;rw [wG a u hne];exact h
theorem aA.set {w:World} {b:Nat} {cs:Array Value} {T:TypeId} (h:aA w b cs T) (o:Nat) (u:Value):aA (w.setCell ⟨b,o,none⟩ u) b (cs.setIfInBounds o u) T:=by
 have hl:=h.lt;unfold aA at h ⊢;have e:w.heap[b]= .cells cs T (0,0):=by simpa [hl] using h
 simp [World.setCell,hl,Array.getElem_modify,e]
theorem aA.ne {w:World} {b b':Nat} {cs cs':Array Value} {T T':TypeId} (h:aA w b cs T) (h':aA w b' cs' T') (hT:T≠T'):b≠b':=by
 rintro rfl;unfold aA at h h';rw [h] at h'
 injection h' with e
 injection e with _ e2
 exact hT e2
theorem Vx {w w':World} {n:Nat} (h:Below (w.drewN n).heap.size (w.drewN n) w'):Bw w w':=⟨h.os,h.tape,h.output,h.size,h.block⟩
theorem Bt {w w1 w2:World} (h:Bw w w1) (k:Bw w1 w2):Bw w w2:=nL h k
def Row (w:World) (T:TypeId) (v:Value) (xs:List Value):Prop :=
 ∃ a cap,v= ah a xs.length cap∧xs.length≤cap∧cap≤9223372036854775807∧(a=none→cap=0) ∧
  ∀ ad,a=some ad→ad.spot=none∧∃ arr,w.heap[ad.block]? =some (.cells arr T (0,0))∧∀ i (h:i<xs.length),arr[ad.off+i]? =some xs[i]
theorem Row.later {w w':World} {T:TypeId} {v:Value} {xs:List Value} (h:Row w T v xs) (hb:Bw w w'):Row w' T v xs:=by
 obtain ⟨a,cap,h1,h2,h3,h4,h5⟩:=h;refine ⟨a,cap,h1,h2,h3,h4,fun ad had=>?_⟩;obtain ⟨h6,arr,h7,h8⟩:=h5 ad had;have hx:aA w ad.block arr T:=h7;exact ⟨h6,arr,hx.later hb,h8⟩
theorem Row.setOther {w:World} {T:TypeId} {v:Value} {xs:List Value} (h:Row w T v xs) {b:Nat} {cs:Array Value} {T':TypeId} (hx:aA w b cs T') (hT:T≠T') (o:Nat) (u:Value):Row (w.setCell ⟨b,o,none⟩ u) T v xs:=by
 obtain ⟨a,cap,h1,h2,h3,h4,h5⟩:=h;refine ⟨a,cap,h1,h2,h3,h4,fun ad had=>?_⟩;obtain ⟨h6,arr,h7,h8⟩:=h5 ad had;have hy:aA w ad.block arr T:=h7;exact ⟨h6,arr,hy.setOther u (hy.ne hx hT),h8⟩
theorem Row.nil (w:World) (T:TypeId):Row w T (ah none 0 0) []:=⟨none,0,rfl,by simp,by simp,fun _=>rfl,fun _ h=>by cases h⟩
theorem Row.cases {w:World} {T:TypeId} {v:Value} {xs:List Value} (h:Row w T v xs) :
  (v= ah none 0 0∧xs=[])∨∃ b off cap arr,v= ah (some ⟨b,off,none⟩) xs.length cap∧xs.length≤cap∧cap≤9223372036854775807∧aA w b arr T∧∀ i (h:i<xs.length),arr[off+i]? =some xs[i]:=by
 obtain ⟨a,cap,h1,h2,h3,h4,h5⟩:=h;cases a with
 | none =>
  have h6:=h4 rfl;have h7:xs=[]:=List.length_eq_zero_iff.1 zo;subst h6 h7;exact .inl ⟨h1,rfl⟩
 | some ad =>
  obtain ⟨h6,arr,h7,h8⟩:=h5 ad rfl;obtain ⟨b,off,sp⟩:=ad;simp only at h6;subst h6;exact .inr ⟨b,off,cap,arr,h1,h2,h3,h7,h8⟩
theorem Row.mk {w:World} {T:TypeId} {xs:List Value} {b off cap n:Nat} {arr:Array Value} (hn:n=xs.length) (h2:xs.length≤cap) (h3:cap≤9223372036854775807) (h7:aA w b arr T) (h8:∀ i (h:i<xs.length),arr[off+i]? =some xs[i]) :
  Row w T (ah (some ⟨b,off,none⟩) n cap) xs:=by
 subst hn;exact ⟨_,_,rfl,h2,h3,(fun h=>by cases h),fun ad had=>by cases had;exact ⟨rfl,arr,h7,h8⟩⟩
def dX (l:List Nat):List Value:=l.map fun (d:Nat)=>Z .u32 (d:Int)
def ints (l:List Nat):List Value:=l.map fun (d:Nat)=>Z I (d:Int)
theorem fI (l:List Nat):(dX l).length=l.length:=by simp [dX]
theorem dH (l:List Nat):(ints l).length=l.length:=by simp [ints]
def aZ (w:World) (v:Value) (n:Nat):Prop:=Row w 22 v (dX (d9 1000000000 n))
theorem aZ.later {w w':World} {v:Value} {n:Nat} (h:aZ w v n) (hb:Bw w w'):aZ w' v n:=Row.later h hb
theorem aZ.setOther {w:World} {v:Value} {n:Nat} (h:aZ w v n) {b:Nat} {cs:Array Value} {T':TypeId} (hx:aA w b cs T') (hT:22≠T') (o:Nat) (u:Value):aZ (w.setCell ⟨b,o,none⟩ u) v n:=Row.setOther h hx hT o u
def nR (w:World) (v:Value) (l:List Nat):Prop:=Row w 22 v (dX l)
theorem nR.later {w w':World} {v:Value} {l:List Nat} (h:nR w v l) (hb:Bw w w'):nR w' v l:=Row.later h hb
theorem nR.cases {w:World} {v:Value} {l:List Nat} (h:nR w v l) :
  (v= ah none 0 0∧l=[])∨∃ b off cap,v= ah (some ⟨b,off,none⟩) l.length cap∧l.length≤cap∧cap≤9223372036854775807∧b<w.heap.size∧(∃ arr,aA w b arr 22)∧∀ i,i<l.length→w.cell? ⟨b,off+i,none⟩=some (.int .u32 (l.getD i 0:Nat)):=by
 rcases Row.cases h with ⟨h1,h2⟩|⟨b,off,cap,arr,h1,h2,h3,h4,h5⟩
 ·refine .inl ⟨h1,?_⟩;unfold dX at h2
  simpa using h2
 ·refine .inr ⟨b,off,cap,by rw [h1,fI],by rwa [fI] at h2,h3,h4.lt,⟨arr,h4⟩,fun i hi=>?_⟩;rw [h4.cell,h5 i (by rw [fI];exact hi)];simp [dX,hi]
theorem nR.read {w:World} {v:Value} {l:List Nat} (h:nR w v l) :
  ∃ a cap,v= ah a l.length cap∧l.length≤cap∧cap≤9223372036854775807∧∀ k,k<l.length→∃ b off,a=some ⟨b,off,none⟩∧b<w.heap.size∧w.cell? ⟨b,off+k,none⟩=some (.int .u32 (l.getD k 0:Nat)):=by
 rcases nR.cases h with ⟨rfl,rfl⟩|⟨b,off,cap,rfl,h1,h2,h3,_,h5⟩
 ·exact ⟨none,0,rfl,by simp,by simp,fun k hk=>by cases hk⟩
 ·exact ⟨some ⟨b,off,none⟩,cap,rfl,h1,h2,fun k hk=>⟨b,off,rfl,h3,h5 k hk⟩⟩
theorem aZ.OO {w:World} {v:Value} {l:List Nat} (h:nR w v l) (hd:fV 1000000000 l) (ht:Top l):aZ w v (val 1000000000 l):=by
 unfold aZ;rw [FU zo hd ht];exact h
theorem aZ.Cv {w:World} {v:Value} {n:Nat} (h:aZ w v n):nR w v (d9 1000000000 n):=h
theorem Row.gP {w:World} {base k:Nat} {T:TypeId} {v:Value} {xs:List Value} (h:w.ownsRow base T 1 v k xs):Row w T v xs:=by
 obtain ⟨h1,h2|⟨g,cap,cur,h3,h4,h5,h6,h7,h8,h9⟩⟩:=h
 ·obtain ⟨rfl,rfl⟩:=h2;have:xs=[]:=List.length_eq_zero_iff.1 zo;subst this;exact Row.nil _ _
 ·rw [Nat.mul_one] at h1 h8 h9;subst h3;unfold maxLen at h7;refine Row.mk h1.symm zo h7 h5 fun i hi=>?_;have hik:i<k:=by omega
  rw [dP];have:xs[i]? =(cur.toList.take k)[i]? :=by rw [h9]
  rw [List.getElem?_take_of_lt hik] at this;rw [← Array.getElem?_toList,← this];simp [hi]
theorem nR.gP {w:World} {base k:Nat} {v:Value} {s:List Nat} (h:w.ownsRow base 22 1 v k (dX s)):nR w v s:=Row.gP h
theorem tJ (n:Nat):(madeCells #[Value.int .u32 0] n).toList=dX (bJ n 0):=by
 rw [toList_madeCells_one];simp [dX]
theorem mX (l:List Nat) (k d:Nat):(dX l).set k (Z .u32 (d:Int))=dX (l.set k d):=by simp [dX,List.map_set]
theorem oQ {l:List Nat} {k:Nat} (h:k<l.length):(dX l)[k]? =some (.int .u32 (l.getD k 0:Nat)):=by simp [dX,h]
theorem II (w:World) (g:Option Nat):w.grownBy w g:=⟨rfl,rfl,rfl,aC _,fun _ _ _=>rfl⟩
theorem nk {a w:World} {g:Option Nat} (h:a.grownBy w g) (n:Nat):a.grownBy (w.drewN n) g:=⟨h.os,h.tape,h.output,h.size,h.block⟩
theorem wm {a w:World} {g:Nat} (h:a.grownBy w (some g)) (o:Nat) (u:Value):a.grownBy (w.setCell ⟨g,o,none⟩ u) (some g) :=
 ⟨h.os,h.tape,h.output,by simpa [World.setCell] using h.size,fun i hi hne=>(Below.heap_setCell w _ u i (by rintro rfl;exact hne rfl)).trans (h.block i hi hne)⟩
theorem yj {B g:Nat} {a b c:World} (h:Below B a b) (k:b.grownBy c (some g)) (hB:B≤b.heap.size) (hg:B≤g):Below B a c :=
 h.grown k hB (fun k hk=>by cases hk;exact hg)
theorem wR {w:World} {base g n:Nat} {T:TypeId} {xs:List Value} (h:w.ownsRow base T 1 (ah (some ⟨g,0,none⟩) n n) n xs):aA w g xs.toArray T∧base≤g:=by
 obtain ⟨h1,h2|⟨g',cap,cur,h3,h4,h5,h6,h7,h8,h9⟩⟩:=h
 ·cases h2.1
 ·simp only [Value.slice.injEq,Option.some.injEq,Addr.mk.injEq,and_true,true_and] at h3;obtain ⟨rfl,rfl⟩:=h3;rw [Nat.mul_one] at h8 h9;rw [fu (by rw [Array.length_toList,h8];exact aC _)] at h9;exact ⟨by unfold aA;rw [h5,← h9],h4⟩
theorem nR.yN {w:World} {g n m:Nat} {l post:List Nat} (h:aA w g (dX (l++post)).toArray 22) (hl:l.length=n) (hm:n≤m) (hm2:m≤9223372036854775807):nR w (ah (some ⟨g,0,none⟩) n m) l:=by
 refine Row.mk (by rw [fI];omega) (by rw [fI];omega) hm2 h fun i hi=>?_;rw [fI] at hi;rw [dP,List.getElem?_toArray];simp [dX,hi,eO]
theorem aZ.lit {w:World} {d:Nat} (h0:0<d) (h1:d<1000000000):aZ (w.alloc (.cells #[Z .u32 d] 22 (0,0))) (ah (some ⟨w.heap.size,0,none⟩) 1 1) d:=by
 have e:d9 1000000000 d=[d]:=by rw [mD zo h0,fQ h1,fD h1,iA]
 unfold aZ;rw [e];refine Row.mk rfl (by simp [dX]) zo (aA.new _ _ _) fun i hi=>?_
 match i,hi with
 | 0,_=>rfl
theorem aZ.zero (w:World):aZ w (ah none 0 0) 0:=by unfold aZ;rw [iA];exact Row.nil _ _
theorem Jq (l:List Nat):∀ v∈dX l,v.oneCell'=true:=fun v hv=>by
 obtain ⟨d,_,rfl⟩:=List.mem_map.1 hv;rfl
theorem nR.src {w:World} {a:Option Addr} {l:List Nat} (h:∀ k,k<l.length→∃ b off,a=some ⟨b,off,none⟩∧b<w.heap.size∧w.cell? ⟨b,off+k,none⟩=some (.int .u32 (l.getD k 0:Nat))) (hl:0<(dX l).length) :
  ∃ ad,a=some ad∧∀ j v,(dX l)[j]? =some v→w.cell? (ad.add j)=some v:=by
 rw [fI] at hl;obtain ⟨b,off,rfl,_,_⟩:=h 0 hl;refine ⟨_,rfl,fun j v hv=>?_⟩
 have hj:j<l.length:=by
  have:=(List.getElem?_eq_some_iff.1 hv).1;rwa [fI] at this
 obtain ⟨b',off',h1,_,h3⟩:=h j hj;simp only [Option.some.injEq,Addr.mk.injEq,and_true] at h1;obtain ⟨rfl,rfl⟩:=h1;rw [oQ hj] at hv;rw [Addr.add_lit,h3,← hv]
end Go.Mem
namespace Go.Mem
open Go Go.RowKit
variable {P:Program} {fn:Func} {R:Ending→World→Prop} {w:World} {tmps:Array Value}
theorem vR {p u:Tmp} {ty t:TypeId} {g:Nat} {cs:Array Value} {d:TypeDesc} (h:fn.results=#[.cell p ty,.tmp u])
  (hp:tmps.getD p undef= ay (some ⟨g,0,none⟩)) (hg:aA w g cs t) (hu:P.underlying ty=some d)
  (hd:(match d with| .struct _| .array _ _=>true| _=>false)=true) (hi:(P.info? ty).map (·.size)=some cs.size) :
  (results fn tmps).run P w= .ok (aD #[aB cs,tmps.getD u undef]) w:=by
 rw [results_cell_tmp h,hp];simp only [asAddr,Sem.run_pure,Result.andThen_ok];rw [run_loadVar_row w g t ty cs (0,0) d hg hu hd hi];rfl
theorem bX {p u:Tmp} {ty t:TypeId} {g:Nat} {cs:Array Value} {d:TypeDesc} (h:fn.results=#[.cell p ty,.tmp u])
  (hp:tmps.getD p undef= ay (some ⟨g,0,none⟩)) (hg:aA w g cs t) (hu:P.underlying ty=some d)
  (hd:(match d with| .struct _| .array _ _=>true| _=>false)=true) (hi:(P.info? ty).map (·.size)=some cs.size)
  (k:R (aj (aD #[aB cs,tmps.getD u undef])) w):bodyPost P fn R .ret { tmps:=tmps,defers:=[] } w :=
 bodyPost_ret (vR h hp hg hu hd hi) rfl k
theorem gG {p:Tmp} {ty t:TypeId} {g:Nat} {cs:Array Value} {d:TypeDesc} (h:fn.results=#[.cell p ty])
  (hp:tmps.getD p undef= ay (some ⟨g,0,none⟩)) (hg:aA w g cs t) (hu:P.underlying ty=some d)
  (hd:(match d with| .struct _| .array _ _=>true| _=>false)=true) (hi:(P.info? ty).map (·.size)=some cs.size)
  (k:R (aj (aB cs)) w):bodyPost P fn R .ret { tmps:=tmps,defers:=[] } w :=
 bodyPost_ret (results_cell_row h tmps w g t cs (0,0) d hp hg hu hd hi) rfl k
end Go.Mem
namespace Go.Dec
open Go.Num Go.Lib
theorem iY {u:Nat} (h:u<10):decDigits u=[UInt8.ofNat (48+u)]:=by rw [decDigits,dif_pos h]
theorem rO {u:Nat} (h:¬ u<10):decDigits u=decDigits (u / 10)++[UInt8.ofNat (48+u%10)]:=by rw [decDigits,dif_neg h]
theorem wM (u:Nat):decDigits u≠[]:=by
 by_cases h:u<10
 ·rw [iY h];simp
 ·rw [rO h];simp
theorem wO (u:Nat):1≤(decDigits u).length:=List.length_pos_iff.mpr (wM u)
def pad:Nat→Nat→List UInt8
 | 0,_=>[]
 | k+1,r=>pad k (r / 10)++[UInt8.ofNat (48+r%10)]
theorem qM:∀ k r,(pad k r).length=k
 | 0,_=>rfl
 | k+1,r=>by simp [pad,qM k]
theorem EU:∀ k,pad k 0=bJ k 48
 | 0=>rfl
 | k+1=>by
  rw [pad,Nat.zero_div,EU k,List.replicate_succ'];rfl
theorem Di:∀ (k q r:Nat),0<q→r<10^k→decDigits (q*10^k+r)=decDigits q++pad k r
 | 0,q,r,hq,hr=>by
  have:r=0:=by simpa using hr
  subst this;simp [pad]
 | k+1,q,r,hq,hr=>by
  have hp:0<10^k:=Nat.pow_pos zd;have e:q*10^(k+1)+r=10*(q*10^k)+r:=by rw [bS,aJ 10,dA]
  have h1:0<q*10^k:=gV hq hp
  rw [rO zo,e,show (10*(q*10^k)+r) / 10=q*10^k+r / 10 by omega,show (10*(q*10^k)+r)%10=r%10 by omega,
   Di k q (r / 10) hq (by rw [bS] at hr;omega),pad,jP]
theorem Ak:∀ (k r:Nat),0<k→r<10^k→bJ (k - (decDigits r).length) 48++decDigits r=pad k r
 | 0,_,h,_=>by omega
 | k+1,r,_,hr=>by
  by_cases h:r<10
  ·rw [iY h,pad,fD h,fQ h,EU];simp
  ·have hk:0<k:=by
    rcases aY k with h0|h0
    ·subst h0;simp at hr;omega
    ·exact h0
   rw [rO h,pad,← Ak k (r / 10) hk (by rw [bS] at hr;omega)];simp
theorem nD:∀ (k r:Nat),0<k→r<10^k→(decDigits r).length≤k:=fun k r hk hr=>by
 by_cases h:(decDigits r).length≤k
 ·exact h
 ·have h1:=congrArg List.length (Ak k r hk hr);rw [List.length_append,List.length_replicate,qM] at h1;omega
theorem FV (n:Nat):n<10^(decDigits n).length:=by
 induction n using gN with
 | _ n ih =>
  by_cases h:n<10
  ·rw [iY h];simpa using h
  ·rw [rO h,List.length_append,List.length_singleton,bS];have:=ih (n / 10) zo;omega
def num (l:List UInt8):Nat:=l.foldl (fun v b=>v*10+(b.toNat - 48)) 0
def rA (l:List UInt8):Prop:=∀ b∈l,48≤b.toNat∧b.toNat≤57
theorem qN (l:List UInt8) (b:UInt8):num (l++[b])=num l*10+(b.toNat - 48):=by simp [num]
theorem JQ:num []=0:=rfl
theorem Bq:∀ (m:List UInt8) (v:Nat),m.foldl (fun v b=>v*10+(b.toNat - 48)) v=v*10^m.length+num m
 | [],v=>by simp [num]
 | b::m,v=>by
  have h1:=Bq m (v*10+(b.toNat - 48));have h2:=Bq m (0*10+(b.toNat - 48));rw [List.foldl_cons,h1];have e:num (b::m)=m.foldl (fun v b=>v*10+(b.toNat - 48)) (0*10+(b.toNat - 48)):=rfl;rw [e,h2,aV,bS,dM,dM,dA,aJ (10^m.length) 10];omega
theorem Fb (l m:List UInt8):num (l++m)=num l*10^m.length+num m:=by
 unfold num;rw [List.foldl_append,Bq];rfl
theorem Ll {α:Type} {Q:List α→Prop} (h0:Q []) (h1:∀ l a,Q l→Q (l++[a])) (l:List α):Q l:=by
 have h:∀ m:List α,Q m.reverse:=fun m=>by
  induction m with
  | nil=>exact h0
  | cons a m ih=>rw [List.reverse_cons];exact h1 _ _ ih
 have:=h l.reverse
 rwa [List.reverse_reverse] at this
theorem Vz (l:List UInt8):rA l→num l<10^l.length :=
 Ll (Q:=fun l=>rA l→num l<10^l.length) (fun _=>by simp [num]) (fun l b ih h=>by
  rw [qN,List.length_append,List.length_singleton,bS];have h1:=ih fun x hx=>h x (by simp [hx]);have h2:=h b zi;omega) l
theorem MP {l m:List UInt8} (h:rA l) (k:rA m):rA (l++m):=fun b hb=>by
 rcases List.mem_append.mp hb with hb|hb
 ·exact h b hb
 ·exact k b hb
theorem oJ {d:Nat} (h:d<10):(UInt8.ofNat (48+d)).toNat=48+d:=by
 rw [UInt8.toNat_ofNat'];omega
theorem nZ (n:Nat):rA (decDigits n):=by
 induction n using gN with
 | _ n ih =>
  by_cases h:n<10
  ·rw [iY h];intro b hb;rw [List.mem_singleton] at hb;subst hb;rw [oJ h];omega
  ·rw [rO h];refine MP (ih _ zo) fun b hb=>?_;rw [List.mem_singleton] at hb;subst hb;rw [oJ zo];omega
theorem oM (n:Nat):num (decDigits n)=n:=by
 induction n using gN with
 | _ n ih =>
  by_cases h:n<10
  ·rw [iY h,← List.nil_append [UInt8.ofNat (48+n)],qN,JQ,oJ h];omega
  ·rw [rO h,qN,ih _ zo,oJ zo];omega
theorem ab0 (l:List UInt8):rA l→l≠[]→(l.head? =some 48→l.length=1)→decDigits (num l)=l :=
 Ll (Q:=fun l=>rA l→l≠[]→(l.head? =some 48→l.length=1)→decDigits (num l)=l) (fun _ h=>absurd rfl h) (fun l b ih hd _ h0=>by
  have hb:=hd b zi
  have hbe:UInt8.ofNat (48+(b.toNat - 48))=b:=by
   rw [show 48+(b.toNat - 48)=b.toNat by omega];exact UInt8.ofNat_toNat
  by_cases hl:l=[]
  ·subst hl;rw [qN,JQ,List.nil_append,iY zo,Nat.zero_mul,dP,hbe]
  ·have hdl:rA l:=fun x hx=>hd x (by simp [hx])
   have hh:l.head? ≠some 48:=fun e=>by
    have e2:(l++[b]).head? =some 48:=by rw [List.head?_append,e];rfl
    have:=h0 e2;rw [List.length_append,List.length_singleton] at this;have:=List.length_pos_iff.mpr hl;omega
   have ih2:=ih hdl hl (fun e=>absurd e hh)
   have hpos:0<num l:=by
    rcases aY (num l) with e|e
    ·rw [e,iY zo] at ih2;rw [← ih2] at hh;exact absurd rfl hh
    ·exact e
   rw [qN,rO zo,show (num l*10+(b.toNat - 48)) / 10=num l by omega,show (num l*10+(b.toNat - 48))%10=b.toNat - 48 by omega,ih2,hbe]) l
theorem wP {n:Nat} (h:(decDigits n).head? =some 48):n=0:=by
 induction n using gN with
 | _ n ih =>
  by_cases hn:n<10
  ·rw [iY hn] at h;simp only [List.head?_cons,Option.some.injEq] at h;have:=congrArg UInt8.toNat h;rw [oJ hn] at this;simp at this
   omega
  ·rw [rO hn] at h
   have h2:(decDigits (n / 10)).head? =some 48:=by
    cases hq:decDigits (n / 10) with
    | nil=>exact absurd hq (wM _)
    | cons x t=>rw [hq] at h;simpa using h
   have:=ih _ zo h2;omega
def gT (d:List UInt8) (neg:Bool):Bool :=
 d≠[]&&d.length≤600&&d.all (fun b=>48≤b.toNat&&b.toNat≤57)&& !(d.head? == some 48&&(neg || 1<d.length))
def cut (s:List UInt8):List UInt8 × Bool:=if s.head? =some 45 then (s.tail,true) else (s,false)
def mk (n:Nat) (neg:Bool):Int:=if neg then -(n:Int) else n
def whole (s:List UInt8):Option Int:=if gT (cut s).1 (cut s).2 then some (mk (num (cut s).1) (cut s).2) else none
theorem rG {d:List UInt8} {neg:Bool} (h:gT d neg=true):rA d:=by
 intro b hb;unfold gT at h;simp only [aF] at h;have:=List.all_eq_true.mp h.1.2 b hb
 simpa using this
theorem oz {s:List UInt8} {z:Int} (h:whole s=some z):s=itoa z∧(decDigits z.natAbs).length≤600:=by
 unfold whole at h;split at h
 ·rename_i hok;have hd:=rG hok;unfold gT at hok;simp only [aF,jO,decide_eq_true_eq] at hok;obtain ⟨⟨⟨h1,h2⟩, -⟩,h4⟩:=hok
  have hlen:(cut s).1.head? =some 48→(cut s).1.length=1:=fun e=>by
   have:=List.length_pos_iff.mpr h1;rw [e] at h4;simp at h4
   omega
  have hdn:=ab0 _ hd h1 hlen;simp only [Option.some.injEq] at h;unfold cut at *
  by_cases hs:s.head? =some 45
  ·rw [if_pos hs] at *;simp only at *
   have hz:0<num s.tail:=by
    rcases aY (num s.tail) with e|e
    ·rw [e,iY zo] at hdn;rw [← hdn] at h4;simp at h4
    ·exact e
   subst h;have e1:mk (num s.tail) true= -((num s.tail:Nat):Int):=rfl;have e2:(-((num s.tail:Nat):Int)).natAbs=num s.tail:=by omega
   rw [e1,e2,hdn];refine ⟨?_,h2⟩;unfold itoa;rw [if_pos zo,e2,hdn];cases s with
   | nil=>simp at hs
   | cons x t=>simp only [List.head?_cons,Option.some.injEq] at hs;subst hs;rfl
  ·rw [if_neg hs] at *;simp only at *;subst h;have e1:mk (num s) false=((num s:Nat):Int):=rfl;rw [e1,Int.natAbs_natCast,hdn];refine ⟨?_,h2⟩;unfold itoa;rw [if_neg zo,Int.toNat_natCast,hdn]
 ·simp at h
theorem gF {z:Int} (h:(decDigits z.natAbs).length≤600):whole (itoa z)=some z:=by
 unfold whole
 by_cases hz:z<0
 ·have e:itoa z=45::decDigits z.natAbs:=by unfold itoa;rw [if_pos hz]
  have ec:cut (itoa z)=(decDigits z.natAbs,true):=by rw [e];rfl
  rw [ec];have hh:(decDigits z.natAbs).head? ≠some 48:=fun e=>by have:=wP e;omega
  rw [if_pos,oM]
  ·have:mk z.natAbs true=z:=by unfold mk;rw [if_pos rfl];omega
   rw [this]
  ·unfold gT;have hd:=nZ z.natAbs;simp only [aF,decide_eq_true_eq,dI,jO,Bool.and_eq_false_iff];exact ⟨⟨⟨wM _,h⟩,hd⟩,.inl (by simpa using hh)⟩
 ·have e:itoa z=decDigits z.natAbs:=by unfold itoa;rw [if_neg hz,show z.toNat=z.natAbs by omega]
  have hnm:(itoa z).head? ≠some 45:=by
   rw [e];intro h1;have hd:=nZ z.natAbs;cases hq:decDigits z.natAbs with
   | nil=>exact wM _ hq
   | cons x t =>
    rw [hq] at h1 hd;simp only [List.head?_cons,Option.some.injEq] at h1;have:=hd x zi;subst h1;simp at this
  have ec:cut (itoa z)=(decDigits z.natAbs,false):=by unfold cut;rw [if_neg hnm,e]
  rw [ec,if_pos,oM]
  ·have:mk z.natAbs false=z:=by unfold mk;simp;omega
   rw [this]
  ·unfold gT;have hd:=nZ z.natAbs;simp only [aF,decide_eq_true_eq,dI,jO,Bool.and_eq_false_iff];refine ⟨⟨⟨wM _,h⟩,hd⟩,?_⟩
   by_cases hh:(decDigits z.natAbs).head? =some 48
   ·have:=wP hh
    right
    rw [this,iY zo];rfl
   ·exact .inl (by simpa using hh)
theorem MU (z:Int):cut (itoa z)=(decDigits z.natAbs,decide (z<0)):=by
 by_cases hz:z<0
 ·have e:itoa z=45::decDigits z.natAbs:=by unfold itoa;rw [if_pos hz]
  rw [e,decide_eq_true hz];rfl
 ·have e:itoa z=decDigits z.natAbs:=by unfold itoa;rw [if_neg hz,show z.toNat=z.natAbs by omega]
  have hnm:(itoa z).head? ≠some 45:=by
   rw [e];intro h1;have hd:=nZ z.natAbs;cases hq:decDigits z.natAbs with
   | nil=>exact wM _ hq
   | cons x t =>
    rw [hq] at h1 hd;simp only [List.head?_cons,Option.some.injEq] at h1;have:=hd x zi;subst h1;simp at this
  unfold cut;rw [if_neg hnm,e,decide_eq_false hz]
theorem zY {a b:Int} (h:itoa a=itoa b):a=b:=by
 unfold itoa at h
 have key:∀ (n m:Nat),45::decDigits n≠decDigits m:=fun n m e=>by
  have:=nZ m 45 (by rw [← e];simp);simp at this
 by_cases ha:a<0<;>by_cases hb:b<0
 ·rw [if_pos ha,if_pos hb] at h;have:=congrArg num (List.cons.inj h).2;rw [oM,oM] at this;omega
 ·rw [if_pos ha,if_neg hb] at h;exact absurd h (key _ _)
 ·rw [if_neg ha,if_pos hb] at h;exact absurd h.symm (key _ _)
 ·rw [if_neg ha,if_neg hb] at h;have:=congrArg num h;rw [oM,oM] at this;omega
theorem I5 {l:List Nat} {i:Nat} (hi:i<l.length) (hd:fV 1000000000 l) (hp:0<val 1000000000 (l.drop (i+1))) :
  decDigits (val 1000000000 (l.drop i))=decDigits (val 1000000000 (l.drop (i+1)))++(bJ (9 - (decDigits (l.getD i 0)).length) 48++decDigits (l.getD i 0)):=by
 have hx:l.getD i 0<10^9:=hd.getD zo i;rw [Ak 9 _ zo hx,uz hi,← Di 9 _ _ hp hx]
theorem DC {l:List Nat} (h:Top l) (i:Nat):Top (l.drop i):=fun k hk=>by
 rw [List.length_drop] at hk;have:=h (i+k) zo;rw [cO,jw]
 rwa [cO] at this
theorem wN {l:List Nat} (h:fV 1000000000 l):(decDigits (val 1000000000 l)).length≤9*l.length+1:=by
 refine nD _ _ zo (aP (jd zo h) ?_);rw [show (1000000000:Nat)=10^9 by rfl,← Nat.pow_mul];exact bW zo zo
theorem Vl {l:List Nat} {n i:Nat} (hn:l.length=n+1) (ht:Top l) (hi:i≤n):0<val 1000000000 (l.drop i) :=
 jA zo (DC ht i) (fun e=>by have:=congrArg List.length e;rw [List.length_drop,hn] at this;simp at this;omega)
theorem GR {l:List Nat} {n:Nat} (hn:l.length=n+1):val 1000000000 (l.drop n)=l.getD n 0:=by
 rw [kF zo,List.drop_eq_nil_of_le zo];simp [val]
theorem MR {l:List Nat} {n:Nat} (hn:l.length=n+1) (hd:fV 1000000000 l) (ht:Top l):(decDigits (val 1000000000 l)).length=9*n+(decDigits (l.getD n 0)).length:=by
 have key:∀ j,j≤n→(decDigits (val 1000000000 (l.drop (n - j)))).length=9*j+(decDigits (l.getD n 0)).length:=fun j=>by
  induction j with
  | zero=>intro _;rw [Nat.sub_zero,GR hn];omega
  | succ j ih =>
   intro hj;have h1:=I5 (l:=l) (i:=n - (j+1)) zo hd (Vl hn ht zo);rw [show n - (j+1)+1=n - j by omega] at h1;have h2:(decDigits (l.getD (n - (j+1)) 0)).length≤9:=nD 9 _ zo (hd.getD zo _);rw [h1,List.length_append,ih zo,List.length_append,List.length_replicate];omega
 have:=key n (aC _)
 rwa [Nat.sub_self,List.drop_zero] at this
theorem qA {bs:List UInt8} {s e:Nat} (h:s≤e) (he:e≤bs.length):num (bs.drop s)=num ((bs.take e).drop s)*10^(bs.length - e)+num (bs.drop e):=by
 have e1:bs.drop s=(bs.take e).drop s++bs.drop e:=by
  conv=>lhs;rw [← gJ e bs]
  rw [List.drop_append_of_le_length (by rw [List.length_take];omega)]
 rw [e1,Fb,List.length_drop]
theorem vL {bs:List UInt8} {st i:Nat} {x:UInt8} (hst:st≤i) (hx:bs[i]? =some x):(bs.take (i+1)).drop st=(bs.take i).drop st++[x]:=by
 have hi:i<bs.length:=by
  rcases aH i bs.length with h|h
  ·exact h
  ·rw [List.getElem?_eq_none h] at hx;simp at hx
 rw [List.take_add_one,hx,Option.toList_some,List.drop_append_of_le_length (by rw [List.length_take];omega)]
theorem FP {bs:List UInt8} (hd:rA bs) {st i:Nat} (h9:i - st≤9):num ((bs.take i).drop st)<1000000000:=by
 have h1:=Vz ((bs.take i).drop st) (fun b hb=>hd b (List.mem_of_mem_take (List.mem_of_mem_drop hb)));have h2:(10:Nat)^((bs.take i).drop st).length≤10^9:=bW zo (by rw [List.length_drop,List.length_take];omega);omega
theorem Cc {bs:List UInt8} (hd:rA bs) {st i:Nat} {x:UInt8} (hst:st≤i) (h9:i - st<9) (hx:bs[i]? =some x) :
  (((num ((bs.take i).drop st):Nat):Int)*10%4294967296+((x.toNat:Int) - 48)%256)%4294967296=(num ((bs.take (i+1)).drop st):Nat):=by
 have hb:=hd x (List.mem_of_getElem? hx);have h2:=FP hd (i:=i+1) (st:=st) zo;rw [vL hst hx,qN] at h2 ⊢;omega
end Go.Dec
