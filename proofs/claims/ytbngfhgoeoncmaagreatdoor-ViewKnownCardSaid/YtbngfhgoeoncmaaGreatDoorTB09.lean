/- Lemmas for the proof. No condition. -/
import Derived.Test.YtbngfhgoeoncmaaGreatDoorTB08
set_option linter.unusedVariables false
set_option linter.unusedSimpArgs false
set_option maxRecDepth 100000
set_option maxHeartbeats 16000000
open Go.Ending renaming returned → ah
open Go.IntKind renaming i64 → I
open Go.Value renaming agg → aB, bool → aC, int → Z, pointer → au, tuple → aF
open List renaming getElem?_append_left → fq
open Nat renaming le_refl → aG, le_trans → ay
open Prod.mk renaming injEq → dW
namespace Go.Fx
open Go Go.RowKit Go.SW Go.Mem
def Pos.next:Pos→Option (Array Oper × Oper)
 | .reg ops (i:: _) _=>(ops[i]?).map fun o=>(ops,o)
 | .rZ ops _ ((.ext,i):: _) _ _=>(ops[i]?).map fun o=>(ops,o)
 | _=>none
def Pos.past:Pos→Pos
 | .reg ops (_::is) k=>.reg ops is k
 | .rZ ops Hj (_::is) A k=>.rZ ops Hj is A k
 | p=>p
def qB (P:Program) (n:Nat) (w:World) (S:Sl) (p:Pos):Option (Nat × FuncId × Array Value × World):=match p.next with
 | some (ops,o)=>(match fit ops S o,Region.wanted o (yl ops S),o.dst with
  | true,true,some d=>(match Nat.blt d n with
   | true=>(match (execOp (ev S) o).run P w with
    | .ok (.enter f args) w'=>some (d,f,args,w')
    | _=>none)
   | false=>none)
  | _,_,_=>none)
 | none=>none
def tZ (P:Program) (n:Nat) (w:World) (S:Sl) (p:Pos):Option (Nat × Value × World):=match p.next with
 | some (ops,o)=>(match fit ops S o,Region.wanted o (yl ops S),o.dst with
  | true,true,some d=>(match Nat.blt d n with
   | true=>(match (execOp (ev S) o).run P w with
    | .ok (.value v) w'=>some (d,v,w')
    | _=>none)
   | false=>none)
  | _,_,_=>none)
 | none=>none
def Pos.may (j:Nat):Pos→Bool
 | .rZ _ Hj _ _ _=>Hj.contains j
 | _=>true
def Pos.Fz:Pos→Bool
 | .rZ _ _ is _ _=> !is.any (fun x=>IY x.1)
 | _=>true
section
variable {P:Program} {n:Nat} {R:Post} {w0:World} {H0:List Nat} {p:Pos} {S:Sl} {L L':Mm}
theorem jR {w w':World} {d:Nat} {f:FuncId} {args:Array Value} (h:qB P n w S p=some (d,f,args,w')) :
  ∃ ops o,p.next=some (ops,o)∧fit ops S o=true∧Region.wanted o (yl ops S)=true∧o.dst=some d∧d<n∧(execOp (ev S) o).run P w= .ok (.enter f args) w':=by
 unfold qB at h;split at h
 ·rename_i ops o ho;split at h
  ·rename_i d' hf hw hd;split at h
   ·rename_i hb;split at h
    ·rename_i hr;cases h
     exact ⟨ops,o,ho,hf,hw,hd,Nat.le_of_ble_eq_true hb,hr⟩
    ·cases h
   ·cases h
  ·cases h
 ·cases h
theorem vM {w w':World} {d:Nat} {v:Value} (h:tZ P n w S p=some (d,v,w')) :
  ∃ ops o,p.next=some (ops,o)∧fit ops S o=true∧Region.wanted o (yl ops S)=true∧o.dst=some d∧d<n∧(execOp (ev S) o).run P w= .ok (.value v) w':=by
 unfold tZ at h;split at h
 ·rename_i ops o ho;split at h
  ·rename_i d' hf hw hd;split at h
   ·rename_i hb;split at h
    ·rename_i hr;cases h
     exact ⟨ops,o,ho,hf,hw,hd,Nat.le_of_ble_eq_true hb,hr⟩
    ·cases h
   ·cases h
  ·cases h
 ·cases h
theorem place {ops:Array Oper} {o:Oper} (hn:p.next=some (ops,o)) (hf:fit ops S o=true) (hw:Region.wanted o (yl ops S)=true) {Y:Nat→List Nat→World→Act→Act→World→Prop}
  (h:∀ w N H,Mem w0 H0 L w→ok w0 N H p L→∀ a,sK n S a→∀ K:Act→World→Prop,(∀ a' w',Y N H w a a' w'→K a' w')→∀ k,o.wp P a w K (lift n (Cont P n R k)))
  (hY:∀ w N H,Mem w0 H0 L w→ok w0 N H p L→∀ a a' w',sK n S a→Y N H w a a' w'→(∀ ops Hj is A k,p= .rZ ops Hj is A k→qI H w w')∧∃ S',sK n S' a'∧W P n R N H p.past S' w'):G P n R w0 H0 p S L:=⟨fun w N H hM hok=>by
 cases p with
 | code c k=>cases hn
 | nx e k=>cases hn
 | reg ops' is k =>
  cases is with
  | nil=>cases hn
  | cons i is =>
   obtain ⟨o',ho,he⟩:=Option.map_eq_some_iff.1 hn;cases he
   intro a ha;unfold wpOps;simp only [ho,ha.wanted (nQ hf)];rw [if_pos hw];refine .inl (h w N H hM hok a ha _ (fun a' w' hy=>?_) k);obtain ⟨-, S',h1,h2⟩:=hY w N H hM hok a a' w' ha hy;exact h2 a' h1
 | rZ ops' Hj is A k =>
  cases is with
  | nil=>cases hn
  | cons x is =>
   obtain ⟨kd,i⟩:=x;cases kd with
   | ext =>
    obtain ⟨o',ho,he⟩:=Option.map_eq_some_iff.1 hn;cases he
    intro a ha;unfold Bv.walk;simp only [ho,ha.wanted (nQ hf)];rw [if_pos hw];intro w1 hb;refine h w1 N H (hM.later hb) hok a ha _ (fun a' w' hy=>?_) k;obtain ⟨h0,S',h1,h2⟩:=hY w1 N H (hM.later hb) hok a a' w' ha hy;exact ⟨h0 _ _ _ _ _ rfl,h2 a' h1⟩
   | _=>cases hn⟩
theorem uP {N:Nat} {H:List Nat} (hok:ok w0 N H p L) (hb:∀ j,blk L' j=blk L j) (hwr:wrt L'=wrt L):ok w0 N H p.past L':=by
 have hbl:blk L'=blk L:=funext hb;cases p with
 | reg ops is k=>cases is<;>exact trivial
 | rZ ops Hj is A k =>
  obtain ⟨k1,k2,k3,k4⟩:=hok
  have key:∀ (j:Nat) (x:Bx),L'[j]? =some x→∃ y,L[j]? =some y∧y.b=x.b:=fun j x hx=>by
   have:=hb j;unfold blk at this;rw [hx] at this;obtain ⟨y,h1,h2⟩:=Option.map_eq_some_iff.1 this.symm;exact ⟨y,h1,h2⟩
  cases is with
  | nil=>exact ⟨fun h=>by simp at h,fun h=>by simp at h,k3,by rw [hbl,hwr];exact k4⟩
  | cons x is =>
   refine ⟨fun hal=>k1 (by rw [List.any_cons,hal,Bool.or_true]),fun hal j x hx=>?_,k3,by rw [hbl,hwr];exact k4⟩;obtain ⟨y,h1,h2⟩:=key j x hx;rw [← h2];exact k2 (by rw [List.any_cons,hal,Bool.or_true]) j y h1
 | _=>exact trivial
theorem MX {d:Nat} {f:FuncId} {args:Array Value} {v:Value} {B:List Nat} (hC:∀ w,Mem w0 H0 L w→Calls P f args w (fun e w'=>e= ah v∧qI B w w'∧Mem w0 H0 L' w')) (h:∀ w,qB P n w S p=some (d,f,args,w))
  (hB:∀ ops Hj is A k,p= .rZ ops Hj is A k→∀ b∈B,b∈Hj.filterMap (blk L)) (hb:∀ j,blk L' j=blk L j) (hwr:wrt L'=wrt L) (hc:G P n R w0 H0 p.past ((d,v)::S) L'):G P n R w0 H0 p S L:=by
 obtain ⟨ops,o,hn,hf,hw,hd,hlt, -⟩:=jR (h w0);refine place hn hf hw (Y:=fun N H w a a' w'=>a'=a.put (some d) v∧qI B w w'∧Mem w0 H0 L' w') (fun w N H hM hok a ha K hK k=>?_) fun w N H hM hok a a' w' ha hy=>?_
 ·obtain ⟨ops',o',hn', -, -, -, -, hr⟩:=jR (h w);rw [hn] at hn';cases hn'
  unfold Oper.wp;rw [ha.exec hf,hr];simp only [Oper.upon];refine (hC w hM).mono fun e w' he=>?_;obtain ⟨rfl,h1,h2⟩:=he;rw [hd];exact hK _ _ ⟨rfl,h1,h2⟩
 ·obtain ⟨rfl,h1,h2⟩:=hy;refine ⟨fun ops Hj is A k e=>?_,_,ha.put hlt v,hc.out w' N H h2 (uP hok hb hwr)⟩;subst e;exact ⟨h1.os,h1.tape,h1.output,h1.size,fun i hi hnm=>h1.block i hi fun hm=>hnm (by rw [hok.2.2.2.1];exact hB _ _ _ _ _ rfl i hm)⟩
theorem vR {x:Array Oper × Oper} (h:p.next=some x):p.past.here=true:=by
 cases p with
 | reg ops is k=>cases is<;>first|cases h|rfl
 | rZ ops Hj is A k=>cases is<;>first|cases h|rfl
 | _=>cases h
theorem kT {S':Sl} (h:∀ i v,look S' i=some v→look S i=some v) (d:Nat) (u:Value):∀ i v,look ((d,u)::S') i=some v→look ((d,u)::S) i=some v:=fun i v hv=>by
 rw [nE] at hv ⊢;cases hb:Nat.beq i d with
 | true=>simp only [hb,cond_true] at hv ⊢;exact hv
 | false=>simp only [hb,cond_false] at hv ⊢;exact h i v hv
theorem sG {w w':World} {d:Nat} {f:FuncId} {args:Array Value} (h:qB P n w S p=some (d,f,args,w')):p.past.here=true:=by
 obtain ⟨_,_,hn, -⟩:=jR h;exact vR hn
theorem BG {w w':World} {d:Nat} {v:Value} (h:tZ P n w S p=some (d,v,w')):p.past.here=true:=by
 obtain ⟨_,_,hn, -⟩:=vM h;exact vR hn
theorem call (hs:List Nat) (d:Nat) (St:Sl) (U:List (Nat × Array Value)) {f:FuncId} {args:Array Value} {v:Value} (hC:∀ w,Mem w0 H0 (upd L U) w→Calls P f args w (fun e w'=>e= .returned v∧Below w.heap.size w w'))
  (hc:G P n R w0 H0 (tr 4000 hs p).2.past ((d,v)::(St++S)) (upd L U))
  (h:AZ P n w0 (tr 4000 hs p).1 S L St (upd L U):=by intro _;kernel_rfl) (hx:∀ w,qB P n w (AO P n w0 (tr 4000 hs p).1 S L) (tr 4000 hs p).2=some (d,f,args,w):=by intro _;kernel_rfl):G P n R w0 H0 p S L :=
 Rh hs St _ h (MX (B:=[]) (fun w hM=>(hC w hM).mono fun e w' he=>⟨he.1,.of he.2,hM.later he.2⟩) hx (fun _ _ _ _ _ _ b hb=>by cases hb) (fun _=>rfl) rfl (hc.of (kT h.sub d v) (sG (hx w0))))
theorem tL (hs:List Nat) (d:Nat) (St:Sl) (U:List (Nat × Array Value)) {f:FuncId} {args:Array Value} {v:Value} (hC:∀ w,Calls P f args w (fun e w'=>e= .returned v∧Below w.heap.size w w'))
  (hc:G P n R w0 H0 (tr 4000 hs p).2.past ((d,v)::(St++S)) (upd L U))
  (h:AZ P n w0 (tr 4000 hs p).1 S L St (upd L U):=by intro _;kernel_rfl) (hx:∀ w,qB P n w (AO P n w0 (tr 4000 hs p).1 S L) (tr 4000 hs p).2=some (d,f,args,w):=by intro _;kernel_rfl):G P n R w0 H0 p S L:=call hs d St U (fun w _=>hC w) hc h hx
theorem GJ {j:Nat} {x:Bx} (h:wrt L j=true):blk (L++[x]) j=blk L j∧wrt (L++[x]) j=wrt L j:=by
 unfold wrt at h;unfold blk wrt;cases hl:L[j]? with
 | none=>rw [hl] at h;cases h
 | some y=>rw [fq (List.getElem?_eq_some_iff.1 hl).1,hl];exact ⟨rfl,rfl⟩
def ro (L:Mm):Mm:=L.map fun x=>⟨x.b,x.cs,x.T,false⟩
theorem back {w1:World} {L0:Mm} (M1:Mem w0 [] L0 w1) (hc:G P n R w0 [] p S (L0++L.drop L0.length)) (h':(L.take L0.length,(L.drop L0.length).all (·.o))=(ro L0,true):=by kernel_rfl):G P n R w1 [] p S L:=by
 simp only [Prod.mk.injEq] at h';obtain ⟨h,hall⟩:=h'
 have hlt:∀ j,j<L0.length→∀ x,L0[j]? =some x→L[j]? =some ⟨x.b,x.cs,x.T,false⟩:=fun j hj x hx=>by
  have:(L.take L0.length)[j]? =L[j]? :=by rw [List.getElem?_take];simp [hj]
  rw [← this,h];unfold ro;rw [List.getElem?_map,hx];rfl
 have key:∀ (j:Nat) (x:Bx),(L0++L.drop L0.length)[j]? =some x→(j<L0.length∧L0[j]? =some x∧L[j]? =some ⟨x.b,x.cs,x.T,false⟩)∨(L[j]? =some x):=fun j x hx=>by
  rcases Nat.lt_or_ge j L0.length with hj|hj
  ·rw [List.getElem?_append_left hj] at hx;exact .inl ⟨hj,hx,hlt j hj x hx⟩
  ·rw [List.getElem?_append_right hj,List.getElem?_drop,show L0.length+(j - L0.length)=j by omega] at hx;exact .inr hx
 have hblk:blk (L0++L.drop L0.length)=blk L:=by
  funext j
  unfold blk
  rcases Nat.lt_or_ge j L0.length with hj|hj
  ·have hx:L0[j]? =some L0[j]:=by simp [hj]
   rw [List.getElem?_append_left hj,hx,hlt j hj _ hx];rfl
  ·rw [List.getElem?_append_right hj,List.getElem?_drop,show L0.length+(j - L0.length)=j by omega]
 have ak2:∀ j,wrt L j=true→wrt (L0++L.drop L0.length) j=true:=fun j h=>by
  unfold wrt at h ⊢
  rcases Nat.lt_or_ge j L0.length with hj|hj
  ·have hx:L0[j]? =some L0[j]:=by simp [hj]
   rw [hlt j hj _ hx] at h;cases h
  ·rw [List.getElem?_append_right hj,List.getElem?_drop,show L0.length+(j - L0.length)=j by omega];exact h
 have hb:∀ (j:Nat) (x:Bx),(L0++L.drop L0.length)[j]? =some x→∃ y,L[j]? =some y∧y.b=x.b:=fun j x hx=>by
  rcases key j x hx with ⟨-, -, h⟩|h
  ·exact ⟨_,h,rfl⟩
  ·exact ⟨_,h,rfl⟩
 refine ⟨fun w N H hM hok=>hc.out w N H ⟨fun j x hx=>?_,fun i j x y hx hy hne hxo=>?_,fun j x hx ho=>?_,M1.AY.trans hM.AY⟩ ?_⟩
 ·rcases key j x hx with ⟨-, h1, -⟩|h1
  ·exact (M1.later hM.below).all j x h1
  ·exact hM.all j x h1
 ·obtain ⟨v,hv,ev⟩:=hb j y hy;rw [← ev]
  rcases key i x hx with ⟨-, h1,h2⟩|h1
  ·rcases key j y hy with ⟨-, h3, -⟩|h3
   ·rw [ev];exact M1.Ri i j x y h1 h3 hne hxo
   ·rcases Nat.lt_or_ge j L0.length with hj|hj
    ·have hx:L0[j]? =some L0[j]:=by simp [hj]
     have:=hlt j hj _ hx;rw [this] at hv;cases hv
     exact M1.Ri i j x L0[j] h1 hx hne hxo
    ·have Mw:y.o=true:=List.all_eq_true.1 hall y (List.mem_of_getElem? (i:=j - L0.length) (by rw [List.getElem?_drop,show L0.length+(j - L0.length)=j by omega];exact h3))
     rcases hM.own j y h3 Mw with hm|hm
     ·cases hm
     ·rw [ev];exact Nat.ne_of_lt (Nat.lt_of_lt_of_le (M1.all i x h1).lt hm)
  ·exact hM.Ri i j x v h1 hv hne hxo
 ·rcases key j x hx with ⟨-, h1, -⟩|h1
  ·exact M1.own j x h1 ho
  ·rcases hM.own j x h1 ho with hm|hm
   ·cases hm
   ·exact .inr (Nat.le_trans M1.AY.size hm)
 ·cases p with
  | rZ ops Hj is A k =>
   obtain ⟨k1,k2,k3,k4⟩:=hok;refine ⟨fun h=>Nat.le_trans M1.AY.size (k1 h),fun h j x hx=>?_,k3,by rw [hblk];exact k4.1,fun j hj=>ak2 j (k4.2 j hj)⟩;obtain ⟨u,hu,eu⟩:=hb j x hx;rw [← eu];exact k2 h j u hu
  | _=>exact trivial
theorem Ac {α β:Type} {f g:α→Option β} {l:List α} (h:∀ x∈l,f x=g x):l.filterMap f=l.filterMap g:=by
 induction l with
 | nil=>rfl
 | cons x l ih=>simp only [List.filterMap_cons,h x List.mem_cons_self,ih fun y hy=>h y (List.mem_cons_of_mem _ hy)]
theorem FB {d:Nat} {mk:Nat→Value} {cs:Array Value} {T:TypeId} (h:∀ w,tZ P n w S p=some (d,mk w.heap.size,w.alloc (.cells cs T (0,0)))) (hal:p.past.Fz=true)
  (hc:∀ b,G P n R w0 H0 p.past ((d,mk b)::S) (L++[⟨b,cs,T,true⟩])):G P n R w0 H0 p S L:=by
 obtain ⟨ops,o,hn,hf,hw,hd,hlt, -⟩:=vM (h w0);refine place hn hf hw (Y:=fun N H w a a' w'=>a'=a.put (some d) (mk w.heap.size)∧w'=w.alloc (.cells cs T (0,0))) (fun w N H hM hok a ha K hK k=>?_) fun w N H hM hok a a' w' ha hy=>?_
 ·obtain ⟨ops',o',hn', -, -, -, -, hr⟩:=vM (h w);rw [hn] at hn';cases hn'
  unfold Oper.wp;rw [ha.exec hf,hr];simp only [Oper.upon];rw [hd];exact hK _ _ ⟨rfl,rfl⟩
 ·obtain ⟨rfl,rfl⟩:=hy;have hB:Below w.heap.size w (w.alloc (.cells cs T (0,0))):=(Below.refl _ _).alloc (aG _) _;have hM':=hM.push hB (b:=w.heap.size) (cs:=cs) (T:=T) (fun j x hx=>Nat.ne_of_lt (hM.all j x hx).lt) hM.AY.size (aA.new _ _ _);refine ⟨fun _ _ _ _ _ _=>.of hB,_,ha.put hlt _,(hc w.heap.size).out _ N H hM' ?_⟩;cases p with
  | rZ ops Hj is A k =>
   cases is with
   | nil=>cases hn
   | cons x is =>
    obtain ⟨k1,k2,k3,k4⟩:=hok;refine ⟨fun hx=>?_,fun hx=>?_,k3,?_⟩
    ·simp only [Pos.past,Pos.Fz,hx] at hal;cases hal
    ·simp only [Pos.past,Pos.Fz,hx] at hal;cases hal
    ·have key:∀ j∈Hj,blk (L++[(⟨w.heap.size,cs,T,true⟩:Bx)]) j=blk L j∧wrt (L++[(⟨w.heap.size,cs,T,true⟩:Bx)]) j=wrt L j:=fun j hj=>GJ (k4.2 j hj);exact ⟨k4.1.trans (Ac fun j hj=>(key j hj).1.symm),fun j hj=>by rw [(key j hj).2];exact k4.2 j hj⟩
  | reg ops is k=>cases is<;>exact trivial
  | _=>exact trivial
theorem new (hs:List Nat) (d:Nat) (cs:Array Value) (T:TypeId) (St:Sl) (U:List (Nat × Array Value)) (hc:∀ b,G P n R w0 H0 (tr 4000 hs p).2.past ((d,.pointer (some ⟨b,0,none⟩))::(St++S)) (upd L U++[⟨b,cs,T,true⟩]))
  (h:AZ P n w0 (tr 4000 hs p).1 S L St (upd L U):=by intro _;kernel_rfl) (hx:∀ w,tZ P n w (AO P n w0 (tr 4000 hs p).1 S L) (tr 4000 hs p).2=some (d,.pointer (some ⟨w.heap.size,0,none⟩),w.alloc (.cells cs T (0,0))):=by intro _;kernel_rfl) (hal:(tr 4000 hs p).2.past.Fz=true:=by kernel_rfl):G P n R w0 H0 p S L :=
 Rh hs St _ h (FB (mk:=fun b=>.pointer (some ⟨b,0,none⟩)) hx hal fun b=>(hc b).of (kT h.sub d _) (BG (hx w0)))
theorem newS (hs:List Nat) (d l c:Nat) (cs:Array Value) (T:TypeId) (St:Sl) (U:List (Nat × Array Value)) (hc:∀ b,G P n R w0 H0 (tr 4000 hs p).2.past ((d,.slice (some ⟨b,0,none⟩) l c)::(St++S)) (upd L U++[⟨b,cs,T,true⟩]))
  (h:AZ P n w0 (tr 4000 hs p).1 S L St (upd L U):=by intro _;kernel_rfl) (hx:∀ w,tZ P n w (AO P n w0 (tr 4000 hs p).1 S L) (tr 4000 hs p).2=some (d,.slice (some ⟨w.heap.size,0,none⟩) l c,w.alloc (.cells cs T (0,0))):=by intro _;kernel_rfl) (hal:(tr 4000 hs p).2.past.Fz=true:=by kernel_rfl):G P n R w0 H0 p S L :=
 Rh hs St _ h (FB (mk:=fun b=>.slice (some ⟨b,0,none⟩) l c) hx hal fun b=>(hc b).of (kT h.sub d _) (BG (hx w0)))
def newP (n:Nat):Pos→Option (Nat × Array Value × TypeId)
 | .rZ ops _ ((.alloc cs T,i):: _) _ _=>(match (ops[i]?).bind (·.dst) with
  | some d=>(match Nat.blt d n with
   | true=>some (d,cs,T)
   | false=>none)
  | none=>none)
 | _=>none
def Pos.OD (b:Nat):Pos→Pos
 | .rZ ops Hj (_::is) A k=>.rZ ops Hj is (b::A) k
 | p=>p
theorem Me {d:Nat} {cs:Array Value} {T:TypeId} (h:newP n p=some (d,cs,T)) (hc:∀ b,G P n R w0 H0 (p.OD b) ((d,au (some ⟨b,0,none⟩))::S) (L++[⟨b,cs,T,true⟩])):G P n R w0 H0 p S L:=⟨fun w N H hM hok=>by
 cases p with
 | rZ ops Hj is A k =>
  cases is with
  | nil=>cases h
  | cons x is =>
   obtain ⟨kd,i⟩:=x;cases kd with
   | alloc cs' T' =>
    simp only [newP] at h;split at h
    ·rename_i d' hd;split at h
     ·rename_i hb;cases h
      obtain ⟨o,ho,hod⟩:=Option.bind_eq_some_iff.1 hd;obtain ⟨k1,k2,k3,k4⟩:=hok;intro a ha;refine Bv.fE ho fun b w' h1 h2 h3 h4 h5=>?_;rw [hod];have kk:=k2 (by simp [IY]);have k1:=k1 (by simp [IY])
      have hne:∀ (j:Nat) (x:Bx),L[j]? =some x→x.b≠b:=fun j x hx e=>by
       rcases kk j x hx with hlt|hm
       ·omega
       ·exact h4 (e ▸ hm)
      refine (hc b).out w' N H (hM.push h1 hne (ay k1 h2) h5) ⟨fun _=>k1,fun _ j x hx=>?_,k3,?_⟩ _ (ha.put (Nat.le_of_ble_eq_true hb) _)
      ·rcases Nat.lt_trichotomy j L.length with hl|hl|hl
       ·rw [fq hl] at hx
        rcases kk j x hx with hlt|hm
        ·exact .inl hlt
        ·exact .inr (List.mem_cons_of_mem _ hm)
       ·subst hl;simp at hx
        subst hx;exact .inr List.mem_cons_self
       ·rw [List.getElem?_eq_none (by simp;omega)] at hx;cases hx
      ·have key:∀ j∈Hj,blk (L++[(⟨b,cs,T,true⟩:Bx)]) j=blk L j∧wrt (L++[(⟨b,cs,T,true⟩:Bx)]) j=wrt L j:=fun j hj=>GJ (k4.2 j hj);exact ⟨k4.1.trans (Ac fun j hj=>(key j hj).1.symm),fun j hj=>by rw [(key j hj).2];exact k4.2 j hj⟩
     ·cases h
    ·cases h
   | _=>cases h
 | _=>cases h⟩
theorem aj3 (hs:List Nat) (d:Nat) (cs:Array Value) (T:TypeId) (St:Sl) (U:List (Nat × Array Value)) (hc:∀ b,G P n R w0 H0 ((tr 4000 hs p).2.OD b) ((d,.pointer (some ⟨b,0,none⟩))::(St++S)) (upd L U++[⟨b,cs,T,true⟩]))
  (h:AZ P n w0 (tr 4000 hs p).1 S L St (upd L U):=by intro _;kernel_rfl) (hp:(tr 4000 hs p).2.here=true:=by kernel_rfl) (hx:newP n (tr 4000 hs p).2=some (d,cs,T):=by kernel_rfl):G P n R w0 H0 p S L :=
 go hs St _ h hp (Me hx hc)
def Yw (P:Program) (T:TypeId):Array Value:=(sI P T).getD #[]
theorem bH (hs:List Nat) (d:Nat) (T:TypeId) (St:Sl) (U:List (Nat × Array Value)) (hc:∀ b,G P n R w0 H0 (tr 4000 hs p).2.past ((d,.pointer (some ⟨b,0,none⟩))::(St++S)) (upd L U++[⟨b,Yw P T,T,true⟩]))
  (h:AZ P n w0 (tr 4000 hs p).1 S L St (upd L U):=by intro _;kernel_rfl) (hx:∀ w,tZ P n w (AO P n w0 (tr 4000 hs p).1 S L) (tr 4000 hs p).2=some (d,.pointer (some ⟨w.heap.size,0,none⟩),w.alloc (.cells (Yw P T) T (0,0))):=by intro _;kernel_rfl) (hal:(tr 4000 hs p).2.past.Fz=true:=by kernel_rfl):G P n R w0 H0 p S L:=new hs d (Yw P T) T St U hc h hx hal
theorem iL (hs:List Nat) (d:Nat) (T:TypeId) (St:Sl) (U:List (Nat × Array Value)) (hc:∀ b,G P n R w0 H0 ((tr 4000 hs p).2.OD b) ((d,.pointer (some ⟨b,0,none⟩))::(St++S)) (upd L U++[⟨b,Yw P T,T,true⟩]))
  (h:AZ P n w0 (tr 4000 hs p).1 S L St (upd L U):=by intro _;kernel_rfl) (hp:(tr 4000 hs p).2.here=true:=by kernel_rfl) (hx:newP n (tr 4000 hs p).2=some (d,Yw P T,T):=by kernel_rfl):G P n R w0 H0 p S L:=aj3 hs d (Yw P T) T St U hc h hp hx
def kindOf (P:Program) (o:Oper):K:=match o.op with
 | .load _ _=>.read
 | .store _ _ _=>.fin
 | .alloc T=>.alloc ((sI P T).getD #[]) T
 | .call c=>(match c.callee with
  | .builtin _=>.pure
  | _=>.ext)
 | .box _ _| .buildSlice _ _ _| .makeSlice _ _ _=>.ext
 | _=>.pure
def plan (P:Program) (ops:Array Oper) (l:List Nat):List (K × Nat):=l.filterMap fun x=>(ops[x%1000]?).map fun o=>((match x / 1000 with|0=>kindOf P o|1=>.pure|2=>.read|3=>.ext|5=>.fin| _=>kindOf P o),x%1000)
def Pos.draw (P:Program) (Hj l:List Nat):Pos→Pos
 | .code (.region _ ops true) k=>.rZ ops Hj (plan P ops l) [] k
 | p=>p
def Pos.Xn (P:Program) (l:List Nat):Pos→Bool
 | .code (.region _ ops true) _=>check ops (plan P ops l)
 | _=>false
def Pos.probes (P:Program) (l:List Nat):Pos→List (Bool × Option (Array Value))
 | .code (.region _ ops true) _=>(plan P ops l).map (probe P ops)
 | _=>[]
def Pos.wants (P:Program) (l:List Nat):Pos→List (Bool × Option (Array Value))
 | .code (.region _ ops true) _=>(plan P ops l).map want
 | _=>[]
theorem draw (hs l Hj:List Nat) (St:Sl) (U:List (Nat × Array Value)) (hc:G P n R w0 H0 ((tr 4000 hs p).2.draw P Hj l) (St++S) (upd L U))
  (h:AZ P n w0 (tr 4000 hs p).1 S L St (upd L U):=by intro _;kernel_rfl) (hp:(tr 4000 hs p).2.here=true:=by kernel_rfl) (hm:P.follows .mixedOrders=true:=by kernel_rfl)
  (hd:(tr 4000 hs p).2.Xn P l=true:=by kernel_rfl) (hq:(tr 4000 hs p).2.probes P l=(tr 4000 hs p).2.wants P l:=by kernel_rfl) (hj:Hj.all (wrt (upd L U))=true:=by kernel_rfl):G P n R w0 H0 p S L:=by
 refine go hs St _ h hp ?_;generalize (tr 4000 hs p).2=q at hc hd hq;generalize upd L U=L at hc hj;generalize St++S=S at hc;refine ⟨fun w N H hM hok=>?_⟩;cases q with
 | code c k =>
  cases c with
  | region id ops dr =>
   cases dr with
   | false=>cases hd
   | true =>
    intro a ha
    have hH:∀ h∈Hj.filterMap (blk L),h<w.heap.size:=fun h hh=>by
     obtain ⟨j, -, hj⟩:=List.mem_filterMap.1 hh;obtain ⟨x,hx,rfl⟩:=Option.map_eq_some_iff.1 hj;exact (hM.all j x hx).lt
    refine Bv.aQ (plan P ops l) (lax hH) rfl hm hd (qD hq) (fun c a s w hs h=>zN c a s w hs h) ?_;have hb:Below w.heap.size w w.drew:=Below.drew (Below.refl _ _);exact hc.out w.drew w.heap.size _ (hM.later hb) ⟨fun _=>hM.AY.size,fun _ j x hx=>.inl (hM.all j x hx).lt,hH,rfl,fun j hjm=>List.all_eq_true.1 hj j hjm⟩ a ha
  | _=>cases hd
 | _=>cases hd
theorem part (m:Nat) (hs:List Nat) (St:Sl) (U:List (Nat × Array Value)) (hc:G P n R w0 H0 (tr m hs p).2 (St++S) (upd L U))
  (h:AZ P n w0 (tr m hs p).1 S L St (upd L U):=by intro _;kernel_rfl) (hp:(tr m hs p).2.here=true:=by kernel_rfl):G P n R w0 H0 p S L:=go hs St _ h hp hc
theorem CB {d:Nat} {b:Bool} (c:Bool) (hb:b=c) (h:G P n R w0 H0 p ((d,aC c)::S) L):G P n R w0 H0 p ((d,aC b)::S) L:=hb ▸ h
theorem qY {d:Nat} {u:Value} (v:Value) (hb:u=v) (h:G P n R w0 H0 p ((d,v)::S) L):G P n R w0 H0 p ((d,u)::S) L:=hb ▸ h
theorem splitB {d:Nat} {b:Bool} (h1:b=true→G P n R w0 H0 p ((d,aC true)::S) L) (h2:b=false→G P n R w0 H0 p ((d,aC false)::S) L):G P n R w0 H0 p ((d,aC b)::S) L:=by
 cases b
 ·exact h2 rfl
 ·exact h1 rfl
theorem wrap_i64 {z:Int} (h1: -9223372036854775808≤z) (h2:z≤9223372036854775807):Value.int .i64 (I.wrap z)= Z I z:=by
 rw [show I.wrap z=z by unfold IntKind.wrap;simp [IntKind.bits,IntKind.signed];omega]
def Pos.cmp:Pos→Option (Array Oper × Oper)
 | .reg ops (i:: _) _=>(ops[i]?).map fun o=>(ops,o)
 | .rZ ops _ ((.pure,i):: _) _ _=>(ops[i]?).map fun o=>(ops,o)
 | _=>none
def MK (P:Program) (n:Nat) (S:Sl) (p:Pos):Option (Bool × TypeId × Value × Value × Nat):=match p.cmp with
 | some (ops,o)=>(match fit ops S o,Region.wanted o (yl ops S),o.dst,o.op with
  | true,true,some d,.binOp op T x y _=>(match Nat.blt d n,P.eqGuardType P.depth T,ev S x,ev S y with
   | true,false,aB u,aB v=>(match op with
    | .eql=>some (true,T,aB u,aB v,d)
    | .neq=>some (false,T,aB u,aB v,d)
    | _=>none)
   | _,_,_,_=>none)
  | _,_,_,_=>none)
 | none=>none
theorem Tz {T:TypeId} {x y:Value} {d:Nat} {b e:Bool} (h:MK P n S p=some (b,T,x,y,d)) (he:∀ w,(Op.equal T x y).run P w= .ok e w) :
  ∃ ops o,p.cmp=some (ops,o)∧fit ops S o=true∧Region.wanted o (yl ops S)=true∧o.dst=some d∧d<n∧∀ w,(execOp (ev S) o).run P w= .ok (.value (aC (b == e))) w:=by
 unfold MK at h;split at h
 ·rename_i ops o ho;split at h
  ·rename_i d' op T' xo yo pos hf hw hd hop;split at h
   ·rename_i u v hb hg hx hy;refine ⟨ops,o,ho,hf,hw,?_⟩;split at h<;>cases h<;>refine ⟨hd,Nat.le_of_ble_eq_true hb,fun w=>?_⟩<;>have:=he w<;>simp only [execOp,hop,hx,hy,eqGuard,binOp]<;>simp [hg,this]
   ·cases h
  ·cases h
 ·cases h
theorem Qk {T:TypeId} {x y:Value} {d:Nat} {b e:Bool} (h:MK P n S p=some (b,T,x,y,d)) (he:∀ w,(Op.equal T x y).run P w= .ok e w) (hc:G P n R w0 H0 p.past ((d,aC (b == e))::S) L):G P n R w0 H0 p S L:=by
 obtain ⟨ops,o,hn,hf,hw,hd,hlt,hr⟩:=Tz h he;refine ⟨fun w N H hM hok=>?_⟩;have aa0:=uP (p:=p) hok (fun _=>rfl) rfl;cases p with
 | reg ops' is k =>
  cases is with
  | nil=>cases hn
  | cons i is =>
   obtain ⟨o',ho,he⟩:=Option.map_eq_some_iff.1 hn;cases he
   intro a ha;unfold wpOps;simp only [ho,ha.wanted (nQ hf)];rw [if_pos hw];have:=ha.put hlt (aC (b == e));rw [← hd] at this;exact .inl (CU ha hf (hr w) (hc.out w N H hM aa0 _ this))
 | rZ ops' Hj is A k =>
  cases is with
  | nil=>cases hn
  | cons x is =>
   obtain ⟨kd,i⟩:=x;cases kd with
   | pure =>
    obtain ⟨o',ho,he⟩:=Option.map_eq_some_iff.1 hn;cases he
    intro a ha;unfold Bv.walk;simp only [ho,ha.wanted (nQ hf)];rw [if_pos hw];have:=ha.put hlt (aC (b == e));rw [← hd] at this;exact ⟨_,fun w'=>by rw [ha.exec hf];exact hr w',hc.out w N H hM aa0 _ this⟩
   | _=>cases hn
 | _=>cases hn
theorem TA {T:TypeId} {x y:Value} {d:Nat} {b:Bool} (h:MK P n S p=some (b,T,x,y,d)):p.past.here=true:=by
 unfold MK at h;split at h
 ·rename_i ops o ho;cases p with
  | reg ops is k=>cases is<;>first|cases ho|rfl
  | rZ ops Hj is A k=>cases is<;>first|cases ho|rfl
  | _=>cases ho
 ·cases h
theorem eql (m:Nat) (hs:List Nat) (d:Nat) (b e:Bool) (T:TypeId) (x y:Value) (St:Sl) (U:List (Nat × Array Value)) (he:∀ w,(Op.equal T x y).run P w= .ok e w) (hc:G P n R w0 H0 (tr m hs p).2.past ((d,.bool (b == e))::(St++S)) (upd L U))
  (h:AZ P n w0 (tr m hs p).1 S L St (upd L U):=by intro _;kernel_rfl) (hx:MK P n (AO P n w0 (tr m hs p).1 S L) (tr m hs p).2=some (b,T,x,y,d):=by kernel_rfl):G P n R w0 H0 p S L :=
 Rh hs St _ h (Qk hx he (hc.of (kT h.sub d _) (TA hx)))
/-! ### The end -/
def Pos.Ko:Pos→Bool
 | .code .ret _=>true
 | _=>false
theorem yZ {w:World} {tmps:Array Value} {fn:Func} {p u:Tmp} {ty t:TypeId} {g:Nat} {cs:Array Value} {d:TypeDesc} (h:fn.results=#[.cell p ty,.tmp u])
  (hp:tmps.getD p undef= au (some ⟨g,0,none⟩)) (hg:aA w g cs t) (hu:P.underlying ty=some d)
  (hd:(match d with| .struct _| .array _ _=>true| _=>false)=true) (hi:(P.info? ty).map (·.size)=some cs.size) :
  (results fn tmps).run P w= .ok (aF #[aB cs,tmps.getD u undef]) w:=by
 rw [results_cell_tmp h,hp];simp only [asAddr,Sem.run_pure,Result.andThen_ok];rw [run_loadVar_row w g t ty cs (0,0) d hg hu hd hi];rfl
theorem zm (hp:p.Ko=true) (h:∀ w,Mem w0 H0 L w→R .ret S w):G P n R w0 H0 p S L:=⟨fun w N H hM hok=>by
 cases p with
 | code c k =>
  cases c with
  | ret =>
   intro a ha
   have key:∀ k,Cont P n R k .ret S w:=fun k=>by
    induction k with
    | nil=>exact h w hM
    | cons x k ih=>cases x<;>exact ih
   exact wp_ret (su ha (key k))
  | _=>cases hp
 | _=>cases hp⟩
theorem xE (hs:List Nat) (U:List (Nat × Array Value)) {fn:Func} {E:Ending→World→Prop} {t:Tmp} {v:Value} (hE:∀ w,Mem w0 H0 (upd L U) w→E (.returned v) w) (hr:fn.results=#[.tmp t]:=by rfl)
  (h:Np P n w0 (tr 4000 hs p).1 S L (upd L U):=by intro _;kernel_rfl) (hv:((tr 4000 hs p).2.Ko,look (AO P n w0 (tr 4000 hs p).1 S L) t)=(true,some v):=by kernel_rfl):G P n (Ends P n fn E) w0 H0 p S L:=by
 simp only [Prod.mk.injEq] at hv;exact goR hs _ h (zm hv.1 fun w hM a ha=>⟨v,by rw [results_tmp hr,ha.get t v hv.2],hE w hM⟩)
def V6 (P:Program) (S:Sl) (L:Mm) (t j:Nat) (ty:TypeId):Option (Option Value × Array Value × Bool × Option Nat):=(L[j]?).map fun x=>(look S t,x.cs,(match P.underlying ty with|some (.struct _)=>true|some (.array _ _)=>true| _=>false),(P.info? ty).map (·.size))
theorem Au {w:World} (hM:Mem w0 H0 L w) {a:Act} (ha:sK n S a) {t j b:Nat} {ty:TypeId} {cs:Array Value} (hb:blk L j=some b) (hv:V6 P S L t j ty=some (some (.pointer (some ⟨b,0,none⟩)),cs,true,some cs.size)) :
  ∃ d T,a.tmps.getD t undef= au (some ⟨b,0,none⟩)∧aA w b cs T∧P.underlying ty=some d∧QG d=true∧(P.info? ty).map (·.size)=some cs.size:=by
 obtain ⟨x,hx,he⟩:=Option.map_eq_some_iff.1 hv;simp only [dW] at he;obtain ⟨e1,rfl,e3,e4⟩:=he;have hb:x.b=b:=by unfold blk at hb;rw [hx] at hb;simpa using hb
 have hX:=hM.all j x hx;rw [hb] at hX;cases hu:P.underlying ty with
 | none=>simp [hu] at e3
 | some d=>exact ⟨d,x.T,ha.get t _ e1,hX,rfl,by rw [hu] at e3;cases d<;>first|rfl|(simp at e3),e4⟩
theorem mU (j b:Nat) (hs:List Nat) (U:List (Nat × Array Value)) {fn:Func} {E:Ending→World→Prop} {t:Tmp} {ty:TypeId} {cs:Array Value} (hE:∀ w,Mem w0 H0 (upd L U) w→E (.returned (.agg cs)) w) (hr:fn.results=#[.cell t ty]:=by rfl)
  (h:Np P n w0 (tr 4000 hs p).1 S L (upd L U):=by intro _;kernel_rfl) (hp:((tr 4000 hs p).2.Ko,blk (upd L U) j)=(true,some b):=by kernel_rfl) (hv:V6 P (AO P n w0 (tr 4000 hs p).1 S L) (upd L U) t j ty=some (some (.pointer (some ⟨b,0,none⟩)),cs,true,some cs.size):=by kernel_rfl):G P n (Ends P n fn E) w0 H0 p S L:=by
 simp only [Prod.mk.injEq] at hp;refine goR hs _ h (zm hp.1 fun w hM a ha=>⟨.agg cs,?_,hE w hM⟩);obtain ⟨d,T,a1,a2,a3,a4,a5⟩:=Au hM ha hp.2 hv;exact results_cell_row hr a.tmps w b T cs (0,0) d a1 a2 a3 (by cases d<;>exact a4) a5
theorem lN (j b:Nat) (hs:List Nat) (U:List (Nat × Array Value)) {fn:Func} {E:Ending→World→Prop} {t u:Tmp} {ty:TypeId} {cs:Array Value} {y:Value} (hE:∀ w,Mem w0 H0 (upd L U) w→E (.returned (.tuple #[.agg cs,y])) w) (hr:fn.results=#[.cell t ty,.tmp u]:=by rfl)
  (h:Np P n w0 (tr 4000 hs p).1 S L (upd L U):=by intro _;kernel_rfl) (hp:((tr 4000 hs p).2.Ko,blk (upd L U) j,look (AO P n w0 (tr 4000 hs p).1 S L) u)=(true,some b,some y):=by kernel_rfl) (hv:V6 P (AO P n w0 (tr 4000 hs p).1 S L) (upd L U) t j ty=some (some (.pointer (some ⟨b,0,none⟩)),cs,true,some cs.size):=by kernel_rfl):G P n (Ends P n fn E) w0 H0 p S L:=by
 simp only [Prod.mk.injEq] at hp;refine goR hs _ h (zm hp.1 fun w hM a ha=>⟨.tuple #[.agg cs,y],?_,hE w hM⟩);obtain ⟨d,T,a1,a2,a3,a4,a5⟩:=Au hM ha hp.2.1 hv;rw [yZ hr a1 a2 a3 (by cases d<;>exact a4) a5,ha.get u y hp.2.2]
theorem door {f:FuncId} {fn:Func} {c:Code} {l:List Value} {w:World} {E:Ending→World→Prop} (hf:P.funcs[f]? =some fn) (hb:fn.body=some c) (hM:Mem w H0 L w) (h:G P fn.ntmps (Ends P fn.ntmps fn E) w H0 (.code c []) (start l 0) L)
  (hl:Nat.ble l.length fn.ntmps=true:=by kernel_rfl):Calls P f l.toArray w E:=enter hf hb rfl hl ⟨h.out w 0 [] hM trivial⟩
theorem Mem.ro {w:World} {b:Nat} {cs:Array Value} {T:TypeId} (hX:aA w b cs T) (h:Mem w0 H0 L w) (hn:∀ x∈L,x.o=true→x.b≠b:=by simp):Mem w0 H0 (⟨b,cs,T,false⟩::L) w:=by
 have key:∀ (j:Nat) (x:Bx),((⟨b,cs,T,false⟩:Bx)::L)[j]? =some x→(j=0∧x=⟨b,cs,T,false⟩)∨∃ i,j=i+1∧L[i]? =some x:=fun j x h=>by
  cases j with
  | zero=>simp at h;exact .inl ⟨rfl,h.symm⟩
  | succ j=>simp at h;exact .inr ⟨j,rfl,h⟩
 refine ⟨fun j x hx=>?_,fun i j x y hx hy hne ho=>?_,fun j x hx ho=>?_,h.AY⟩
 ·rcases key j x hx with ⟨-, rfl⟩|⟨i, -, hi⟩
  ·exact hX
  ·exact h.all i x hi
 ·rcases key i x hx with ⟨-, rfl⟩|⟨i',rfl,hi⟩
  ·cases ho
  ·rcases key j y hy with ⟨-, rfl⟩|⟨j',rfl,hj⟩
   ·exact hn x (List.mem_of_getElem? hi) ho
   ·exact h.Ri i' j' x y hi hj zo ho
 ·rcases key j x hx with ⟨-, rfl⟩|⟨i, -, hi⟩
  ·cases ho
  ·exact h.own i x hi ho
theorem Mem.one {w:World} {b:Nat} {cs:Array Value} {T:TypeId} (hX:aA w b cs T):Mem w [b] [⟨b,cs,T,true⟩] w:=by
 have key:∀ (j:Nat) (x:Bx),[(⟨b,cs,T,true⟩:Bx)][j]? =some x→j=0∧x=⟨b,cs,T,true⟩:=fun j x h=>by
  cases j with
  | zero=>simp at h;exact ⟨rfl,h.symm⟩
  | succ j=>simp at h
 refine ⟨fun j x h=>?_,fun i j x y hi hj hne _=>?_,fun j x h _=>?_,qI.refl w⟩
 ·obtain ⟨-, rfl⟩:=key j x h;exact hX
 ·exact absurd ((key i x hi).1.trans (key j y hj).1.symm) hne
 ·obtain ⟨-, rfl⟩:=key j x h;simp
theorem Mem.box {w:World} {b:Nat} {cs:Array Value} {T:TypeId} (h:Mem w0 H0 L w) (j:Nat) (hj:(L[j]?).map (fun x=>(x.b,x.cs,x.T))=some (b,cs,T):=by kernel_rfl):aA w b cs T:=by
 obtain ⟨x,hx,he⟩:=Option.map_eq_some_iff.1 hj;simp only [Prod.mk.injEq] at he;obtain ⟨rfl,rfl,rfl⟩:=he;exact h.all j x hx
end
end Go.Fx
namespace Go.Fx
open Go Go.RowKit Go.SW Go.Mem
def Kept (l:List TypeId) (w w':World):Prop:=∀ b cs T,T∉l→aA w b cs T→aA w' b cs T
theorem Row.keep {l:List TypeId} {w w':World} {T:TypeId} {v:Value} {xs:List Value} (h:Row w T v xs) (k:Kept l w w') (hT:T∉l):Row w' T v xs:=by
 obtain ⟨a,cap,h1,h2,h3,h4,h5⟩:=h;refine ⟨a,cap,h1,h2,h3,h4,fun ad had=>?_⟩;obtain ⟨h6,arr,h7,h8⟩:=h5 ad had;exact ⟨h6,arr,k _ _ _ hT h7,h8⟩
theorem zH {l:List TypeId} {T:TypeId} (h:l.contains T=false):T∉l:=by simpa using h
theorem aT.keep {l:List TypeId} {w w':World} {v:Value} {n:Nat} (h:aT w v n) (k:Kept l w w') (hT:l.contains 22=false:=by kernel_rfl):aT w' v n:=Row.keep h k (zH hT)
def hold (L:Mm):List Nat:=(L.filter (·.o)).map (·.b)
def tys (L:Mm):List TypeId:=(L.filter (·.o)).map (·.T)
theorem O1 {L:Mm} {j:Nat} {x:Bx} (h:L[j]? =some x) (ho:x.o=true):x.b∈hold L:=List.mem_map.2 ⟨x,List.mem_filter.2 ⟨List.mem_of_getElem? h,ho⟩,rfl⟩
structure DT (w w0:World) (H:List Nat):Prop where
 below:Below w.heap.size w w0
 old:∀ b∈H,w.heap.size≤b
theorem DT.nil (w:World):DT w w []:=⟨Below.refl _ _,fun _ h=>by cases h⟩
section
variable {P:Program} {n:Nat} {R:Post} {w0 w1:World} {H0:List Nat} {p:Pos} {S:Sl} {L L0:Mm}
theorem DT.at {w W:World} (B:DT w w0 H0) (M:Mem w0 H0 L W):Below w.heap.size w W:=M.AY.below B.below B.old
theorem DT.next {w:World} (B:DT w w0 H0) (M:Mem w0 H0 L w1):DT w w1 (hold L):=⟨B.at M,fun b hb=>by
 obtain ⟨x,hx,rfl⟩:=List.mem_map.1 hb;obtain ⟨hx,ho⟩:=List.mem_filter.1 hx;obtain ⟨j,hj⟩:=List.getElem?_of_mem hx
 rcases M.own j x hj ho with h|h
 ·exact B.old _ h
 ·exact ay B.below.size h⟩
theorem Mem.af7 {w:World} (h:Mem w0 H0 L w):Mem w (hold L) L w:=⟨h.all,h.Ri,fun _ _ hx ho=>.inl (O1 hx ho),qI.refl w⟩
theorem Mem.keep (M1:Mem w0 H0 L0 w1) {W:World} (M:Mem w1 (hold L0) L W):Kept (tys L0) w1 W:=fun b cs T hT hX=>by
 by_cases hb:b∈hold L0
 ·obtain ⟨x,hx,rfl⟩:=List.mem_map.1 hb;have hx2:=hx;obtain ⟨hx,ho⟩:=List.mem_filter.1 hx;obtain ⟨j,hj⟩:=List.getElem?_of_mem hx;have h2:=M1.all j x hj;unfold aA at h2 hX;rw [h2] at hX;cases hX
  exact absurd (List.mem_map.2 ⟨x,hx2,rfl⟩) hT
 ·exact M.AY.box hX hb
def ah5 (P:Program) (n:Nat) (R:Post) (w0:World) (H0:List Nat) (p:Pos) (d:Nat) (S:Sl) (L:Mm) (w w1:World):Ending→Prop
 | ah v=>Below w.heap.size w w1∧(Mem w0 H0 L w1→G P n R w1 (hold L) p.past ((d,v)::S) L)
 | _=>False
theorem kG (hs:List Nat) (d:Nat) (St:Sl) (U:List (Nat × Array Value)) {f:FuncId} {args:Array Value} {E:World→Ending→World→Prop} (hC:∀ w,Mem w0 H0 (upd L U) w→Calls P f args w (E w))
  (hc:∀ w w1 e,Mem w0 H0 (upd L U) w→E w e w1→ah5 P n R w0 H0 (tr 4000 hs p).2 d (St++S) (upd L U) w w1 e)
  (h:AZ P n w0 (tr 4000 hs p).1 S L St (upd L U):=by intro _;kernel_rfl) (hx:∀ w,qB P n w (AO P n w0 (tr 4000 hs p).1 S L) (tr 4000 hs p).2=some (d,f,args,w):=by intro _;kernel_rfl) (hal:(tr 4000 hs p).2.past.Fz=true:=by kernel_rfl):G P n R w0 H0 p S L:=by
 refine Rh hs St _ h ?_;have hsub:=h.sub;have hh:=sG (hx w0);generalize AO P n w0 (tr 4000 hs p).1 S L=F at hx hsub ⊢;generalize (tr 4000 hs p).2=q at hc hx hal hh;generalize upd L U=L at hC hc;generalize St++S=S at hc hsub;obtain ⟨ops,o,hn,hf,hw,hd,hlt, -⟩:=jR (h:=hx w0);refine place hn hf hw (Y:=fun N H w a a' w1=>∃ v,a'=a.put (some d) v∧Below w.heap.size w w1∧Mem w0 H0 L w1∧G P n R w1 (hold L) q.past ((d,v)::F) L) (fun w N H hM hok a ha K hK k=>?_) fun w N H hM hok a a' w' ha hy=>?_
 ·obtain ⟨ops',o',hn', -, -, -, -, hr⟩:=jR (h:=hx w);rw [hn] at hn';cases hn'
  unfold Oper.wp;rw [ha.exec hf,hr];simp only [Oper.upon];refine (hC w hM).mono fun e w' he=>?_;have:=hc w w' e hM he;cases e with
  | returned v =>
   rw [hd];exact hK _ _ ⟨v,rfl,this.1,hM.later this.1,(this.2 (hM.later this.1)).of (kT hsub d v) hh⟩
  | _=>exact this.elim
 ·obtain ⟨v,rfl,h1,h2,h3⟩:=hy;refine ⟨fun _ _ _ _ _ _=>.of h1,_,ha.put hlt v,h3.out w' N H h2.af7 ?_⟩;cases q with
  | rZ ops Hj is A k =>
   cases is with
   | nil=>cases hn
   | cons x is =>
    obtain ⟨k1,k2,k3,k4⟩:=hok;refine ⟨fun hx=>?_,fun hx=>?_,k3,k4⟩<;>simp only [Pos.past,Pos.Fz,hx] at hal<;>cases hal
  | reg ops is k=>cases is<;>exact trivial
  | _=>exact trivial
end
end Go.Fx
