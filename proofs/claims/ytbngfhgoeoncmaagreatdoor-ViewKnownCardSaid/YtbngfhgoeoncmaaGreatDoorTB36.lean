/- Lemmas for the proof. No condition. -/
import Derived.Test.YtbngfhgoeoncmaaGreatDoorTB27
import Derived.Deep.AppendSrc
import Derived.Deep.DeepAppendWide
import Derived.RegionTactic
import Derived.Deep.Cut
set_option linter.unusedVariables false
set_option linter.unusedSimpArgs false
set_option maxRecDepth 100000
set_option maxHeartbeats 16000000
open Bool renaming and_eq_true → aD
open Go.Ending renaming returned → ah
open Go.IntKind renaming i64 → I
open Go.Value renaming agg → aB, bool → aC, int → Z, slice → aj, string → O, tuple → aF
open List renaming all_cons → gK, getD_eq_getElem?_getD → bJ, getElem_mem → bN
open Nat renaming mul_comm → aL, mul_le_mul → dU, pow_add → eG, pow_le_pow_right → bX
namespace Go.Proofs.aW
open Go Go.RowKit Go.SW Go.Num Go.Mem Go.Proofs
def Ord (r:Int) (a b:Nat):Prop:=(r≤0↔a≤b)∧(0≤r↔b≤a)
theorem Ord.lt {r:Int} {a b:Nat} (h:a<b) (hr:r<0):Ord r a b:=⟨⟨fun _=>by omega,fun _=>by omega⟩,⟨fun _=>by omega,fun _=>by omega⟩⟩
def Okm (m:List Nat):Prop:=gF 10000 m∨(m.length=1∧∀ d∈m,d≤10000)
theorem Okm.le {m:List Nat} (h:Okm m) {j:Nat} (hj:j<m.length):m.getD j 0≤10000:=by
 have e:m.getD j 0=m[j]:=by simp [hj]
 rw [e]
 rcases h with h|h
 ·exact Nat.le_of_lt (h _ (bN hj))
 ·exact h.2 _ (bN hj)
theorem Gs.one {w:World} {d:Nat}:Gs (w.alloc (.cells #[Z I (d:Int)] 3 (0,0))) (aj (some ⟨w.heap.size,0,none⟩) 1 1) [d]:=by
 refine Row.mk rfl (by simp [ints]) zo (aA.new _ _ _) fun i hi=>?_
 match i,hi with
 | 0,_=>rfl
theorem Gs.drop {w:World} {b off n c:Nat} {l:List Nat} (h:Gs w (aj (some ⟨b,off,none⟩) n c) l) (k:Nat) (hk:k≤n):Gs w (aj (some ⟨b,off+k,none⟩) (n - k) (c - k)) (l.drop k):=by
 rcases Row.cases h with ⟨h1, -⟩|⟨b',off',cap,arr,e,h2,h3,h4,h5⟩
 ·cases h1
 ·simp only [Value.slice.injEq,Option.some.injEq,Addr.mk.injEq,and_true] at e;obtain ⟨⟨rfl,rfl⟩,hn,rfl⟩:=e;rw [je] at hn h2;refine Row.mk (by rw [je,List.length_drop];omega) (by rw [je,List.length_drop];omega) zo h4 fun i hi=>?_;rw [je,List.length_drop] at hi;have:=h5 (k+i) (by rw [je];omega);rw [← Nat.add_assoc] at this;rw [this];simp [ints]
theorem Nm.inj {w:World} {v:Value} {m n:Nat} (h:Nm w v m) (k:Nm w v n):m=n:=by
 obtain ⟨p,c,rfl, -, -, h1⟩:=Gs.read h.gs;obtain ⟨p',c',e, -, -, h2⟩:=Gs.read k.gs;simp only [Value.slice.injEq] at e;obtain ⟨rfl,hl,rfl⟩:=e
 have:fG 10000 m=fG 10000 n:=by
  refine List.ext_getElem hl fun i hi hi2=>?_;obtain ⟨b,o,e, -, hc⟩:=h1 i hi;obtain ⟨b',o',e', -, hc'⟩:=h2 i hi2;rw [e] at e';simp only [Option.some.injEq,Addr.mk.injEq,and_true] at e';obtain ⟨rfl,rfl⟩:=e';rw [hc] at hc';simp only [Option.some.injEq,Value.int.injEq,true_and] at hc';rw [bJ,bJ,List.getElem?_eq_getElem hi,List.getElem?_eq_getElem hi2] at hc'
  simpa using Int.ofNat_inj.mp hc'
 rw [← dh (B:=10000) zo m,this,dh zo]
end Go.Proofs.aW
namespace Go.Proofs.aW
open Go Go.RowKit Go.SW Go.Num Go.Mem Go.Proofs Go.Dec
end Go.Proofs.aW
namespace Go.Proofs.dI
open Go Go.RowKit Go.SW Go.Num Go.Mem Go.Proofs Go.Dec Go.Proofs.aW Go.Fx
def Ra (w:World) (v:Value) (q:Rat):Prop:=∃ bn pn ln cn bd pd ld cd,v= aB #[aC bn,aj pn ln cn,aC bd,aj pd ld cd]∧Pl w (aB #[aC bn,aj pn ln cn]) q.num∧Pl w (aB #[aC bd,aj pd ld cd]) q.den
theorem Ra.later {w w':World} {v:Value} {q:Rat} (h:Ra w v q) (hb:Below w.heap.size w w'):Ra w' v q:=by
 obtain ⟨bn,pn,ln,cn,bd,pd,ld,cd,e,h1,h2⟩:=h;exact ⟨bn,pn,ln,cn,bd,pd,ld,cd,e,h1.later hb,h2.later hb⟩
theorem Mj {n d:Int} (hd:0<d):((n:Rat) / (d:Rat)).num=n / (Nat.gcd n.natAbs d.natAbs:Int)∧(((n:Rat) / (d:Rat)).den:Int)=d / (Nat.gcd n.natAbs d.natAbs:Int):=by
 obtain ⟨k,rfl⟩:=Int.eq_ofNat_of_zero_le (Int.le_of_lt hd);have hk:0<k:=by omega
 have e:(n:Rat) / ((k:Int):Rat)=mkRat n k:=by
  rw [Rat.mkRat_eq_div];rfl
 have h:=d9.rE n hk;rw [e,Int.natAbs_natCast];refine ⟨?_,?_⟩
 ·rw [h.1,d9.yQ (Nat.gcd_dvd_left _ _)]
 ·rw [h.2,Int.natCast_ediv]
theorem _root_.Go.Mem.Pl.keep {l:List TypeId} {w w':World} {v:Value} {z:Int} (h:Pl w v z) (k:Kept l w w') (hT:l.contains 3=false:=by kernel_rfl):Pl w' v z:=by
 obtain ⟨pa,n,ca,h1,h2⟩:=h;exact ⟨pa,n,ca,h1,Row.keep h2 k (zH hT)⟩
theorem Ra.keep {l:List TypeId} {w w':World} {v:Value} {q:Rat} (h:Ra w v q) (k:Kept l w w') (hT:l.contains 3=false:=by kernel_rfl):Ra w' v q:=by
 obtain ⟨bn,pn,ln,cn,bd,pd,ld,cd,e,h1,h2⟩:=h;exact ⟨bn,pn,ln,cn,bd,pd,ld,cd,e,h1.keep k hT,h2.keep k hT⟩
end Go.Proofs.dI
namespace Go.Proofs.dI
open Go Go.RowKit Go.SW Go.Num Go.Mem Go.Proofs Go.Dec Go.Proofs.aW Go.d9
theorem Wv {n d:Int} (hd:d≠0):((n:Rat) / (d:Rat)).num.natAbs≤n.natAbs∧((n:Rat) / (d:Rat)).den≤d.natAbs:=by
 have key:∀ n d:Int,0<d→((n:Rat) / (d:Rat)).num.natAbs≤n.natAbs∧((n:Rat) / (d:Rat)).den≤d.natAbs:=fun n d hd=>by
  obtain ⟨e1,e2⟩:=Mj (n:=n) hd;have g1:=Nat.gcd_dvd_left n.natAbs d.natAbs;have g2:=Nat.gcd_dvd_right n.natAbs d.natAbs;have g0:0<Nat.gcd n.natAbs d.natAbs:=Nat.gcd_pos_of_pos_right _ zo;generalize Nat.gcd n.natAbs d.natAbs=g at *;generalize ((n:Rat) / (d:Rat))=q at *;obtain ⟨a,ha⟩:=g1;obtain ⟨b,hb⟩:=g2
  have h1:n=(g:Int)*(if 0≤n then (a:Int) else -(a:Int)):=by
   have:=congrArg (fun x:Nat=>(x:Int)) ha;simp only [Int.natCast_mul] at this;split
   ·omega
   ·rw [Int.mul_neg];omega
  have h2:d=(g:Int)*(b:Int):=by
   have:=congrArg (fun x:Nat=>(x:Int)) hb;simp only [Int.natCast_mul] at this;omega
  have h3:n / (g:Int)=(if 0≤n then (a:Int) else -(a:Int)):=by
   conv=>lhs;rw [h1]
   exact Int.mul_ediv_cancel_left _ zo
  have h4:d / (g:Int)=(b:Int):=by
   rw [h2];exact Int.mul_ediv_cancel_left _ zo
  rw [h3] at e1;rw [h4] at e2;have k1:a≤g*a:=Nat.le_mul_of_pos_left _ g0;have k2:b≤g*b:=Nat.le_mul_of_pos_left _ g0;refine ⟨?_,?_⟩
  ·rw [e1,ha];split<;>simp<;>exact k1
  ·rw [hb];have:q.den=b:=by exact_mod_cast e2
   omega
 by_cases h:0<d
 ·exact key n d h
 ·have:=key (-n) (-d) zo;rw [show ((-n:Int):Rat) / ((-d:Int):Rat)=(n:Rat) / (d:Rat) by rw [Rat.intCast_neg,Rat.intCast_neg,Rat.div_def,Rat.div_def];grind,Int.natAbs_neg,Int.natAbs_neg] at this;exact this
end Go.Proofs.dI
namespace Go.d9
open Go Go.Num Go.Proofs
def Hq (k:Nat) (q:Rat):Prop:=∃ n d:Int,0<d∧d.natAbs≤jT k∧n.natAbs≤jT k∧q=(n:Rat) / (d:Rat)
theorem uI (a b:Nat):jT (a+b)=jT a*jT b:=eG _ _ _
theorem Lv {a b:Nat} (h:a≤b):jT a≤jT b:=bX zo h
theorem RH {a b:Nat} (h:a<b):jT a<jT b:=Nat.pow_lt_pow_right zo h
theorem Hq.mono {a b:Nat} {q:Rat} (h:Hq a q) (k:a≤b):Hq b q:=by
 obtain ⟨n,d,h1,h2,h3,h4⟩:=h;have:=Lv k;exact ⟨n,d,h1,by omega,by omega,h4⟩
theorem Hq.ok {a:Nat} {q:Rat} (h:Hq a q) (k:a<600):iG q=true:=by
 obtain ⟨n,d,h1,h2,h3,rfl⟩:=h;obtain ⟨l1,l2⟩:=dI.Wv (n:=n) (d:=d) zo;have:=RH k;unfold iG mQ;generalize jT 600=X at *;rw [aD];exact ⟨decide_eq_true zo,decide_eq_true zo⟩
theorem vk {d:Int} (h:0<d):(d:Rat)≠0:=fun e=>by
 have:d=0:=by exact_mod_cast e
 omega
theorem Hq.mul {a b:Nat} {p q:Rat} (h:Hq a p) (k:Hq b q):Hq (a+b) (p*q):=by
 obtain ⟨n,d,h1,h2,h3,rfl⟩:=h;obtain ⟨n',d',k1,k2,k3,rfl⟩:=k;refine ⟨n*n',d*d',Int.mul_pos h1 k1,?_,?_,?_⟩
 ·rw [uI,Int.natAbs_mul];exact dU h2 k2
 ·rw [uI,Int.natAbs_mul];exact dU h3 k3
 ·have e1:=vk h1;have e2:=vk k1;rw [Rat.intCast_mul,Rat.intCast_mul]
  grind
theorem Hq.add {a b:Nat} {p q:Rat} (h:Hq a p) (k:Hq b q):Hq (a+b+1) (p+q):=by
 obtain ⟨n,d,h1,h2,h3,rfl⟩:=h;obtain ⟨n',d',k1,k2,k3,rfl⟩:=k;have t:jT (a+b+1)=10*(jT a*jT b):=by rw [uI,uI];show _*10=_;omega
 refine ⟨n*d'+n'*d,d*d',Int.mul_pos h1 k1,?_,?_,?_⟩
 ·have:=dU h2 k2;rw [t,Int.natAbs_mul];omega
 ·have x1:=dU h3 k2;have x2:=dU k3 h2;rw [aL (jT b)] at x2;have x3:=Int.natAbs_add_le (n*d') (n'*d);rw [Int.natAbs_mul,Int.natAbs_mul] at x3;rw [t];omega
 ·have e1:=vk h1;have e2:=vk k1;rw [Rat.intCast_add,Rat.intCast_mul,Rat.intCast_mul,Rat.intCast_mul]
  grind
theorem Hq.neg {a:Nat} {p:Rat} (h:Hq a p):Hq a (-p):=by
 obtain ⟨n,d,h1,h2,h3,rfl⟩:=h;exact ⟨-n,d,h1,h2,by rw [Int.natAbs_neg];exact h3,by rw [Rat.intCast_neg];grind⟩
theorem Hq.sub {a b:Nat} {p q:Rat} (h:Hq a p) (k:Hq b q):Hq (a+b+1) (p - q):=by
 rw [Rat.sub_eq_add_neg];exact h.add k.neg
theorem Hq.zero:Hq 0 0:=⟨0,1,by omega,by decide,by decide,by decide+kernel⟩
theorem Hq.one:Hq 0 1:=⟨1,1,by omega,by decide,by decide,by decide+kernel⟩
end Go.d9
namespace Go.Proofs
open Go Go.RowKit Go.SW Go.Num Go.Mem Go.d9
theorem ae6 {s t s' t' y y':ByteArray} {k:Int} (hx:Dz ⟨s,t⟩ ⟨s',t'⟩=(⟨y,y'⟩,k)) (w:World) (ht:iA.Pow w):Calls Tryz.prog 140 #[aB #[O s,O t],aB #[O s',O t']] w (fun e w'=>e= ah (aF #[aB #[O y,O y'],Z I k])∧Below w.heap.size w w'):=by
 have h:=dw.DU ⟨s,t⟩ ⟨s',t'⟩ w ht;rw [hx] at h;exact h
theorem ae3 {s t s' t' y y':ByteArray} {k:Int} (hx:Im ⟨s,t⟩ ⟨s',t'⟩=(⟨y,y'⟩,k)) (w:World) (ht:iA.Pow w):Calls Tryz.prog 141 #[aB #[O s,O t],aB #[O s',O t']] w (fun e w'=>e= ah (aF #[aB #[O y,O y'],Z I k])∧Below w.heap.size w w'):=by
 have h:=dw.QI ⟨s,t⟩ ⟨s',t'⟩ w ht;rw [hx] at h;exact h
theorem Gw {s t s' t' y y':ByteArray} {k:Int} (hx:vT ⟨s,t⟩ ⟨s',t'⟩=(⟨y,y'⟩,k)) (w:World) (ht:iA.Pow w):Calls Tryz.prog 14 #[aB #[O s,O t],aB #[O s',O t']] w (fun e w'=>e= ah (aF #[aB #[O y,O y'],Z I k])∧Below w.heap.size w w'):=by
 have h:=dw.wu ⟨s,t⟩ ⟨s',t'⟩ w ht;rw [hx] at h;exact h
theorem QA {s t s' t' y y':ByteArray} {k:Int} (hx:uX ⟨s,t⟩ ⟨s',t'⟩=(⟨y,y'⟩,k)) (w:World) (ht:iA.Pow w):Calls Tryz.prog 78 #[aB #[O s,O t],aB #[O s',O t']] w (fun e w'=>e= ah (aF #[aB #[O y,O y'],Z I k])∧Below w.heap.size w w'):=by
 have h:=dw.wC ⟨s,t⟩ ⟨s',t'⟩ w ht;rw [hx] at h;exact h
theorem M9 {s t s' t':ByteArray} {v k:Int} (hx:uE ⟨s,t⟩ ⟨s',t'⟩=(v,k)) (w:World):Calls Tryz.prog 36 #[aB #[O s,O t],aB #[O s',O t']] w (fun e w'=>e= ah (aF #[Z I v,Z I k])∧Below w.heap.size w w'):=by
 have h:=dw.DR ⟨s,t⟩ ⟨s',t'⟩ w;rw [hx] at h;exact h
theorem mZ {s t:ByteArray} {v k:Int} (hx:nU ⟨s,t⟩=(v,k)) (w:World):Calls Tryz.prog 75 #[aB #[O s,O t]] w (fun e w'=>e= ah (aF #[Z I v,Z I k])∧Below w.heap.size w w'):=by
 have h:=dw.vB ⟨s,t⟩ w;rw [hx] at h;exact h
theorem cOf {n d:Int} {y y':ByteArray} {k:Int} (hx:oh n d=(⟨y,y'⟩,k)) (w:World) (ht:iA.Pow w) (n0: -9223372036854775808≤n:=by omega) (n1:n≤9223372036854775807:=by omega) (d0: -9223372036854775808≤d:=by omega) (d1:d≤9223372036854775807:=by omega) :
  Calls Tryz.prog 35 #[.int .i64 n,.int .i64 d] w (fun e w'=>e= .returned (.tuple #[.agg #[.string y,.string y'],.int .i64 k])∧Below w.heap.size w w'):=by
 have h:=dw.vD n d n0 n1 d0 d1 w ht;rw [hx] at h;exact h
theorem TP {s t:ByteArray} {x y k:Int} (hx:dR.j6 ⟨s,t⟩=((x,y),k)) (w:World) (ht:iA.Pow w) (he:whole.Er w):Calls Tryz.prog 113 #[aB #[O s,O t]] w (fun e w'=>e= ah (aF #[aB #[Z I x,Z I y],Z I k])∧Below w.heap.size w w'):=by
 have h:=dR.Nu ⟨s,t⟩ w ht he;rw [hx] at h;exact h
theorem U8 {lo hi q x y k:Int} (hx:power.LU lo hi 1 q=((x,y),k)) (w:World) (ht:iA.Pow w) (he:whole.Er w):Calls Tryz.prog 83 #[aB #[Z I lo,Z I hi],Z I q] w (fun e w'=>e= ah (aF #[aB #[Z I x,Z I y],Z I k])∧Below w.heap.size w w'):=by
 have h:=power.DI lo hi q w ht he;rw [hx] at h;exact h
theorem XI {lo hi p q x y k:Int} (hx:power.LU lo hi p q=((x,y),k)) (w:World) (ht:iA.Pow w) (he:whole.Er w):Calls Tryz.prog 24 #[aB #[Z I lo,Z I hi],Z I p,Z I q] w (fun e w'=>e= ah (aF #[aB #[Z I x,Z I y],Z I k])∧Below w.heap.size w w'):=by
 have h:=power.Hf lo hi p q w ht he;rw [hx] at h;exact h
theorem QB {x y x' y' u v k:Int} (hx:dR.lK (x,y) (x',y')=((u,v),k)) (w:World):Calls Tryz.prog 98 #[aB #[Z I x,Z I y],aB #[Z I x',Z I y']] w (fun e w'=>e= ah (aF #[aB #[Z I u,Z I v],Z I k])∧Below w.heap.size w w'):=by
 have h:=dR.DU x y x' y' w;rw [hx] at h;exact h
theorem KX {x y x' y' u v k:Int} (hx:dR.sO (x,y) (x',y')=((u,v),k)) (w:World):Calls Tryz.prog 25 #[aB #[Z I x,Z I y],aB #[Z I x',Z I y']] w (fun e w'=>e= ah (aF #[aB #[Z I u,Z I v],Z I k])∧Below w.heap.size w w'):=by
 have h:=dR.wu x y x' y' w;rw [hx] at h;exact h
theorem ae5 {x y x' y' u v k:Int} (hx:dR.F5 (x,y) (x',y')=((u,v),k)) (w:World):Calls Tryz.prog 59 #[aB #[Z I x,Z I y],aB #[Z I x',Z I y']] w (fun e w'=>e= ah (aF #[aB #[Z I u,Z I v],Z I k])∧Below w.heap.size w w'):=by
 have h:=dR.wC x y x' y' w;rw [hx] at h;exact h
theorem Dw {x y n d u v k:Int} (hx:dR.Bc (x,y) n d=((u,v),k)) (w:World):Calls Tryz.prog 43 #[aB #[Z I x,Z I y],Z I n,Z I d] w (fun e w'=>e= ah (aF #[aB #[Z I u,Z I v],Z I k])∧Below w.heap.size w w'):=by
 have h:=dR.QJ x y n d w;rw [hx] at h;exact h
theorem XJ {n u v k:Int} (hx:dR.UC n=((u,v),k)) (w:World):Calls Tryz.prog 58 #[Z I n] w (fun e w'=>e= ah (aF #[aB #[Z I u,Z I v],Z I k])∧Below w.heap.size w w'):=by
 have h:=dR.QL n w;rw [hx] at h;exact h
def dR.Wq (lo hi:Int):(Int × Int) × Int:=if dR.jy lo hi then ((lo,hi),0) else ((0,0),30)
theorem an6 {lo hi u v k:Int} (hx:dR.Wq lo hi=((u,v),k)) (w:World):Calls Tryz.prog 26 #[Z I lo,Z I hi] w (fun e w'=>e= ah (aF #[aB #[Z I u,Z I v],Z I k])∧Below w.heap.size w w'):=by
 have h:=dR.vD lo hi w;unfold dR.Wq at hx
 revert h
 cases hb:dR.jy lo hi<;>rw [hb] at hx<;>(try rw [if_pos rfl] at hx)<;>(try rw [if_neg zd] at hx)<;>cases hx<;>exact fun h=>h
def Iz (a:Fr) (n:Nat):Fr × Int:=match rd a with
 | some p=>wr (p^n)
 | none=>(Fr.no,20)
theorem ae4 {s t y y':ByteArray} {n:Nat} {k:Int} (hx:Iz ⟨s,t⟩ n=(⟨y,y'⟩,k)) (w:World) (ht:iA.Pow w) (h:∃ p,rd ⟨s,t⟩=some p∧0≤p) (n40:n≤40:=by omega):Calls Tryz.prog 145 #[.agg #[.string s,.string t],.int .i64 (n:Int)] w (fun e w'=>e= .returned (.tuple #[.agg #[.string y,.string y'],.int .i64 k])∧Below w.heap.size w w'):=by
 obtain ⟨p,hp,h0⟩:=h;obtain ⟨e,ok⟩:=mX hp;have h:=dw.wm p n ok h0 n40 w ht;unfold Iz at hx;rw [hp] at hx;replace hx:wr (p^n)=(⟨y,y'⟩,k):=hx;rw [hx,← e] at h;exact h
end Go.Proofs
namespace Go.Proofs.dR
open Go Go.RowKit Go.SW Go.Num Go.Mem Go.Proofs Go.d9 Go.Proofs.matrix Go.Proofs.dV Go.Proofs.dI
theorem tH {a b c:Rat} (h:a≤b) (hc:c≤0):b*c≤a*c:=by
 have h1:0≤ -c:=by grind
 have h2:=Rat.mul_le_mul_of_nonneg_right h h1
 grind
theorem seg {c x d:Rat} (y:Rat) (h1:c≤x) (h2:x≤d):(c*y≤x*y∨d*y≤x*y)∧(x*y≤c*y∨x*y≤d*y):=by
 rcases Rat.le_total (a:=0) (b:=y) with hy|hy
 ·exact ⟨.inl (Rat.mul_le_mul_of_nonneg_right h1 hy),.inr (Rat.mul_le_mul_of_nonneg_right h2 hy)⟩
 ·exact ⟨.inr (tH h2 hy),.inl (tH h1 hy)⟩
theorem Og {a b x c d y:Rat} (h1:a≤x) (h2:x≤b) (k1:c≤y) (k2:y≤d) :
  (a*c≤x*y∨a*d≤x*y∨b*c≤x*y∨b*d≤x*y)∧(x*y≤a*c∨x*y≤a*d∨x*y≤b*c∨x*y≤b*d):=by
 have s:=seg y h1 h2;have ta:=seg a k1 k2;have tb:=seg b k1 k2;rw [Rat.mul_comm c a,Rat.mul_comm d a,Rat.mul_comm y a] at ta;rw [Rat.mul_comm c b,Rat.mul_comm d b,Rat.mul_comm y b] at tb
 constructor
 ·rcases s.1 with h|h
  ·rcases ta.1 with g|g
   ·exact .inl (Rat.le_trans g h)
   ·exact .inr (.inl (Rat.le_trans g h))
  ·rcases tb.1 with g|g
   ·exact .inr (.inr (.inl (Rat.le_trans g h)))
   ·exact .inr (.inr (.inr (Rat.le_trans g h)))
 ·rcases s.2 with h|h
  ·rcases ta.2 with g|g
   ·exact .inl (Rat.le_trans h g)
   ·exact .inr (.inl (Rat.le_trans h g))
  ·rcases tb.2 with g|g
   ·exact .inr (.inr (.inl (Rat.le_trans h g)))
   ·exact .inr (.inr (.inr (Rat.le_trans h g)))
def Wi (M:Int) (v:Rat):Prop:=un (-M)≤v∧v≤un M
theorem VU (n:Int):un (-n)= -un n:=by unfold un;rw [Rat.intCast_neg,rC]
theorem _root_.Go.Proofs.matrix.In.lo {b:Int × Int} {q:Rat} {M:Int} (h:In b q M):un b.1≤q:=h.1
theorem _root_.Go.Proofs.matrix.In.hi {b:Int × Int} {q:Rat} {M:Int} (h:In b q M):q≤un b.2:=h.2.1
theorem _root_.Go.Proofs.matrix.In.mono {b:Int × Int} {q:Rat} {M N:Int} (h:In b q M) (k:M≤N):In b q N:=⟨h.1,h.2.1,by have:=h.2.2.1;omega,by have:=h.2.2.2;omega⟩
theorem Wp {s t:Int × Int} (h:jy s.1 s.2=true) (k:jy t.1 t.2=true):okB [s,t]=true:=by
 unfold okB;simp only [gK,List.all_nil,Bool.and_true,h,k]
theorem aj1 {s:Int × Int} (h:jy s.1 s.2=true):okB [s]=true:=by
 unfold okB;simp only [gK,List.all_nil,Bool.and_true,h]
theorem Wi.of {n d M:Int} (hd:0<d) (h1: -(M*d)≤n*1000000000000) (h2:n*1000000000000≤M*d):Wi M ((n:Rat) / (d:Rat)):=by
 have hd':(0:Rat)<(d:Rat):=Rat.intCast_pos.2 hd;have hd0:(d:Rat)≠0:=fun e=>by rw [e] at hd';exact absurd hd' zd
 have key:∀ a b:Int,a*d≤b*1000000000000→un a≤(b:Rat) / (d:Rat):=fun a b h=>by
  rw [vJ];refine Rat.le_of_mul_le_mul_right (c:=(d:Rat)) ?_ hd';have e:(b:Rat) / (d:Rat)*((1000000000000:Int):Rat)*(d:Rat)=(b:Rat)*((1000000000000:Int):Rat):=by grind
  rw [e];have h2:((a*d:Int):Rat)≤((b*1000000000000:Int):Rat):=Rat.intCast_le_intCast.2 h;rw [Rat.intCast_mul,Rat.intCast_mul] at h2;exact h2
 refine ⟨key _ _ (by rw [Int.neg_mul];exact h1),?_⟩;have:=key (-M) (-n) (by rw [Int.neg_mul,Int.neg_mul];omega);rw [VU,Rat.intCast_neg,← rC] at this
 grind
end Go.Proofs.dR
namespace Go.Proofs
theorem fU {α β:Type} {z:β} {x:α × Int} {f:α→β × Int} {v:β} (h:bC z x f=(v,0)):∃ y,x=(y,0)∧f y=(v,0):=by
 obtain ⟨y,k⟩:=x
 by_cases hk:k=0
 ·subst hk;exact ⟨y,rfl,h⟩
 ·rw [K7 hk] at h;cases h
  exact absurd rfl hk
theorem RY {α:Type} {x v:α} (h:oC x=(v,0)):x=v:=congrArg Prod.fst h
end Go.Proofs
namespace Go.Proofs.power
open Go Go.Num Go.d9 Go.Proofs.dR
end Go.Proofs.power
namespace Go.Proofs.dR
open Go Go.RowKit Go.Num Go.Mem Go.Proofs Go.d9 Go.Proofs.matrix Go.Proofs.dV Go.Proofs.dI
theorem FE {lo hi:Int} {b:Int × Int} (h:iV lo hi=(b,0)):b=(lo,hi):=by
 unfold iV at h;split at h
 ·exact (congrArg Prod.fst h).symm
 ·exact absurd (show (6:Int)=0 from congrArg Prod.snd h) zd
structure Sb (a A:Int × Int):Prop where
 lo:A.1≤a.1
 le:a.1≤a.2
 hi:a.2≤A.2
theorem Sb.refl {a:Int × Int} (h:a.1≤a.2):Sb a a:=⟨Int.le_refl _,h,Int.le_refl _⟩
theorem Sb.trans {a b c:Int × Int} (h:Sb a b) (k:Sb b c):Sb a c:=⟨Int.le_trans k.lo h.lo,h.le,Int.le_trans h.hi k.hi⟩
theorem Sb.jy {a A:Int × Int} (h:Sb a A) (k:jy A.1 A.2=true):jy a.1 a.2=true:=by
 obtain ⟨n1,n2,n3⟩:=CW k;obtain ⟨h1,h2,h3⟩:=h;exact jS zo h2 zo
theorem O5 {x y X Y:Int} {C:Int × Int} (h1:X≤x) (h2:x≤y) (h3:y≤Y) (e:iV X Y=(C,0)):∃ c,iV x y=(c,0)∧Sb c C:=by
 have hC:=FE e;subst hC
 have hb:jy X Y=true:=by
  unfold iV at e;split at e
  ·assumption
  ·exact absurd (show (6:Int)=0 from congrArg Prod.snd e) zd
 refine ⟨(x,y),?_,h1,h2,h3⟩;unfold iV;rw [if_pos (Sb.jy (a:=(x,y)) (A:=(X,Y)) ⟨h1,h2,h3⟩ hb)]
theorem UE {c:Prop} [Decidable c] {r:(Int × Int) × Int} {C:Int × Int} {k:Int} (hk:k≠0) (h:(if c then r else ((0,0),k))=(C,0)):c∧r=(C,0):=by
 split at h
 ·exact ⟨by assumption,h⟩
 ·exact absurd (congrArg Prod.snd h) hk
theorem Sq {a b:Int × Int} (h:okB [a,b]=true):jy a.1 a.2=true∧jy b.1 b.2=true:=by
 unfold okB at h
 simpa only [gK,List.all_nil,Bool.and_true,aD] using h
section
variable {a b A B C:Int × Int}
theorem Lr {lo hi LO HI:Rat} (h1:LO≤lo) (h2:lo≤hi) (h3:hi≤HI) (e:iP LO HI=(C,0)):∃ c,iP lo hi=(c,0)∧Sb c C:=by
 unfold iP at *;refine O5 ?_ ?_ ?_ e
 ·rw [jV,jV];exact Rat.le_floor_iff.2 (Rat.le_trans (Rat.floor_le _) (Rat.mul_le_mul_of_nonneg_right h1 (Rat.le_of_lt pQ)))
 ·rw [jV,jV];have x1:=Rat.floor_le (lo*((1000000000000:Int):Rat));have x2:=Rat.floor_le (-(hi*((1000000000000:Int):Rat)));have x3:=Rat.mul_le_mul_of_nonneg_right h2 (Rat.le_of_lt pQ)
  have x4:((lo*((1000000000000:Int):Rat)).floor:Rat)≤((-(-(hi*((1000000000000:Int):Rat))).floor:Int):Rat):=by
   rw [Rat.intCast_neg];generalize lo*((1000000000000:Int):Rat)=x at *;generalize hi*((1000000000000:Int):Rat)=y at *;generalize ((x.floor:Int):Rat)=u at *;generalize (((-y).floor:Int):Rat)=v at *
   grind
  exact Rat.intCast_le_intCast.1 x4
 ·rw [jV,jV];have:(-(HI*((1000000000000:Int):Rat))).floor≤(-(hi*((1000000000000:Int):Rat))).floor:=Rat.le_floor_iff.2 (Rat.le_trans (Rat.floor_le _) (Rat.neg_le_neg (Rat.mul_le_mul_of_nonneg_right h3 (Rat.le_of_lt pQ))));omega
def Vi (P0 P1 P2 P3 q:Rat):Prop:=(P0≤q∨P1≤q∨P2≤q∨P3≤q)∧(q≤P0∨q≤P1∨q≤P2∨q≤P3)
theorem Qd {p0 p1 p2 p3 P0 P1 P2 P3:Rat} (l0:Vi P0 P1 P2 P3 p0) (l1:Vi P0 P1 P2 P3 p1) (l2:Vi P0 P1 P2 P3 p2) (l3:Vi P0 P1 P2 P3 p3) (e:iP (gZ P0 [P1,P2,P3]) (dY P0 [P1,P2,P3])=(C,0)) :
  ∃ c,iP (gZ p0 [p1,p2,p3]) (dY p0 [p1,p2,p3])=(c,0)∧Sb c C:=by
 obtain ⟨M1,M2,M3,M4,M5⟩:=O9 P0 P1 P2 P3;obtain ⟨K1,K2,K3,K4,K5⟩:=FR P0 P1 P2 P3;obtain ⟨m1,m2,m3,m4,m5⟩:=O9 p0 p1 p2 p3;obtain ⟨k1,k2,k3,k4,k5⟩:=FR p0 p1 p2 p3
 have lo:∀ q,Vi P0 P1 P2 P3 q→gZ P0 [P1,P2,P3]≤q:=fun q h=>by
  rcases h.1 with h|h|h|h
  ·exact Rat.le_trans M2 h
  ·exact Rat.le_trans M3 h
  ·exact Rat.le_trans M4 h
  ·exact Rat.le_trans M5 h
 have hi:∀ q,Vi P0 P1 P2 P3 q→q≤dY P0 [P1,P2,P3]:=fun q h=>by
  rcases h.2 with h|h|h|h
  ·exact Rat.le_trans h K2
  ·exact Rat.le_trans h K3
  ·exact Rat.le_trans h K4
  ·exact Rat.le_trans h K5
 refine Lr ?_ (Rat.le_trans m2 k2) ?_ e
 ·rcases m1 with h|h|h|h<;>rw [h]
  ·exact lo _ l0
  ·exact lo _ l1
  ·exact lo _ l2
  ·exact lo _ l3
 ·rcases k1 with h|h|h|h<;>rw [h]
  ·exact hi _ l0
  ·exact hi _ l1
  ·exact hi _ l2
  ·exact hi _ l3
theorem Sb.ends (h:Sb a A):un A.1≤un a.1∧un a.1≤un A.2∧un A.1≤un a.2∧un a.2≤un A.2:=by
 obtain ⟨h1,h2,h3⟩:=h;exact ⟨wG.2 h1,wG.2 zo,wG.2 zo,wG.2 h3⟩
theorem vS (h:okB [a,b]=true):sO a b=iP (gZ (un a.1*un b.1) [un a.1*un b.2,un a.2*un b.1,un a.2*un b.2]) (dY (un a.1*un b.1) [un a.1*un b.2,un a.2*un b.1,un a.2*un b.2]):=by
 rw [Lp a b];unfold sO;rw [if_pos h]
theorem CZ (ha:Sb a A) (hb:Sb b B) (e:sO A B=(C,0)):∃ c,sO a b=(c,0)∧Sb c C:=by
 have e0:=e;unfold sO at e0;obtain ⟨h1, -⟩:=UE zd e0;obtain ⟨k1,k2⟩:=Sq h1;rw [vS h1] at e;rw [vS (Wp (ha.jy k1) (hb.jy k2))];obtain ⟨x1,x2,x3,x4⟩:=ha.ends;obtain ⟨y1,y2,y3,y4⟩:=hb.ends;exact Qd (Og x1 x2 y1 y2) (Og x1 x2 y3 y4) (Og x3 x4 y1 y2) (Og x3 x4 y3 y4) e
theorem WG {x y:Rat} (hx:0<x) (hxy:x≤y):y⁻¹≤x⁻¹:=by
 have hy:0<y:=Std.lt_of_lt_of_le hx hxy;have ix:=Rat.inv_pos.2 hx;have iy:=Rat.inv_pos.2 hy;have h5:=Rat.mul_le_mul_of_nonneg_right hxy (Rat.le_of_lt (Rat.mul_pos ix iy));have nx:x≠0:=fun e=>by rw [e] at hx;exact absurd hx Rat.lt_irrefl
 have ny:y≠0:=fun e=>by rw [e] at hy;exact absurd hy Rat.lt_irrefl
 have e1:x*(x⁻¹*y⁻¹)=y⁻¹:=by rw [← Rat.mul_assoc,Rat.mul_inv_cancel _ nx,Rat.one_mul]
 have e2:y*(x⁻¹*y⁻¹)=x⁻¹:=by rw [Rat.mul_comm x⁻¹,← Rat.mul_assoc,Rat.mul_inv_cancel _ ny,Rat.one_mul]
 rwa [e1,e2] at h5
theorem MN (h:okB [a,b]=true) (hb:0<b.1) (hb2:b.1≤b.2):F5 a b=iP (gZ (un a.1 / un b.1) [un a.1 / un b.2,un a.2 / un b.1,un a.2 / un b.2]) (dY (un a.1 / un b.1) [un a.1 / un b.2,un a.2 / un b.1,un a.2 / un b.2]):=by
 rw [Ls a b zo zo];unfold F5 TI;rw [if_pos h,if_neg zo]
theorem LG {n d:Int} (h:jy a.1 a.2=true) (hn:¬ (n< -1000000000000∨1000000000000<n∨d<1∨1000000000000<d)):Bc a n d=iP (gZ (un a.1*((n:Rat) / (d:Rat))) [un a.2*((n:Rat) / (d:Rat)),un a.2*((n:Rat) / (d:Rat)),un a.2*((n:Rat) / (d:Rat))]) (dY (un a.1*((n:Rat) / (d:Rat))) [un a.2*((n:Rat) / (d:Rat)),un a.2*((n:Rat) / (d:Rat)),un a.2*((n:Rat) / (d:Rat))]):=by
 have g1:∀ p q:Rat,gZ p [q,q,q]=gZ p [q]:=fun p q=>by unfold gZ gZ gZ gZ;grind
 have g2:∀ p q:Rat,dY p [q,q,q]=dY p [q]:=fun p q=>by unfold dY dY dY dY;grind
 rw [g1,g2,Lm a n d zo];unfold Bc RX;rw [if_pos (aj1 h),if_neg hn]
end
def Ct (b:Int × Int) (q:Rat):Prop:=un b.1≤q∧q≤un b.2
section
variable {a b c:Int × Int} {p q:Rat}
theorem Ct.le (h:Ct b q):b.1≤b.2:=wG.1 (Rat.le_trans h.1 h.2)
theorem NT {lo hi:Rat} (h1:lo≤q) (h2:q≤hi) (e:iP lo hi=(c,0)):Ct c q:=by
 unfold iP at e;rw [FE e];refine ⟨?_,?_⟩
 ·rw [vJ,jV];exact Rat.le_trans (Rat.floor_le _) (Rat.mul_le_mul_of_nonneg_right h1 (Rat.le_of_lt pQ))
 ·rw [Ml,Rat.intCast_neg];have:=Rat.floor_le (-(hi*((1000000000000:Int):Rat)));rw [← jV] at this;have h5:=Rat.neg_le_neg this;rw [Rat.neg_neg] at h5;exact Rat.le_trans (Rat.mul_le_mul_of_nonneg_right h2 (Rat.le_of_lt pQ)) h5
theorem Tx {P0 P1 P2 P3:Rat} (h:Vi P0 P1 P2 P3 q) (e:iP (gZ P0 [P1,P2,P3]) (dY P0 [P1,P2,P3])=(c,0)):Ct c q:=by
 obtain ⟨M1,M2,M3,M4,M5⟩:=O9 P0 P1 P2 P3;obtain ⟨K1,K2,K3,K4,K5⟩:=FR P0 P1 P2 P3;refine NT ?_ ?_ e
 ·rcases h.1 with h|h|h|h
  ·exact Rat.le_trans M2 h
  ·exact Rat.le_trans M3 h
  ·exact Rat.le_trans M4 h
  ·exact Rat.le_trans M5 h
 ·rcases h.2 with h|h|h|h
  ·exact Rat.le_trans h K2
  ·exact Rat.le_trans h K3
  ·exact Rat.le_trans h K4
  ·exact Rat.le_trans h K5
end
end Go.Proofs.dR
