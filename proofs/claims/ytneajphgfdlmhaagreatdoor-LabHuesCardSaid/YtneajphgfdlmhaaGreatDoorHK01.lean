/- Lemmas for the proof. No condition. -/
import Derived.Test.YtneajphgfdlmhaaGreatDoorTB01
import Derived.Test.YtneajphgfdlmhaaGreatDoorTB02
import Derived.Test.YtneajphgfdlmhaaGreatDoorTB03
import Derived.Test.YtneajphgfdlmhaaGreatDoorTB04
import Derived.Test.YtneajphgfdlmhaaGreatDoorTB05
import Derived.Test.YtneajphgfdlmhaaGreatDoorTB06
import Derived.Test.YtneajphgfdlmhaaGreatDoorTB07
import Derived.Test.YtneajphgfdlmhaaGreatDoorTB08
import Derived.Test.YtneajphgfdlmhaaGreatDoorTB09
import Derived.Test.YtneajphgfdlmhaaGreatDoorTB10
import Derived.Test.YtneajphgfdlmhaaGreatDoorTB11
import Derived.Test.YtneajphgfdlmhaaGreatDoorProg
import Derived.Deep.Cut
import Derived.Laws.StructEq
import Derived.Laws.MakeOwn
import Derived.RangeFuncBox
import Derived.ChangeSame
import Derived.ChangeVars
import Derived.Below
set_option linter.unusedVariables false
set_option linter.unusedSimpArgs false
set_option maxRecDepth 100000
set_option maxHeartbeats 16000000
namespace Go.Fx
open Go Go.RowKit Go.SW Go.Mem
def Kept (l:List TypeId) (w w':World):Prop:=∀ b cs T,T∉l→ah w b cs T→ah w' b cs T
theorem Row.keep {l:List TypeId} {w w':World} {T:TypeId} {v:Value} {xs:List Value} (h:Row w T v xs) (k:Kept l w w') (hT:T∉l):Row w' T v xs:=by
 obtain ⟨a,cap,h1,h2,h3,h4,h5⟩:=h;refine ⟨a,cap,h1,h2,h3,h4,fun ad had=>?_⟩;obtain ⟨h6,arr,h7,h8⟩:=h5 ad had;exact ⟨h6,arr,k _ _ _ hT h7,h8⟩
theorem not_in {l:List TypeId} {T:TypeId} (h:l.contains T=false):T∉l:=by simpa using h
theorem aW.keep {l:List TypeId} {w w':World} {v:Value} {n:Nat} (h:aW w v n) (k:Kept l w w') (hT:l.contains 61=false:=by kernel_rfl):aW w' v n:=Row.keep h k (not_in hT)
def hold (L:Mm):List Nat:=(L.filter (·.o)).map (·.b)
def tys (L:Mm):List TypeId:=(L.filter (·.o)).map (·.T)
theorem mem_hold {L:Mm} {j:Nat} {x:Bx} (h:L[j]? =some x) (ho:x.o=true):x.b∈hold L:=List.mem_map.2 ⟨x,List.mem_filter.2 ⟨List.mem_of_getElem? h,ho⟩,rfl⟩
structure Bas (w w0:World) (H:List Nat):Prop where
 below:Below w.heap.size w w0
 old:∀ b∈H,w.heap.size≤b
theorem Bas.nil (w:World):Bas w w []:=⟨Below.refl _ _,fun _ h=>by cases h⟩
section
variable {P:Program} {n:Nat} {R:Post} {w0 w1:World} {H0:List Nat} {p:Pos} {S:Sl} {L L0:Mm}
theorem Bas.at {w W:World} (B:Bas w w0 H0) (M:Mem w0 H0 L W):Below w.heap.size w W:=M.wV.below B.below B.old
theorem Bas.next {w:World} (B:Bas w w0 H0) (M:Mem w0 H0 L w1):Bas w w1 (hold L):=⟨B.at M,fun b hb=>by
 obtain ⟨x,hx,rfl⟩:=List.mem_map.1 hb;obtain ⟨hx,ho⟩:=List.mem_filter.1 hx;obtain ⟨j,hj⟩:=List.getElem?_of_mem hx
 rcases M.own j x hj ho with h|h
 ·exact B.old _ h
 ·exact Nat.le_trans B.below.size h⟩
theorem Mem.anewK {w:World} (h:Mem w0 H0 L w):Mem w (hold L) L w:=⟨h.all,h.dis,fun _ _ hx ho=>.inl (mem_hold hx ho),nI.refl w⟩
theorem Mem.keep (M1:Mem w0 H0 L0 w1) {W:World} (M:Mem w1 (hold L0) L W):Kept (tys L0) w1 W:=fun b cs T hT hX=>by
 by_cases hb:b∈hold L0
 ·obtain ⟨x,hx,rfl⟩:=List.mem_map.1 hb;have hx2:=hx;obtain ⟨hx,ho⟩:=List.mem_filter.1 hx;obtain ⟨j,hj⟩:=List.getElem?_of_mem hx;have h2:=M1.all j x hj;unfold ah at h2 hX;rw [h2] at hX;cases hX
  exact absurd (List.mem_map.2 ⟨x,hx2,rfl⟩) hT
 ·exact M.wV.box hX hb
def AnewK (P:Program) (n:Nat) (R:Post) (w0:World) (H0:List Nat) (p:Pos) (d:Nat) (S:Sl) (L:Mm) (w w1:World):Ending→Prop
 | .returned v=>Below w.heap.size w w1∧(Mem w0 H0 L w1→G P n R w1 (hold L) p.past ((d,v)::S) L)
 | _=>False
theorem callK (hs:List Nat) (d:Nat) (St:Sl) (U:List (Nat × Array Value)) {f:FuncId} {args:Array Value} {E:World→Ending→World→Prop} (hC:∀ w,Mem w0 H0 (upd L U) w→Calls P f args w (E w))
  (hc:∀ w w1 e,Mem w0 H0 (upd L U) w→E w e w1→AnewK P n R w0 H0 (tr 4000 hs p).2 d (St++S) (upd L U) w w1 e)
  (h:OL P n w0 (tr 4000 hs p).1 S L St (upd L U):=by intro _;kernel_rfl) (hx:∀ w,vB P n w (CJ P n w0 (tr 4000 hs p).1 S L) (tr 4000 hs p).2=some (d,f,args,w):=by intro _;kernel_rfl) (hal:(tr 4000 hs p).2.past.Qn=true:=by kernel_rfl):G P n R w0 H0 p S L:=by
 refine goF hs St _ h ?_;have hsub:=h.sub;have hh:=xL (hx w0);generalize CJ P n w0 (tr 4000 hs p).1 S L=F at hx hsub ⊢;generalize (tr 4000 hs p).2=q at hc hx hal hh;generalize upd L U=L at hC hc;generalize St++S=S at hc hsub;obtain ⟨ops,o,hn,hf,hw,hd,hlt, -⟩:=nP (h:=hx w0);refine place hn hf hw (Y:=fun N H w a a' w1=>∃ v,a'=a.put (some d) v∧Below w.heap.size w w1∧Mem w0 H0 L w1∧G P n R w1 (hold L) q.past ((d,v)::F) L) (fun w N H hM hok a ha K hK k=>?_) fun w N H hM hok a a' w' ha hy=>?_
 ·obtain ⟨ops',o',hn', -, -, -, -, hr⟩:=nP (h:=hx w);rw [hn] at hn';cases hn'
  unfold Oper.wp;rw [ha.exec hf,hr];simp only [Oper.upon];refine (hC w hM).mono fun e w' he=>?_;have:=hc w w' e hM he;cases e with
  | returned v =>
   rw [hd];exact hK _ _ ⟨v,rfl,this.1,hM.later this.1,(this.2 (hM.later this.1)).of (qx hsub d v) hh⟩
  | _=>exact this.elim
 ·obtain ⟨v,rfl,h1,h2,h3⟩:=hy;refine ⟨fun _ _ _ _ _ _=>.of h1,_,ha.put hlt v,h3.out w' N H h2.anewK ?_⟩;cases q with
  | xB ops Hj is A k =>
   cases is with
   | nil=>cases hn
   | cons x is =>
    obtain ⟨k1,k2,k3,k4⟩:=hok;refine ⟨fun hx=>?_,fun hx=>?_,k3,k4⟩<;>simp only [Pos.past,Pos.Qn,hx] at hal<;>cases hal
  | reg ops is k=>cases is<;>exact trivial
  | _=>exact trivial
end
end Go.Fx
namespace Go.Proofs.aF
open Go Go.RowKit Go.SW Go.Num Go.Mem Go.Proofs Go.Dec Go.Proofs.aD Go.Fx
theorem _root_.Go.Mem.Pl.keep {l:List TypeId} {w w':World} {v:Value} {z:Int} (h:Pl w v z) (k:Kept l w w') (hT:l.contains 3=false:=by kernel_rfl):Pl w' v z:=by
 obtain ⟨pa,n,ca,h1,h2⟩:=h;exact ⟨pa,n,ca,h1,Row.keep h2 k (not_in hT)⟩
theorem Ra.keep {l:List TypeId} {w w':World} {v:Value} {q:Rat} (h:Ra w v q) (k:Kept l w w') (hT:l.contains 3=false:=by kernel_rfl):Ra w' v q:=by
 obtain ⟨bn,pn,ln,cn,bd,pd,ld,cd,e,h1,h2⟩:=h;exact ⟨bn,pn,ln,cn,bd,pd,ld,cd,e,h1.keep k hT,h2.keep k hT⟩
def aR0 (w:World) (z:Int) (e:Ending) (w':World):Prop:=∃ b pa l ca,e= .returned (.agg #[.bool b,.slice pa l ca])∧Below w.heap.size w w'∧Pl w' (.agg #[.bool b,.slice pa l ca]) z
theorem plAg {w:World} {z:Int} {e:Ending} {w':World} (h:Cv w z e w'):aR0 w z e w':=by
 obtain ⟨v,rfl,h,hv⟩:=h;obtain ⟨b,pa,l,ca,rfl⟩:=hv.agg;exact ⟨b,pa,l,ca,rfl,h,hv⟩
end Go.Proofs.aF
namespace Go.Proofs.matrix
open Go Go.Num Go.eF Go.Proofs.aL Go.Proofs.aN Go.Proofs.aF
theorem Bu (z:Int) (q:Rat):un z≤q↔(z:Rat)≤q*((1000000000000:Int):Rat):=by
 rw [← xS z]
 constructor
 ·exact fun h=>Rat.mul_le_mul_of_nonneg_right h (Rat.le_of_lt Bp)
 ·exact fun h=>Rat.le_of_mul_le_mul_right h Bp
theorem Lg (z:Int) (q:Rat):q≤un z↔q*((1000000000000:Int):Rat)≤(z:Rat):=by
 rw [← xS z]
 constructor
 ·exact fun h=>Rat.mul_le_mul_of_nonneg_right h (Rat.le_of_lt Bp)
 ·exact fun h=>Rat.le_of_mul_le_mul_right h Bp
theorem zI {a b:Int}:un a≤un b↔a≤b:=by rw [Bu,xS,Rat.intCast_le_intCast]
theorem MK (a b:Int):un (a+b)=un a+un b:=by
 unfold un;rw [Rat.intCast_add,Rat.div_def,Rat.div_def,Rat.div_def,Rat.add_mul]
def In (b:Int × Int) (q:Rat) (M:Int):Prop:=un b.1≤q∧q≤un b.2∧ -M≤b.1∧b.2≤M
theorem In.le {b:Int × Int} {q:Rat} {M:Int} (h:In b q M):b.1≤b.2:=zI.1 (Rat.le_trans h.1 h.2.1)
theorem Yu {x y:Int} (h: -1000000000000000000≤x) (h2:x≤y) (h3:y≤1000000000000000000):dA x y=true:=by
 unfold dA;rw [decide_eq_true h,decide_eq_true h2,decide_eq_true h3];rfl
theorem In.dA {b:Int × Int} {q:Rat} {M:Int} (h:In b q M) (hM:M≤1000000000000000000):dA b.1 b.2=true :=
 Yu (by have:=h.2.2.1;omega) h.le (by have:=h.2.2.2;omega)
theorem ak0 {s t:Int × Int} {p q:Rat} {a b:Int} (h:In s p a) (k:In t q b) (ha:0≤a) (hb:0≤b) (hM:a+b≤1000000000000000000):aL.jH s t=((s.1+t.1,s.2+t.2),0)∧In (s.1+t.1,s.2+t.2) (p+q) (a+b):=by
 have hi:In (s.1+t.1,s.2+t.2) (p+q) (a+b):=by
  obtain ⟨h1,h2,h3,h4⟩:=h;obtain ⟨k1,k2,k3,k4⟩:=k;refine ⟨?_,?_,?_,?_⟩
  ·simp only [MK];exact Rat.le_trans (Rat.add_le_add_left.2 k1) (Rat.add_le_add_right.2 h1)
  ·simp only [MK];exact Rat.le_trans (Rat.add_le_add_left.2 k2) (Rat.add_le_add_right.2 h2)
  ·show -(a+b)≤s.1+t.1
   omega
  ·show s.2+t.2≤a+b
   omega
 refine ⟨?_,hi⟩;unfold aL.jH okB dI;simp only [List.all_cons,List.all_nil,Bool.and_true,h.dA zo,k.dA zo,Bool.and_self,if_true];rw [if_pos (hi.dA hM)]
theorem XE {lo hi q:Rat} {M:Int} (h1:lo≤q) (h2:q≤hi) (h3: -M≤Ti (lo*((1000000000000:Int):Rat))) (h4: -(Ti (-(hi*((1000000000000:Int):Rat))))≤M) (hM:M≤1000000000000000000):∃ b,ig lo hi=(b,0)∧In b q M:=by
 have hi':In (Ti (lo*((1000000000000:Int):Rat)), -(Ti (-(hi*((1000000000000:Int):Rat))))) q M:=by
  refine ⟨?_,?_,h3,h4⟩
  ·rw [Bu,mX];exact Rat.le_trans (Rat.floor_le _) (Rat.mul_le_mul_of_nonneg_right h1 (Rat.le_of_lt Bp))
  ·rw [Lg,Rat.intCast_neg];have:=Rat.floor_le (-(hi*((1000000000000:Int):Rat)));rw [← mX] at this;have h5:=Rat.neg_le_neg this;rw [Rat.neg_neg] at h5;exact Rat.le_trans (Rat.mul_le_mul_of_nonneg_right h2 (Rat.le_of_lt Bp)) h5
 refine ⟨_,?_,hi'⟩;unfold ig dI;rw [if_pos (hi'.dA hM)]
end Go.Proofs.matrix
namespace Go.Proofs.aL
open Go Go.RowKit Go.SW Go.Num Go.Mem Go.Proofs Go.eF Go.Proofs.matrix Go.Proofs.aN Go.Proofs.aF
theorem yu {a b c:Rat} (h:a≤b) (hc:c≤0):b*c≤a*c:=by
 have h1:0≤ -c:=by grind
 have h2:=Rat.mul_le_mul_of_nonneg_right h h1
 grind
theorem seg {c x d:Rat} (y:Rat) (h1:c≤x) (h2:x≤d):(c*y≤x*y∨d*y≤x*y)∧(x*y≤c*y∨x*y≤d*y):=by
 rcases Rat.le_total (a:=0) (b:=y) with hy|hy
 ·exact ⟨.inl (Rat.mul_le_mul_of_nonneg_right h1 hy),.inr (Rat.mul_le_mul_of_nonneg_right h2 hy)⟩
 ·exact ⟨.inr (yu h2 hy),.inl (yu h1 hy)⟩
theorem aX3 {a b x c d y:Rat} (h1:a≤x) (h2:x≤b) (k1:c≤y) (k2:y≤d) :
  (a*c≤x*y∨a*d≤x*y∨b*c≤x*y∨b*d≤x*y)∧(x*y≤a*c∨x*y≤a*d∨x*y≤b*c∨x*y≤b*d):=by
 have s:=seg y h1 h2;have ta:=seg a k1 k2;have tb:=seg b k1 k2;rw [Rat.mul_comm c a,Rat.mul_comm d a,Rat.mul_comm y a] at ta;rw [Rat.mul_comm c b,Rat.mul_comm d b,Rat.mul_comm y b] at tb
 constructor
 ·rcases s.1 with h|h
  ·rcases ta.1 with g|g
   ·exact .inl (Rat.le_trans g h)
   ·exact .inr (.inl (Rat.le_trans g h))
  ·rcases tb.1 with g|g
   ·exact .inr (.inr (.inl (Rat.le_trans g h)))
   ·exact .inr (.inr (.inr (Rat.le_trans g h)))
 ·rcases s.2 with h|h
  ·rcases ta.2 with g|g
   ·exact .inl (Rat.le_trans h g)
   ·exact .inr (.inl (Rat.le_trans h g))
  ·rcases tb.2 with g|g
   ·exact .inr (.inr (.inl (Rat.le_trans h g)))
   ·exact .inr (.inr (.inr (Rat.le_trans h g)))
def Wi (M:Int) (v:Rat):Prop:=un (-M)≤v∧v≤un M
theorem yF (n:Int):un (-n)= -un n:=by unfold un;rw [Rat.intCast_neg,qE]
theorem Wi.dn {M:Int} {v:Rat} (h:Wi M v): -M≤Ti (v*((1000000000000:Int):Rat)):=by
 have:=sU h.1;rw [xS,Rat.floor_intCast] at this;rw [mX];exact this
theorem Wi.up {M:Int} {v:Rat} (h:Wi M v): -(Ti (-(v*((1000000000000:Int):Rat))))≤M:=by
 have:=vF h.2;rw [xS,← Rat.intCast_neg,Rat.floor_intCast] at this;rw [mX];omega
theorem _root_.Go.Proofs.matrix.In.lo {b:Int × Int} {q:Rat} {M:Int} (h:In b q M):un b.1≤q:=h.1
theorem _root_.Go.Proofs.matrix.In.hi {b:Int × Int} {q:Rat} {M:Int} (h:In b q M):q≤un b.2:=h.2.1
theorem _root_.Go.Proofs.matrix.In.wi {b:Int × Int} {q:Rat} {M:Int} (h:In b q M):Wi M q:=⟨Rat.le_trans (zI.2 h.2.2.1) h.1,Rat.le_trans h.2.1 (zI.2 h.2.2.2)⟩
theorem _root_.Go.Proofs.matrix.In.mono {b:Int × Int} {q:Rat} {M N:Int} (h:In b q M) (k:M≤N):In b q N:=⟨h.1,h.2.1,by have:=h.2.2.1;omega,by have:=h.2.2.2;omega⟩
theorem Pp {p0 p1 p2 p3 q:Rat} {M:Int} (h1:p0≤q∨p1≤q∨p2≤q∨p3≤q) (h2:q≤p0∨q≤p1∨q≤p2∨q≤p3) (w0:Wi M p0) (w1:Wi M p1) (w2:Wi M p2) (w3:Wi M p3) (hM:M≤1000000000000000000) :
  ∃ b,ig (gH p0 [p1,p2,p3]) (dD p0 [p1,p2,p3])=(b,0)∧In b q M:=by
 obtain ⟨m1,m2,m3,m4,m5⟩:=aK0 p0 p1 p2 p3;obtain ⟨k1,k2,k3,k4,k5⟩:=ak9 p0 p1 p2 p3;generalize gH p0 [p1,p2,p3]=lo at *;generalize dD p0 [p1,p2,p3]=hi at *;refine XE ?_ ?_ ?_ ?_ hM
 ·rcases h1 with h|h|h|h
  ·exact Rat.le_trans m2 h
  ·exact Rat.le_trans m3 h
  ·exact Rat.le_trans m4 h
  ·exact Rat.le_trans m5 h
 ·rcases h2 with h|h|h|h
  ·exact Rat.le_trans h k2
  ·exact Rat.le_trans h k3
  ·exact Rat.le_trans h k4
  ·exact Rat.le_trans h k5
 ·rcases m1 with rfl|rfl|rfl|rfl
  ·exact w0.dn
  ·exact w1.dn
  ·exact w2.dn
  ·exact w3.dn
 ·rcases k1 with rfl|rfl|rfl|rfl
  ·exact w0.up
  ·exact w1.up
  ·exact w2.up
  ·exact w3.up
theorem un_wi {n M:Int} (h: -M≤n) (k:n≤M):Wi M (un n):=⟨zI.2 h,zI.2 k⟩
theorem Kv {x y z:Int} (h:x*y≤z*1000000000000):un x*un y≤un z:=by
 rw [Lg,MJ];have e:=Bp;have h2:((x*y:Int):Rat)≤((z*1000000000000:Int):Rat):=Rat.intCast_le_intCast.2 h;rw [Rat.intCast_mul z] at h2;have h3:=Rat.mul_le_mul_of_nonneg_right h2 (Rat.le_of_lt (Rat.inv_pos.2 e));rw [Rat.div_def]
 rwa [Rat.mul_assoc (z:Rat),Rat.mul_inv_cancel _ WL,Rat.mul_one] at h3
theorem YU {x y z:Int} (h:z*1000000000000≤x*y):un z≤un x*un y:=by
 have:=Kv (x:= -x) (y:=y) (z:= -z) (by rw [Int.neg_mul,Int.neg_mul];omega);rw [yF,yF,Rat.neg_mul] at this;have:=Rat.neg_le_neg this
 rwa [Rat.neg_neg,Rat.neg_neg] at this
theorem Nu {x y A B M:Int} (hx:x.natAbs≤A) (hy:y.natAbs≤B) (h:A*B≤M*1000000000000):Wi M (un x*un y):=by
 have h1:(x*y).natAbs≤A*B:=by
  rw [Int.natAbs_mul,Int.natCast_mul];exact Int.mul_le_mul hx hy zo zo
 exact ⟨YU zo,Kv zo⟩
theorem aY5 {s t:Int × Int} (h:dA s.1 s.2=true) (k:dA t.1 t.2=true):okB [s,t]=true:=by
 unfold okB;simp only [List.all_cons,List.all_nil,Bool.and_true,h,k]
theorem bj5 {s:Int × Int} (h:dA s.1 s.2=true):okB [s]=true:=by
 unfold okB;simp only [List.all_cons,List.all_nil,Bool.and_true,h]
theorem NH {s t:Int × Int} {p q:Rat} {A B:Int} (M:Int) (h:In s p A) (k:In t q B) (hA:A≤1000000000000000000) (hB:B≤1000000000000000000) (hm:A*B≤M*1000000000000) (hM:M≤1000000000000000000) :
  ∃ b,aL.Ai s t=(b,0)∧In b (p*q) M:=by
 have e:aL.Ai s t=ig (gH (un s.1*un t.1) [un s.1*un t.2,un s.2*un t.1,un s.2*un t.2]) (dD (un s.1*un t.1) [un s.1*un t.2,un s.2*un t.1,un s.2*un t.2]):=by
  rw [Kz];unfold aL.Ai;rw [if_pos (aY5 (h.dA hA) (k.dA hB))]
 have hs:=h.le;have ht:=k.le;obtain ⟨h1,h2,h3,h4⟩:=h;obtain ⟨k1,k2,k3,k4⟩:=k;rw [e];exact Pp (aX3 h1 h2 k1 k2).1 (aX3 h1 h2 k1 k2).2 (Nu zo zo hm) (Nu zo zo hm) (Nu zo zo hm) (Nu zo zo hm) hM
theorem Wi.of {n d M:Int} (hd:0<d) (h1: -(M*d)≤n*1000000000000) (h2:n*1000000000000≤M*d):Wi M ((n:Rat) / (d:Rat)):=by
 have hd':(0:Rat)<(d:Rat):=Rat.intCast_pos.2 hd;have hd0:(d:Rat)≠0:=fun e=>by rw [e] at hd';exact absurd hd' zd
 have key:∀ a b:Int,a*d≤b*1000000000000→un a≤(b:Rat) / (d:Rat):=fun a b h=>by
  rw [Bu];refine Rat.le_of_mul_le_mul_right (c:=(d:Rat)) ?_ hd';have e:(b:Rat) / (d:Rat)*((1000000000000:Int):Rat)*(d:Rat)=(b:Rat)*((1000000000000:Int):Rat):=by grind
  rw [e];have h2:((a*d:Int):Rat)≤((b*1000000000000:Int):Rat):=Rat.intCast_le_intCast.2 h;rw [Rat.intCast_mul,Rat.intCast_mul] at h2;exact h2
 refine ⟨key _ _ (by rw [Int.neg_mul];exact h1),?_⟩;have:=key (-M) (-n) (by rw [Int.neg_mul,Int.neg_mul];omega);rw [yF,Rat.intCast_neg,← qE] at this
 grind
end Go.Proofs.aL
namespace Go.eF
open Go Go.RowKit Go.Num Go.Mem Go.Fx
theorem fJ.keep {l:List TypeId} {w w':World} {v:Value} {q:Rat} (h:fJ w v q) (k:Kept l w w') (hT:l.contains 61=false:=by kernel_rfl):fJ w' v q:=by
 obtain ⟨pa,n,ca,pb,m,cb,h1,h2,h3⟩:=h;exact ⟨pa,n,ca,pb,m,cb,h1,Fx.aW.keep h2 k hT,Fx.aW.keep h3 k hT⟩
end Go.eF
namespace Go.Num
theorem nlo_spec (l:List Nat):nlo l^2≤uF l∧uF l<(nlo l+1)^2:=kR zo _
theorem nhi_spec (l:List Nat):uF l≤nhi l^2:=by
 unfold nhi;split
 ·rename_i h;omega
 ·exact Nat.le_of_lt (nlo_spec l).2
theorem nlo_le_nhi (l:List Nat):nlo l≤nhi l:=by
 unfold nhi;split<;>omega
theorem le_nlo {l:List Nat} {r:Nat} (h:r^2≤uF l):r≤nlo l:=Aj zo h
theorem nlo_le {l:List Nat} {r:Nat} (h:uF l≤r^2):nlo l≤r:=by
 rcases Nat.lt_or_ge r (nlo l) with h1|h1
 ·have:=Nat.pow_lt_pow_left h1 (show 2≠0 by omega);have:=(nlo_spec l).1;omega
 ·exact h1
theorem nhi_le {l:List Nat} {r:Nat} (h:uF l≤r^2):nhi l≤r:=by
 have h1:=nlo_le h;unfold nhi;split
 ·exact h1
 ·rename_i h2
  rcases Nat.eq_or_lt_of_le h1 with e|h3
  ·have:=(nlo_spec l).1;rw [e] at this h2;omega
  ·omega
theorem sq_le {x:Nat} {l:List Nat} (h:x∈l):x^2≤uF l:=by
 induction l with
 | nil=>cases h
 | cons y t ih =>
  rw [ae7]
  rcases List.mem_cons.1 h with rfl|h
  ·omega
  ·have:=ih h;omega
theorem mem_nlo {x:Nat} {l:List Nat} (h:x∈l):x≤nlo l:=le_nlo (sq_le h)
theorem mem_nhi {x:Nat} {l:List Nat} (h:x∈l):x≤nhi l:=Nat.le_trans (mem_nlo h) (nlo_le_nhi l)
theorem sqs_sum (l:List Nat):uF l≤l.sum^2:=by
 induction l with
 | nil=>exact Nat.le_refl _
 | cons x t ih =>
  rw [ae7,List.sum_cons]
  have:(x+t.sum)^2=x^2+t.sum^2+2*(x*t.sum):=by
   rw [Nat.pow_two,Nat.pow_two,Nat.pow_two,Nat.add_mul,Nat.mul_add,Nat.mul_add,Nat.mul_comm t.sum x];omega
  omega
theorem nhi_sum (l:List Nat):nhi l≤l.sum:=nhi_le (sqs_sum l)
theorem nlo_sum (l:List Nat):nlo l≤l.sum:=Nat.le_trans (nlo_le_nhi l) (nhi_sum l)
end Go.Num
namespace Go.eF
end Go.eF
namespace Go.Proofs.power
open Go Go.RowKit Go.SW Go.Num Go.Mem Go.Proofs Go.eF Go.Proofs.aL
theorem nrmE_at {bs:List (Int × Int)} (h1:1≤bs.length) (h2:bs.length≤8) (h3:okB bs=true):ay0 bs=JK (BM (bs.map Ph) false) (BM (bs.map Ou) true):=by
 unfold ay0;rw [if_neg zo,if_neg zo,if_neg (by rw [h3];simp)]
end Go.Proofs.power
namespace Go.Proofs.lab
open Go Go.RowKit Go.SW Go.Num Go.Mem Go.Proofs Go.eF Go.Proofs.aL Go.Proofs.matrix Go.Proofs.aN Go.Proofs.aF
def wA (n m:Int):Int × Int:=(n*10000000000 - m,n*10000000000+m)
def negB (b:Int × Int):Int × Int:=(-b.2, -b.1)
structure Wd (b:Int × Int):Prop where
 le:b.1≤b.2
 lo: -129000000000000≤b.1
 hi:b.2≤129000000000000
 far:Ph b=0∨5000000000≤Ph b
theorem wd_at {n m:Int} (hn:n.natAbs≤12800) (m0:0≤m) (m1:m≤4294967295):Wd (wA n m):=by
 refine ⟨?_,?_,?_,?_⟩<;>unfold wA<;>(try unfold Ph)<;>simp only<;>omega
theorem Wd.neg {b:Int × Int} (h:Wd b):Wd (negB b):=by
 obtain ⟨h1,h2,h3,h4⟩:=h;refine ⟨?_,?_,?_,?_⟩<;>unfold negB<;>(try unfold Ph at*)<;>simp only at* <;>omega
theorem Wd.ok {b:Int × Int} (h:Wd b):dA b.1 b.2=true:=Yu (by have:=h.lo;omega) h.le (by have:=h.hi;omega)
theorem neg_bl (b:Int × Int):Ph (negB b)=Ph b∧Ou (negB b)=Ou b:=by
 unfold negB Ph Ou
 constructor<;>simp only<;>omega
theorem in_divB {s t:Int × Int} {p q:Rat} {A L:Int} (M:Int) (h:In s p A) (k1:un t.1≤q) (k2:q≤un t.2) (hL:0<L) (kL:L≤t.1) (kt:t.2≤1000000000000000000) (hA:A≤1000000000000000000) (hm:A*1000000000000≤M*L) (hM:M≤1000000000000000000) :
  ∃ b,aL.Vq s t=(b,0)∧In b (p / q) M:=by
 have ht:t.1≤t.2:=zI.1 (Rat.le_trans k1 k2)
 have e:aL.Vq s t=ig (gH (un s.1 / un t.1) [un s.1 / un t.2,un s.2 / un t.1,un s.2 / un t.2]) (dD (un s.1 / un t.1) [un s.1 / un t.2,un s.2 / un t.1,un s.2 / un t.2]):=by
  rw [YW s t zo zo];unfold aL.Vq aA7;rw [if_pos (aY5 (h.dA hA) (Yu zo ht kt)),if_neg zo]
 have hs:=h.le;obtain ⟨h1,h2,h3,h4⟩:=h;have z0:un 0=0:=by decide+kernel
 have p1:0<un t.1:=by
  have:un 1≤un t.1:=zI.2 zo;exact Std.lt_of_lt_of_le (by decide+kernel) this
 have pq:0<q:=Std.lt_of_lt_of_le p1 k1;have p2:0<un t.2:=Std.lt_of_lt_of_le pq k2
 have inv:∀ {x y:Rat},0<x→x≤y→y⁻¹≤x⁻¹:=fun {x y} hx hxy=>by
  have hy:0<y:=Std.lt_of_lt_of_le hx hxy;have ix:=Rat.inv_pos.2 hx;have iy:=Rat.inv_pos.2 hy;have h5:=Rat.mul_le_mul_of_nonneg_right hxy (Rat.le_of_lt (Rat.mul_pos ix iy));have nx:x≠0:=fun e=>by rw [e] at hx;exact absurd hx Rat.lt_irrefl
  have ny:y≠0:=fun e=>by rw [e] at hy;exact absurd hy Rat.lt_irrefl
  have e1:x*(x⁻¹*y⁻¹)=y⁻¹:=by rw [← Rat.mul_assoc,Rat.mul_inv_cancel _ nx,Rat.one_mul]
  have e2:y*(x⁻¹*y⁻¹)=x⁻¹:=by rw [Rat.mul_comm x⁻¹,← Rat.mul_assoc,Rat.mul_inv_cancel _ ny,Rat.one_mul]
  rwa [e1,e2] at h5
 have wi:∀ x y:Int,x.natAbs≤A→L≤y→Wi M (un x*(un y)⁻¹):=fun x y hx hy=>by
  have py:0<un y:=by
   have:un 1≤un y:=zI.2 zo;exact Std.lt_of_lt_of_le (by decide+kernel) this
  have ny:un y≠0:=fun e=>by rw [e] at py;exact absurd py Rat.lt_irrefl
  have hML:0≤M*L:=by
   have:0≤A:=by omega
   have:=Int.mul_nonneg this (show (0:Int)≤1000000000000 by omega);omega
  have hM0:0≤M:=by
   rcases Int.lt_or_le M 0 with c|c
   ·have:=Int.mul_neg_of_neg_of_pos c hL;omega
   ·exact c
  have hy2:M*L≤M*y:=Int.mul_le_mul_of_nonneg_left hy hM0
  have up:∀ z:Int,z.natAbs≤A→un z*(un y)⁻¹≤un M:=fun z hz=>by
   have h6:un z≤un M*un y:=by
    have:=YU (x:=M) (y:=y) (z:=z) zo;exact this
   have h7:=Rat.mul_le_mul_of_nonneg_right h6 (Rat.le_of_lt (Rat.inv_pos.2 py))
   rwa [Rat.mul_assoc,Rat.mul_inv_cancel _ ny,Rat.mul_one] at h7
  refine ⟨?_,up x hx⟩;have:=up (-x) zo;rw [yF,Rat.neg_mul] at this;rw [yF]
  grind
 simp only [Rat.div_def] at e ⊢;rw [e];have s2:=aX3 h1 h2 (inv pq k2) (inv p1 k1)
 exact Pp (by rcases s2.1 with h|h|h|h;exact .inr (.inl h);exact .inl h;exact .inr (.inr (.inr h));exact .inr (.inr (.inl h)))
  (by rcases s2.2 with h|h|h|h;exact .inr (.inl h);exact .inl h;exact .inr (.inr (.inr h));exact .inr (.inr (.inl h)))
  (wi _ _ zo kL) (wi _ _ zo zo) (wi _ _ zo kL) (wi _ _ zo zo) hM
def clQ (v:Rat):Rat:=if v< -1 then -1 else if 1<v then 1 else v
theorem un_E1:un 1000000000000=1:=by decide+kernel
theorem un_m1:un (-1000000000000)= -1:=by decide+kernel
def clB (b:Int × Int):Int × Int:=(min (max b.1 (-1000000000000)) 1000000000000,min (max b.2 (-1000000000000)) 1000000000000)
theorem clp_e {b:Int × Int} (h:dA b.1 b.2=true):Vt b (-1000000000000) 1000000000000=(clB b,0):=by
 obtain ⟨-, -, hle⟩:=BK h;unfold Vt aB2;have k1:dA (-1000000000000) 1000000000000=true:=by decide+kernel
 rw [if_pos (bj5 h),if_pos k1];unfold dI;exact if_pos (Yu zo zo zo)
theorem clp_in {b:Int × Int} {v:Rat} {M:Int} (h:In b v M):In (clB b) (clQ v) 1000000000000:=by
 obtain ⟨h1,h2, -, -⟩:=h
 have lo:∀ z:Int,un z≤v→un (min (max z (-1000000000000)) 1000000000000)≤clQ v:=fun z hz=>by
  unfold clQ;split
  ·rename_i c
   have:z< -1000000000000:=by
    refine Int.not_le.1 fun g=>?_;have:=zI.2 g;rw [un_m1] at this;exact absurd (Rat.le_trans this hz) (Rat.not_le.2 c)
   rw [show min (max z (-1000000000000)) 1000000000000= -1000000000000 by omega,un_m1];exact Rat.le_refl
  ·rename_i c;split
   ·rw [← un_E1];exact zI.2 zo
   ·rcases Int.le_total z (-1000000000000) with g|g
    ·rw [show min (max z (-1000000000000)) 1000000000000= -1000000000000 by omega,un_m1];exact Rat.not_lt.1 c
    ·exact Rat.le_trans (zI.2 zo) hz
 have hi:∀ z:Int,v≤un z→clQ v≤un (min (max z (-1000000000000)) 1000000000000):=fun z hz=>by
  unfold clQ;split
  ·rw [← un_m1];exact zI.2 zo
  ·split
   ·rename_i c
    have:1000000000000≤z:=by
     refine Int.not_lt.1 fun g=>?_;have:=zI.2 (Int.le_of_lt g);rw [un_E1] at this;exact absurd (Rat.le_trans hz this) (Rat.not_le.2 c)
    rw [show min (max z (-1000000000000)) 1000000000000=1000000000000 by omega,un_E1];exact Rat.le_refl
   ·rename_i c
    rcases Int.le_total z 1000000000000 with g|g
    ·exact Rat.le_trans hz (zI.2 zo)
    ·rw [show min (max z (-1000000000000)) 1000000000000=1000000000000 by omega,un_E1];exact Rat.not_lt.1 c
 exact ⟨lo _ h1,hi _ h2,by unfold clB;simp only;omega,by unfold clB;simp only;omega⟩
theorem part_in {A c:Int × Int} {a r:Rat} (hA:In A a 129000000000000) (h1:un c.1≤r) (h2:r≤un c.2) (h3:5000000000≤c.1) (h4:c.2≤1000000000000000):∃ q,aL.Vq A c=(q,0)∧Xp A c=(clB q,0)∧In (clB q) (clQ (a / r)) 1000000000000:=by
 obtain ⟨q,e,hq⟩:=in_divB 26000000000000000 hA h1 h2 (L:=5000000000) zo h3 zo zo zo zo;refine ⟨q,e,?_,clp_in hq⟩;unfold Xp;rw [aI e,aI (clp_e (hq.dA zo))];rfl
def sqrE (b:Int × Int):(Int × Int) × Int:=if (aq4 b.1 b.2).2≠0 then ((0,0),(aq4 b.1 b.2).2) else
 if (kI (aq4 b.1 b.2).1.1 (aq4 b.1 b.2).1.1 1000000000000 false).2=true∧(kI (aq4 b.1 b.2).1.2 (aq4 b.1 b.2).1.2 1000000000000 true).2=true then
  dI (kI (aq4 b.1 b.2).1.1 (aq4 b.1 b.2).1.1 1000000000000 false).1 (kI (aq4 b.1 b.2).1.2 (aq4 b.1 b.2).1.2 1000000000000 true).1 else ((0,0),6)
theorem quo_sq {x:Int} (h0:0≤x) (h1:x≤1000000000000) (up:Bool):kI x x 1000000000000 up=((if up then zH (un x*un x) else xX (un x*un x)),true):=by
 have h2:0≤x*x:=Int.mul_nonneg h0 h0;have h3:x*x≤1000000000000*1000000000000:=Int.mul_le_mul h1 h1 h0 zo;unfold kI;rw [if_neg zo];have e:(1000000000000:Int).natAbs=1000000000000:=rfl;rw [e];unfold jY;have d:=Lb x x;have u:=Xk x x
 have b1:(qZ (x*x) 1000000000000 up).natAbs≤1000000000000000000:=by
  have g1:(0:Int)≤x*x / 1000000000000:=Int.ediv_nonneg h2 zo;have g2:x*x / 1000000000000≤1000000000000:=Int.ediv_le_of_le_mul zo h3;have g3: -(x*x) / 1000000000000≤0:=by omega
  have g4: -1000000000000≤ -(x*x) / 1000000000000:=by omega
  unfold qZ;have c:((1000000000000:Nat):Int)=1000000000000:=rfl;rw [c];cases up
  ·rw [if_neg zd];omega
  ·rw [if_pos rfl];omega
 rw [if_pos b1];unfold zH xX;rw [d,u];cases up<;>rfl
theorem sq_le {a b:Rat} (h0:0≤a) (h:a≤b):a*a≤b*b:=Rat.le_trans (Rat.mul_le_mul_of_nonneg_left h h0) (Rat.mul_le_mul_of_nonneg_right h (Rat.le_trans h0 h))
theorem sqr_in {b:Int × Int} {v:Rat} (h:In b v 1000000000000):∃ s,sqrE b=(s,0)∧In s (v*v) 1000000000000:=by
 have hb:=h.dA zo;have hle:=h.le;obtain ⟨h1,h2,h3,h4⟩:=h;have ea:=power.aC3 (lo:=b.1) (hi:=b.2) hb;have eb:Ph (b.1,b.2)=Ph b:=rfl;have ec:Ou (b.1,b.2)=Ou b:=rfl;rw [eb,ec] at ea;have l1:Ph b≤Ou b:=by unfold Ph Ou;omega
 have l2:Ou b≤1000000000000:=by unfold Ou;omega
 have q1:=quo_sq (x:=((Ph b:Nat):Int)) zo zo false;have q2:=quo_sq (x:=((Ou b:Nat):Int)) zo zo true;rw [if_neg zd] at q1;rw [if_pos rfl] at q2
 have a1:∃ z:Rat,(z=v∨z= -v)∧un ((Ph b:Nat):Int)≤z∧z≤un ((Ou b:Nat):Int):=by
  rcases Rat.le_total (a:=0) (b:=v) with c|c
  ·refine ⟨v,.inl rfl,?_,Rat.le_trans h2 (zI.2 (by unfold Ou;omega))⟩
   rcases Int.le_total b.1 0 with g|g
   ·rcases Int.le_total 0 b.2 with g2|g2
    ·rw [show ((Ph b:Nat):Int)=0 by unfold Ph;omega];exact Rat.le_trans (by decide+kernel) c
    ·have h5:=zI.2 g2;have z0:un 0=0:=by decide+kernel
     rw [z0] at h5;have h6:v=0:=Rat.le_antisymm (Rat.le_trans h2 h5) c
     have h7:b.2=0:=by
      refine Int.le_antisymm g2 (zI.1 ?_);rw [z0,← h6];exact h2
     rw [show ((Ph b:Nat):Int)=0 by unfold Ph;omega,z0];exact c
   ·rw [show ((Ph b:Nat):Int)=b.1 by unfold Ph;omega];exact h1
  ·have n1:un (-b.2)≤ -v:=by rw [yF];exact Rat.neg_le_neg h2
   have n2: -v≤un (-b.1):=by rw [yF];exact Rat.neg_le_neg h1
   refine ⟨-v,.inr rfl,?_,Rat.le_trans n2 (zI.2 (by unfold Ou;omega))⟩;have c':0≤ -v:=by have:=Rat.neg_le_neg c;rwa [Rat.neg_zero] at this
   rcases Int.le_total 0 b.2 with g|g
   ·rcases Int.le_total b.1 0 with g2|g2
    ·rw [show ((Ph b:Nat):Int)=0 by unfold Ph;omega];exact Rat.le_trans (by decide+kernel) c'
    ·have h5:=zI.2 g2;have z0:un 0=0:=by decide+kernel
     rw [z0] at h5;have h6:v=0:=Rat.le_antisymm c (Rat.le_trans h5 h1)
     have h7:b.1=0:=by
      refine Int.le_antisymm (zI.1 ?_) g2;rw [z0,← h6];exact h1
     rw [show ((Ph b:Nat):Int)=0 by unfold Ph;omega,z0];exact c'
   ·rw [show ((Ph b:Nat):Int)= -b.2 by unfold Ph;omega];exact n1
 obtain ⟨z,hz,z1,z2⟩:=a1;have zz:v*v=z*z:=by rcases hz with rfl|rfl<;>grind
 have u0:0≤un ((Ph b:Nat):Int):=by
  have:un 0≤un ((Ph b:Nat):Int):=zI.2 zo;exact Rat.le_trans (by decide+kernel) this
 have m1:=sq_le u0 z1;have m2:=sq_le (Rat.le_trans u0 z1) z2;rw [← zz] at m1 m2;have w1:Wi 1000000000000 (un ((Ph b:Nat):Int)*un ((Ph b:Nat):Int)):=Nu (A:=1000000000000) (B:=1000000000000) zo zo zo;have w2:Wi 1000000000000 (un ((Ou b:Nat):Int)*un ((Ou b:Nat):Int)):=Nu (A:=1000000000000) (B:=1000000000000) zo zo zo;obtain ⟨s,es,hs⟩:=XE (q:=v*v) m1 m2 w1.dn w2.up zo;refine ⟨s,?_,hs⟩;unfold sqrE;rw [ea];simp only [q1,q2,ne_eq,not_true_eq_false,if_false,and_self,if_true];unfold ig at es;rw [mX,mX] at es;exact es
theorem tight_neg {a b c d:Rat}:(ig (gH (-c) [-d, -a, -b]) (dD (-c) [-d, -a, -b]))=(if (ig (gH a [b,c,d]) (dD a [b,c,d])).2=0 then (negB (ig (gH a [b,c,d]) (dD a [b,c,d])).1,0) else ig (gH a [b,c,d]) (dD a [b,c,d])):=by
 obtain ⟨m1,m2,m3,m4,m5⟩:=aK0 a b c d;obtain ⟨k1,k2,k3,k4,k5⟩:=ak9 a b c d;obtain ⟨n1,n2,n3,n4,n5⟩:=aK0 (-c) (-d) (-a) (-b);obtain ⟨l1,l2,l3,l4,l5⟩:=ak9 (-c) (-d) (-a) (-b)
 have e1:gH (-c) [-d, -a, -b]= -(dD a [b,c,d]):=by
  generalize gH (-c) [-d, -a, -b]=x at *;generalize dD a [b,c,d]=y at *;clear m1 m2 m3 m4 m5 l1 l2 l3 l4 l5;refine Rat.le_antisymm ?_ ?_
  ·rcases k1 with rfl|rfl|rfl|rfl<;>assumption
  ·rcases n1 with rfl|rfl|rfl|rfl<;>exact Rat.neg_le_neg (by assumption)
 have e2:dD (-c) [-d, -a, -b]= -(gH a [b,c,d]):=by
  generalize dD (-c) [-d, -a, -b]=x at *;generalize gH a [b,c,d]=y at *;clear k1 k2 k3 k4 k5 n1 n2 n3 n4 n5;refine Rat.le_antisymm ?_ ?_
  ·rcases l1 with rfl|rfl|rfl|rfl<;>exact Rat.neg_le_neg (by assumption)
  ·rcases m1 with rfl|rfl|rfl|rfl<;>assumption
 rw [e1,e2];generalize dD a [b,c,d]=y;generalize gH a [b,c,d]=x;unfold ig;rw [Rat.neg_mul,Rat.neg_mul,Rat.neg_neg];generalize Ti (x*((1000000000000:Int):Rat))=u;generalize Ti (-(y*((1000000000000:Int):Rat)))=v;unfold dI negB;cases h:dA u (-v)
 ·have:dA v (-u)=false:=by
   unfold dA at *;simp only [Bool.and_eq_false_iff,decide_eq_false_iff_not] at *;omega
  rw [this];rfl
 ·have:dA v (-u)=true:=by
   unfold dA at *;simp only [Bool.and_eq_true,decide_eq_true_eq] at *;omega
  rw [this];simp only [if_true,Int.neg_neg]
theorem div_neg {A c q:Int × Int} (hA:dA A.1 A.2=true) (hA2:dA (negB A).1 (negB A).2=true) (hc:dA c.1 c.2=true) (h1:0<c.1) (h2:c.1≤c.2) (e:aL.Vq A c=(q,0)):aL.Vq (negB A) c=(negB q,0):=by
 have f:∀ A:Int × Int,dA A.1 A.2=true→aL.Vq A c=ig (gH (un A.1 / un c.1) [un A.1 / un c.2,un A.2 / un c.1,un A.2 / un c.2]) (dD (un A.1 / un c.1) [un A.1 / un c.2,un A.2 / un c.1,un A.2 / un c.2]):=fun A hA=>by
  rw [YW A c zo zo];unfold aL.Vq aA7;rw [if_pos (aY5 hA hc),if_neg zo]
 rw [f A hA] at e;rw [f _ hA2];have n:∀ x y:Int,un (-x) / un y= -(un x / un y):=fun x y=>by rw [yF,← qE]
 show ig (gH (un (-A.2) / un c.1) [un (-A.2) / un c.2,un (-A.1) / un c.1,un (-A.1) / un c.2]) (dD (un (-A.2) / un c.1) [un (-A.2) / un c.2,un (-A.1) / un c.1,un (-A.1) / un c.2])=_
 rw [n,n,n,n,tight_neg,e];rfl
theorem cl_neg (q:Int × Int) (h:q.1≤q.2):clB (negB q)=negB (clB q):=by
 unfold clB negB;simp only [Prod.mk.injEq];omega
end Go.Proofs.lab
namespace Go.Proofs.lab
open Go Go.RowKit Go.SW Go.Num Go.Mem Go.Proofs Go.eF Go.Proofs.aL Go.Proofs.matrix Go.Proofs.aN Go.Proofs.aF
theorem Wd.at {A:Int × Int} (h:Wd A) {a:Rat} (h1:un A.1≤a) (h2:a≤un A.2):In A a 129000000000000:=⟨h1,h2,h.lo,h.hi⟩
theorem part_all {A c:Int × Int} (hA:Wd A) (h3:5000000000≤c.1) (hc:c.1≤c.2) (h4:c.2≤1000000000000000) :
  ∃ p,Xp A c=(p,0)∧Xp (negB A) c=(negB p,0)∧∀ a r,un A.1≤a→a≤un A.2→un c.1≤r→r≤un c.2→In p (clQ (a / r)) 1000000000000:=by
 have hc':=zI.2 hc;obtain ⟨q,e,ep,hq⟩:=part_in (hA.at Rat.le_refl (zI.2 hA.le)) Rat.le_refl hc' h3 h4;have en:=div_neg hA.ok hA.neg.ok (Yu zo hc zo) zo hc e;obtain ⟨q2,e2,ep2, -⟩:=part_in (hA.neg.at Rat.le_refl (zI.2 hA.neg.le)) Rat.le_refl hc' h3 h4;have eq2:q2=negB q:=by rw [e2] at en;exact congrArg Prod.fst en
 have hqle:q.1≤q.2:=by
  obtain ⟨q0,e0,h0⟩:=in_divB 26000000000000000 (hA.at Rat.le_refl (zI.2 hA.le)) (Rat.le_refl (a:=un c.1)) hc' (L:=5000000000) zo h3 zo zo zo zo;have:q0=q:=by rw [e] at e0;exact (congrArg Prod.fst e0).symm
  rw [← this];exact h0.le
 refine ⟨clB q,ep,by rw [ep2,eq2,cl_neg q hqle],fun a r a1 a2 r1 r2=>?_⟩;obtain ⟨q',e', -, h'⟩:=part_in (hA.at a1 a2) r1 r2 h3 h4;have:q'=q:=by rw [e] at e';exact (congrArg Prod.fst e').symm
 rw [this] at h';exact h'
theorem mul_all {c p:Int × Int} {M:Int} {u0 v0:Rat} (hM:M≤1000000000000000) (h1:In c u0 M) (h2:In p v0 1000000000000):∃ m,aL.Ai c p=(m,0)∧∀ u v,In c u M→In p v 1000000000000→In m (u*v) M:=by
 obtain ⟨m,e, -⟩:=NH M h1 h2 zo zo zo zo;refine ⟨m,e,fun u v hu hv=>?_⟩;obtain ⟨m',e',h'⟩:=NH M hu hv zo zo zo zo;have:m'=m:=by rw [e] at e';exact (congrArg Prod.fst e').symm
 rw [this] at h';exact h'
theorem un_sq (x y:Int):un x*un x+un y*un y=((x*x+y*y:Int):Rat)*(((1000000000000:Int):Rat)⁻¹*((1000000000000:Int):Rat)⁻¹):=by
 unfold un;rw [Rat.intCast_add,Rat.intCast_mul,Rat.intCast_mul,Rat.div_def,Rat.div_def];generalize (((1000000000000:Int):Rat))⁻¹=E
 grind
theorem sq_le_un {x y h:Int} (k:x*x+y*y≤h*h):un x*un x+un y*un y≤un h*un h:=by
 have e:=un_sq h 0;have z:un 0=0:=by decide+kernel
 rw [z,Rat.zero_mul,Rat.add_zero,Int.mul_zero,Int.add_zero] at e;rw [un_sq,e];exact Rat.mul_le_mul_of_nonneg_right (Rat.intCast_le_intCast.2 k) (by decide+kernel)
theorem un_le_sq {x y h:Int} (k:h*h≤x*x+y*y):un h*un h≤un x*un x+un y*un y:=by
 have e:=un_sq h 0;have z:un 0=0:=by decide+kernel
 rw [z,Rat.zero_mul,Rat.add_zero,Int.mul_zero,Int.add_zero] at e;rw [un_sq,e];exact Rat.mul_le_mul_of_nonneg_right (Rat.intCast_le_intCast.2 k) (by decide+kernel)
theorem cl_sq_le (v:Rat):clQ v*clQ v≤v*v:=by
 unfold clQ;split
 ·rename_i h;have h1:(1:Rat)≤ -v:=by grind
  have h2:=sq_le zd h1
  grind
 ·split
  ·rename_i h;have h2:=sq_le zd (Rat.le_of_lt h)
   grind
  ·exact Rat.le_refl
theorem cl_cases (v:Rat):clQ v*clQ v=1∨clQ v=v:=by
 unfold clQ;split
 ·left;decide+kernel
 ·split
  ·left;decide+kernel
  ·right;rfl
theorem sq_nn (v:Rat):0≤v*v:=by
 rcases Rat.le_total (a:=0) (b:=v) with h|h
 ·exact Rat.mul_nonneg h h
 ·have h1:0≤ -v:=by grind
  have:=Rat.mul_nonneg h1 h1
  grind
theorem ne_pos {u:Rat} (h:0<u):u≠0:=fun e=>by rw [e] at h;exact absurd h Rat.lt_irrefl
theorem quo_sq_le {a b r:Rat} (hr:0<r) (h:a*a+b*b≤r*r):a / r*(a / r)+b / r*(b / r)≤1:=by
 have hn:=ne_pos hr;have i:=Rat.inv_pos.2 hr;have h2:=Rat.mul_le_mul_of_nonneg_right h (Rat.le_of_lt (Rat.mul_pos i i))
 have e:r*r*(r⁻¹*r⁻¹)=1:=by
  have:=Rat.mul_inv_cancel r hn
  grind
 rw [e] at h2;rw [Rat.div_def,Rat.div_def];generalize r⁻¹=s at *
 grind
theorem quo_sq_ge {a b r:Rat} (hr:0<r) (h:r*r≤a*a+b*b):1≤a / r*(a / r)+b / r*(b / r):=by
 have hn:=ne_pos hr;have i:=Rat.inv_pos.2 hr;have h2:=Rat.mul_le_mul_of_nonneg_right h (Rat.le_of_lt (Rat.mul_pos i i))
 have e:r*r*(r⁻¹*r⁻¹)=1:=by
  have:=Rat.mul_inv_cancel r hn
  grind
 rw [e] at h2;rw [Rat.div_def,Rat.div_def];generalize r⁻¹=s at *
 grind
theorem cl_at {u h:Int} (hh:0<h) (hu:u.natAbs≤h):un h*clQ (un u / un h)=un u:=by
 have p:0<un h:=by
  have:un 1≤un h:=zI.2 zo;exact Std.lt_of_lt_of_le (by decide+kernel) this
 have n:=ne_pos p
 have e:un h*(un u / un h)=un u:=by
  rw [Rat.mul_comm,Rat.div_mul_cancel n]
 have a1:un u≤un h:=zI.2 zo;have a2: -un h≤un u:=by rw [← yF];exact zI.2 zo
 have c:clQ (un u / un h)=un u / un h:=by
  have i:=Rat.le_of_lt (Rat.inv_pos.2 p);have b1:=Rat.mul_le_mul_of_nonneg_right a1 i;have b2:=Rat.mul_le_mul_of_nonneg_right a2 i;rw [Rat.mul_inv_cancel _ n] at b1;rw [Rat.neg_mul,Rat.mul_inv_cancel _ n] at b2;unfold clQ;rw [Rat.div_def,if_neg (Rat.not_lt.2 b2),if_neg (Rat.not_lt.2 b1)]
 rw [c,e]
theorem pt0:ptE (0*1000000000000)=((0,0),0):=by decide+kernel
theorem pt1:ptE (1*1000000000000)=((1000000000000,1000000000000),0):=by decide+kernel
theorem beq_at (A:Int × Int):aa5 A (0,0)=decide (A=(0,0)):=by
 obtain ⟨x,y⟩:=A;unfold aa5
 by_cases h1:x=0<;>by_cases h2:y=0<;>simp [h1,h2]
theorem neg_zero (A:Int × Int):negB A=(0,0)↔A=(0,0):=by
 obtain ⟨x,y⟩:=A;unfold negB;simp only [Prod.mk.injEq];omega
theorem sq_int (x:Int):x*x=((x.natAbs^2:Nat):Int):=by
 rw [Nat.pow_two,Int.natCast_mul];have:=Int.natAbs_mul_self (a:=x);rw [← this];rfl
theorem nrm_at {A B:Int × Int} (hA:Wd A) (hB:Wd B):power.ay0 [A,B]=((((nlo [Ph A,Ph B]:Nat):Int),((nhi [Ou A,Ou B]:Nat):Int)),0)∧nlo [Ph A,Ph B]≤nhi [Ou A,Ou B]∧nhi [Ou A,Ou B]≤300000000000000 ∧
  (nlo [Ph A,Ph B]=0∨5000000000≤nlo [Ph A,Ph B])∧Ou A≤nhi [Ou A,Ou B]∧Ou B≤nhi [Ou A,Ou B]:=by
 have a1:Ph A≤Ou A:=by have:=hA.le;unfold Ph Ou;omega
 have b1:Ph B≤Ou B:=by have:=hB.le;unfold Ph Ou;omega
 have a2:Ou A≤129000000000000:=by have:=hA.lo;have:=hA.hi;unfold Ou;omega
 have b2:Ou B≤129000000000000:=by have:=hB.lo;have:=hB.hi;unfold Ou;omega
 have h1:nhi [Ou A,Ou B]≤300000000000000:=by
  have:=nhi_sum [Ou A,Ou B];simp only [List.sum_cons,List.sum_nil] at this;omega
 have h2:nlo [Ou A,Ou B]≤nhi [Ou A,Ou B]:=nlo_le_nhi _
 have h3:nlo [Ph A,Ph B]≤nlo [Ou A,Ou B]:=by
  refine le_nlo (Nat.le_trans (nlo_spec _).1 ?_);simp only [ae7];have:=Nat.pow_le_pow_left a1 2;have:=Nat.pow_le_pow_left b1 2;unfold uF;simp only [List.map_nil,List.sum_nil];omega
 refine ⟨?_,by omega,h1,?_,mem_nhi zi,mem_nhi zi⟩
 ·rw [power.nrmE_at zi zi (by unfold okB;simp only [List.all_cons,List.all_nil,hA.ok,hB.ok,Bool.and_self])];simp only [List.map_cons,List.map_nil]
  have g1:BM [Ph A,Ph B] false=(((nlo [Ph A,Ph B]:Nat):Int),0):=by
   unfold BM;rw [if_pos (Nat.le_trans (show nlo [Ph A,Ph B]≤300000000000000 by omega) zd)];rfl
  have g2:BM [Ou A,Ou B] true=(((nhi [Ou A,Ou B]:Nat):Int),0):=by
   unfold BM;rw [if_pos (Nat.le_trans (show nlo [Ou A,Ou B]≤300000000000000 by omega) zd)];rfl
  rw [g1,g2];unfold power.JK;simp only [ne_eq,not_true_eq_false,if_false];rw [if_pos (Yu zo zo zo)]
 ·rcases hA.far with ha|ha
  ·rcases hB.far with hb|hb
   ·left
    have:=nlo_sum [Ph A,Ph B];simp only [List.sum_cons,List.sum_nil] at this;omega
   ·right;exact Nat.le_trans hb (mem_nlo zi)
  ·right;exact Nat.le_trans ha (mem_nlo zi)
theorem sqs_two (x y:Nat):uF [x,y]=x^2+y^2:=by
 simp only [ae7];unfold uF;simp only [List.map_nil,List.sum_nil];omega
theorem pol_yes {A B c:Int × Int} (hz:¬ (A=(0,0)∧B=(0,0))) (hn:power.ay0 [A,B]=(c,0)) (h0:c.1≠0) {p q:Int × Int} (hp:Xp A c=(p,0)) (hq:Xp B c=(q,0)):Xo A B=((c,p,q),0):=by
 unfold Xo;rw [aI pt0,beq_at,beq_at,← Bool.decide_and,decide_eq_false hz];simp only [cond_false];rw [aI hn,if_neg h0,aI hp,aI hq];rfl
theorem hues {L A B:Int × Int} (hL:dA L.1 L.2=true) (hA:Wd A) (hB:Wd B):aH9 (L,A,B)=(z3,7) ∨
  ((A=(0,0)∧B=(0,0))∧aH9 (L,A,B)=(((0,0),(1000000000000,1000000000000),(0,0)),0)) ∨
  (¬ (A=(0,0)∧B=(0,0))∧∃ c p q x y s m n:Int × Int,aH9 (L,A,B)=((c,p,q),0)∧aH9 (L,negB A,negB B)=((c,negB p,negB q),0)∧(∃ v,In p v 1000000000000)∧(∃ v,In q v 1000000000000)∧sqrE p=(x,0)∧sqrE q=(y,0)∧aL.jH x y=(s,0)∧s.1≤1000000000000∧1000000000000≤s.2 ∧
   aL.Ai c p=(m,0)∧m.1≤A.1∧A.2≤m.2∧aL.Ai c q=(n,0)∧n.1≤B.1∧B.2≤n.2):=by
 have b0:∀ {A B:Int × Int},Wd A→Wd B→qL (L,A,B)=0:=fun hA hB=>by
  unfold qL sM;simp only [hL,hA.ok,hB.ok,if_true,ne_eq,not_true_eq_false,if_false]
 have pe:∀ {A B:Int × Int},Wd A→Wd B→aH9 (L,A,B)=Xo A B:=fun hA hB=>by
  unfold aH9;rw [if_neg (by rw [b0 hA hB];decide)]
 rw [pe hA hB,pe hA.neg hB.neg]
 by_cases hz:A=(0,0)∧B=(0,0)
 ·refine .inr (.inl ⟨hz,?_⟩);unfold Xo;rw [aI pt0,beq_at,beq_at,← Bool.decide_and,decide_eq_true hz];simp only [cond_true];exact aI pt1
 obtain ⟨hn,n1,n2,n3,n4,n5⟩:=nrm_at hA hB
 have hnn:power.ay0 [negB A,negB B]=((((nlo [Ph A,Ph B]:Nat):Int),((nhi [Ou A,Ou B]:Nat):Int)),0):=by
  have:=(nrm_at hA.neg hB.neg).1;rw [(neg_bl A).1,(neg_bl A).2,(neg_bl B).1,(neg_bl B).2] at this;exact this
 have s1:=(nlo_spec [Ph A,Ph B]).1;have s2:=nhi_spec [Ou A,Ou B];rw [sqs_two] at s1 s2;generalize nlo [Ph A,Ph B]=lo at *;generalize nhi [Ou A,Ou B]=hi at *
 rcases n3 with h0|h0
 ·left
  subst h0;unfold Xo;rw [aI pt0,beq_at,beq_at,← Bool.decide_and,decide_eq_false hz];simp only [cond_false];rw [aI hn];rfl
 have cle:((lo:Nat):Int)≤((hi:Nat):Int):=by omega
 obtain ⟨p,ep,epn,hp⟩:=part_all (c:=(((lo:Nat):Int),((hi:Nat):Int))) hA (by simp only;omega) cle (by simp only;omega);obtain ⟨q,eq,eqn,hq⟩:=part_all (c:=(((lo:Nat):Int),((hi:Nat):Int))) hB (by simp only;omega) cle (by simp only;omega);simp only at hp hq;have clu:=zI.2 cle;have al:=zI.2 hA.le;have bl:=zI.2 hB.le
 have pos:∀ z:Int,0<z→0<un z:=fun z hz=>by
  have:un 1≤un z:=zI.2 zo;exact Std.lt_of_lt_of_le (by decide+kernel) this
 have p1:=hp _ _ Rat.le_refl al clu Rat.le_refl;have p2:=hp _ _ Rat.le_refl al Rat.le_refl clu;have p3:=hp _ _ al Rat.le_refl clu Rat.le_refl;have q1:=hq _ _ Rat.le_refl bl clu Rat.le_refl;have q2:=hq _ _ Rat.le_refl bl Rat.le_refl clu;have q3:=hq _ _ bl Rat.le_refl clu Rat.le_refl;obtain ⟨x,ex,hx⟩:=sqr_in p1;obtain ⟨y,ey,hy⟩:=sqr_in q1;obtain ⟨x',ex',hx'⟩:=sqr_in p2;obtain ⟨y',ey',hy'⟩:=sqr_in q2;have xx:x'=x:=by rw [ex] at ex';exact (congrArg Prod.fst ex').symm
 have yy:y'=y:=by rw [ey] at ey';exact (congrArg Prod.fst ey').symm
 rw [xx] at hx';rw [yy] at hy';obtain ⟨es,hs⟩:=ak0 hx hy zo zo zo;obtain ⟨-, hs'⟩:=ak0 hx' hy' zo zo zo;have ic:In (((lo:Nat):Int),((hi:Nat):Int)) (un ((hi:Nat):Int)) 1000000000000000:=⟨clu,Rat.le_refl,by simp only;omega,by simp only;omega⟩;obtain ⟨m,em,hm⟩:=mul_all zo ic p1;obtain ⟨n,en,hn2⟩:=mul_all zo ic q1
 have ab:∀ {b:Int × Int},Wd b→Ou b≤hi→b.1.natAbs≤((hi:Nat):Int)∧b.2.natAbs≤((hi:Nat):Int):=fun {b} hb h=>by
  have:=hb.le;unfold Ou at h;omega
 have k1:=(hm _ _ ic p1).1;have k2:=(hm _ _ ic p3).2.1;have l1:=(hn2 _ _ ic q1).1;have l2:=(hn2 _ _ ic q3).2.1;rw [cl_at zo (ab hA n4).1] at k1;rw [cl_at zo (ab hA n4).2] at k2;rw [cl_at zo (ab hB n5).1] at l1;rw [cl_at zo (ab hB n5).2] at l2;refine .inr (.inr ⟨hz,_,p,q,x,y,_,m,n,pol_yes hz hn (by simp only;omega) ep eq,pol_yes (fun h=>hz ⟨(neg_zero A).1 h.1,(neg_zero B).1 h.2⟩) hnn (by simp only;omega) epn eqn,⟨_,p1⟩,⟨_,q1⟩,ex,ey,es,?_,?_,em,zI.1 k1,zI.1 k2,en,zI.1 l1,zI.1 l2⟩)
 ·have t1:A.1*A.1+B.1*B.1≤((hi:Nat):Int)*((hi:Nat):Int):=by
   have u1:A.1.natAbs≤Ou A:=by have:=hA.le;unfold Ou;omega
   have u2:B.1.natAbs≤Ou B:=by have:=hB.le;unfold Ou;omega
   have u3:=Nat.pow_le_pow_left u1 2;have u4:=Nat.pow_le_pow_left u2 2;rw [sq_int A.1,sq_int B.1,sq_int ((hi:Nat):Int)];have:((hi:Nat):Int).natAbs=hi:=by omega
   rw [this];omega
  have t2:=quo_sq_le (pos _ zo) (sq_le_un t1);have t3:=Rat.le_trans (Rat.le_trans hs.1 (Rat.le_trans (Rat.add_le_add_left.2 (cl_sq_le _)) (Rat.add_le_add_right.2 (cl_sq_le _)))) t2;rw [← un_E1] at t3;exact zI.1 t3
 ·have t1:((lo:Nat):Int)*((lo:Nat):Int)≤A.1*A.1+B.1*B.1:=by
   have u1:Ph A≤A.1.natAbs:=by have:=hA.le;unfold Ph;omega
   have u2:Ph B≤B.1.natAbs:=by have:=hB.le;unfold Ph;omega
   have u3:=Nat.pow_le_pow_left u1 2;have u4:=Nat.pow_le_pow_left u2 2;rw [sq_int A.1,sq_int B.1,sq_int ((lo:Nat):Int)];have:((lo:Nat):Int).natAbs=lo:=by omega
   rw [this];omega
  have t2:=quo_sq_ge (pos _ zo) (un_le_sq t1)
  have t3:1≤clQ (un A.1 / un ((lo:Nat):Int))*clQ (un A.1 / un ((lo:Nat):Int))+clQ (un B.1 / un ((lo:Nat):Int))*clQ (un B.1 / un ((lo:Nat):Int)):=by
   have z1:=sq_nn (clQ (un A.1 / un ((lo:Nat):Int)));have z2:=sq_nn (clQ (un B.1 / un ((lo:Nat):Int)))
   rcases cl_cases (un A.1 / un ((lo:Nat):Int)) with h|h
   ·rw [h];grind
   ·rcases cl_cases (un B.1 / un ((lo:Nat):Int)) with g|g
    ·rw [g];grind
    ·rw [h,g];exact t2
  have t4:=Rat.le_trans t3 hs'.2.1;rw [← un_E1] at t4;exact zI.1 t4
end Go.Proofs.lab
namespace Go.Proofs.bH
open Go Go.RowKit Go.SW Go.Num Go.Mem Go.Proofs Go.eF Go.Fx
def Ap (n:Int):Rat:=(n:Rat) / ((100:Int):Rat)
theorem NK {n:Int} (h:n.natAbs≤12800):Hq 5 (Ap n):=⟨n,100,by omega,by decide,Nat.le_trans h zd,rfl⟩
theorem Ux {n:Int} (h:n.natAbs≤12800) (w:World):Calls Tryz.prog 40 #[.int .i64 n,.int .i64 100] w (fun e w'=>e= .returned (.agg #[.string (Fr.of (Ap n)).n,.string (Fr.of (Ap n)).d])∧Below w.heap.size w w'):=by
 have h1:=aO.nu n 100 zo zo zo zo w
 have e:(kN n 100).1=Fr.of (Ap n):=by
  unfold kN wr;rw [if_neg zo];have hk:rz ((n:Rat) / ((100:Int):Rat))=true:=(NK h).ok zo;rw [if_pos hk];rfl
 rw [e] at h1;exact h1
theorem LabTri_at (L A B:Int) (hL:0≤L∧L≤65535) (hA: -32768≤A∧A≤32767) (hB: -32768≤B∧B≤32767) (w:World) :
  Calls Tryz.prog 24 #[.agg #[.int .u16 L,.int .i16 A,.int .i16 B]] w (fun e w'=>e= .returned (.agg #[.string (Fr.of (Ap (Int.tmod L 10001))).n,.string (Fr.of (Ap (Int.tmod L 10001))).d,.string (Fr.of (Ap (Int.tmod A 12801))).n,.string (Fr.of (Ap (Int.tmod A 12801))).d,.string (Fr.of (Ap (Int.tmod B 12801))).n,.string (Fr.of (Ap (Int.tmod B 12801))).d])∧Below w.heap.size w w'):=by
 have l1:=Int.tmod_lt_of_pos L (show 0<10001 by omega);have l2:=Int.tmod_nonneg (10001:Int) hL.1;have m1:=Int.tmod_lt_of_pos A (show 0<12801 by omega);have m2:=Int.lt_tmod_of_pos A (show 0<12801 by omega);have n1:=Int.tmod_lt_of_pos B (show 0<12801 by omega);have n2:=Int.lt_tmod_of_pos B (show 0<12801 by omega);have C1:=fun W=>Ux (n:=Int.tmod L 10001) zo W;have C2:=fun W=>Ux (n:=Int.tmod A 12801) zo W;have C3:=fun W=>Ux (n:=Int.tmod B 12801) zo W;generalize Fr.of (Ap (Int.tmod L 10001))=x at *;generalize Fr.of (Ap (Int.tmod A 12801))=y at *;generalize Fr.of (Ap (Int.tmod B 12801))=z at *;obtain ⟨x1,x2⟩:=x;obtain ⟨y1,y2⟩:=y;obtain ⟨z1,z2⟩:=z;obtain ⟨L1,L2⟩:=hL;obtain ⟨A1,A2⟩:=hA;obtain ⟨B1,B2⟩:=hB;simp only at *;refine Fx.door Tryz.func24 rfl (.nil w []) ?_;refine Fx.new [] 1 #[.int .u16 L,.int .i16 A,.int .i16 B] 60 [] [] fun fF=>?_
 refine Fx.aP [] 2 34 [] [] fun dZ=>?_;refine Fx.draw [] [0,1,2,3,5,6,7,8,10,11,12,13,4,9,14,15,16] [] [] [] ?_;refine Fx.part 3 [3] [(5,.int .i64 (IntKind.i64.wrap L))] [] ?_;refine Fx.av3 (.int .i64 (L)) (Fx.wrap_i64 zo zo) ?_;refine Fx.part 4 [3] [(10,.int .i64 (IntKind.i64.wrap A)),(6,.int .i64 (Int.tmod (L) 10001))] [] ?_;refine Fx.av3 (.int .i64 (A)) (Fx.wrap_i64 zo zo) ?_;refine Fx.part 4 [3] [(15,.int .i64 (IntKind.i64.wrap B)),(11,.int .i64 (Int.tmod (A) 12801))] [] ?_;refine Fx.av3 (.int .i64 (B)) (Fx.wrap_i64 zo zo) ?_;refine Fx.aV [] 7 [(16,.int .i64 (Int.tmod (B) 12801))] [] C1 ?_;refine Fx.aV [] 12 [] [] C2 ?_;refine Fx.aV [] 17 [] [] C3 ?_;exact Fx.iq 1 dZ [4] [(1,#[.string x1,.string x2,.string y1,.string y2,.string z1,.string z2])] (fun W M=>⟨rfl,M.below⟩)
end Go.Proofs.bH
namespace Go.Proofs.aF
open Go Go.RowKit Go.SW Go.Num Go.Mem Go.Proofs Go.Dec Go.Proofs.aD Go.eF
theorem Bj {s:ByteArray} {b:Bool} (h:(whole s.data.toList).isSome=b) (hs:s.size≤4611686018427387904) (W:World) :
  Calls Tryz.prog 205 #[.string s] W (fun e w'=>e= .returned (.bool b)∧Below W.heap.size W w') :=
 (aD.qO s W hs).mono fun _ _ h'=>⟨h ▸ h'.1,h'.2 ▸ Below.refl _ _⟩
def Fits (a:Fr):Prop:=a.n.size≤4611686018427387904∧a.d.size≤4611686018427387904
theorem Zl {s t:ByteArray} (h:whole s.data.toList=none):rd ⟨s,t⟩=none:=by unfold rd;simp only [h]
theorem Zm {s t:ByteArray} (h:whole t.data.toList=none):rd ⟨s,t⟩=none:=by
 unfold rd;simp only [h];cases whole s.data.toList<;>rfl
theorem aH8 {s t:ByteArray} {n d:Int} (h1:whole s.data.toList=some n) (h2:whole t.data.toList=some d):(rd ⟨s,t⟩).isSome=(decide (0<d)&&(Nat.gcd n.natAbs d.natAbs == 1)):=by
 unfold rd;simp only [h1,h2]
 by_cases h:0<d∧n.natAbs.Coprime d.natAbs
 ·rw [dif_pos h];rw [decide_eq_true h.1,show Nat.gcd n.natAbs d.natAbs=1 from h.2];rfl
 ·rw [dif_neg h];refine (Bool.eq_false_iff.2 fun e=>h ?_).symm;rw [Bool.and_eq_true,decide_eq_true_iff,beq_iff_eq] at e;exact e
theorem FY {bs:List UInt8} {z:Int} (h:whole bs=some z):sz 10000 z.natAbs≤201:=by
 have h1:=jP (dQ.2 (nK h).2);have:=Gl h1;omega
theorem Ql:(Lib.itoa ((1:Nat):Int)).toArray=#[49]:=by decide+kernel
theorem toList_inj {a b:ByteArray} (h:a.toList=b.toList):a=b:=by
 rw [ByteArray.toList_eq,ByteArray.toList_eq] at h;exact Jo h
theorem ay1 {g:Nat} (h:g≠1):((⟨(Lib.itoa (g:Int)).toArray⟩:ByteArray) == ⟨#[49]⟩)=false:=by
 rw [beq_toListBytes,beq_eq_false_iff_ne];intro e;have e:=toList_inj e;simp only [ByteArray.mk.injEq] at e;rw [← Ql] at e;have:=Al (List.toArray_inj e);omega
theorem aK8:((⟨(Lib.itoa ((1:Nat):Int)).toArray⟩:ByteArray) == ⟨#[49]⟩)=true:=by rw [Ql,beq_toListBytes];exact beq_self_eq_true _
theorem qO (s t:ByteArray) (w:World) (h1:s.size≤4611686018427387904) (h2:t.size≤4611686018427387904) :
  Calls Tryz.prog 132 #[.agg #[.string s,.string t]] w (fun e w'=>e= .returned (.bool (rd ⟨s,t⟩).isSome)∧Below w.heap.size w w'):=by
 cases e1:whole s.data.toList with
 | none =>
  rw [Zl e1];have R1:=zh (fun W=>Bj (b:=false) (by rw [e1];rfl) h1 W);clear e1 h1 h2;go_enter Tryz.func132,Tryz.ntmps132
  go_wp2_with fail
  refine (R1.out _).mono ?_;rintro e w1 ⟨rfl,hb⟩;go_wp2_with fail
  go_ret
  exact ⟨rfl,Bt au hb⟩
 | some n =>
  have R1:=zh (fun W=>Bj (b:=true) (by rw [e1];rfl) h1 W);cases e2:whole t.data.toList with
  | none =>
   rw [Zm e2];have R2:=zh (fun W=>Bj (b:=false) (by rw [e2];rfl) h2 W);have h0:Below w.heap.size w (w.alloc (.cells #[.string s,.string t] 32)):=au;have hx:=ah.new w #[.string s,.string t] 32;clear e1 h1 h2 e2;go_enter Tryz.func132,Tryz.ntmps132
   go_wp2_with fail
   refine (R1.out _).mono ?_;rintro e w1 ⟨rfl,hb⟩;have cx:=(hx.later hb).cell;have lx:=(hx.later hb).lt;go_wp2_with fail
   refine (R2.out _).mono ?_;rintro e w2 ⟨rfl,hb2⟩;go_wp2_with fail
   go_ret
   exact ⟨rfl,Bt (Bt h0 hb) hb2⟩
  | some d =>
   have R2:=zh (fun W=>Bj (b:=true) (by rw [e2];rfl) h2 W);rw [aH8 e1 e2];have I1:=zh (fun W=>aD.Mi s n W e1);have I2:=zh (fun W=>aD.Mi t d W e2);have K1:=zh (Nat.le_trans (FY e1) (show 201≤274877906944 by omega));have K2:=zh (Nat.le_trans (FY e2) (show 201≤274877906944 by omega))
   have hg:0<d→sz 10000 ((Nat.gcd n.natAbs d.natAbs:Nat):Int).natAbs≤1073741824:=fun h=>by
    rw [Int.natAbs_natCast];have h3:=dB (B:=10000) zo (Nat.le_of_dvd (by omega:0<d.natAbs) (Nat.gcd_dvd_right n.natAbs d.natAbs));have h4:=FY e2;omega
   have DV:=zh (fun x y W hx hy=>zA x y n d W hx hy K1.out K2.out);generalize Nat.gcd n.natAbs d.natAbs=g at *
   rcases Int.lt_trichotomy d 0 with hd|hd|hd
   ·have HD:=zh hd;rw [decide_eq_false (show ¬ 0<d by omega),Bool.false_and];clear e1 e2 h1 h2 hg hd;go_enter Tryz.func132,Tryz.ntmps132
    go_wp2_with fail
    obtain ⟨dN,EW,hz,X1⟩:=rG w #[.string s,.string t] 32;rw [EW];have hk2:=Bt (Below.refl _ _) hz;clear EW hz;refine (R1.out _).mono ?_;rintro e ko ⟨rfl,hb3⟩;replace X1:=X1.bl hb3;have hk5:=Bt hk2 hb3;clear hk2;clear hb3;obtain ⟨gJ,gI,gN⟩:=X1.clf;go_wp2_with fail
    clear gJ gI gN;refine (R2.out _).mono ?_;rintro e yg ⟨rfl,hb6⟩;replace X1:=X1.bl hb6;have Oa:=Bt hk5 hb6;clear hk5;clear hb6;go_wp2_with fail
    obtain ⟨gJ,gI,gN⟩:=X1.clf;refine aC [(.pure,0),(.read,1),(.pure,3),(.read,4),(.ext,2),(.ext,5),(.alloc #[.bool false,.slice none 0 0] 161,6),(.alloc #[.bool false,.slice none 0 0] 161,7),(.fin,8),(.fin,9)] zk zk zR zP ?_;refine zV ?_;refine aH rfl rfl (fun vI qW J hJ=>?_);go_simp;have iM:Below yg.heap.size yg vI:=au;clear qW;refine (I1.out _).mono ?_;rintro e gV ⟨v,rfl,eX,mM⟩;obtain ⟨bA,jI,lA,jW,rfl⟩:=mM.agg;refine hJ _ _ eX ?_;clear hJ J;have jw:=Bt iM eX;clear iM eX mM;refine zV ?_;refine aH rfl rfl (fun YR Ce J hJ=>?_);go_simp;have hh12:Below yg.heap.size yg YR:=Bt jw au;clear Ce jw;refine (I2.out _).mono ?_;rintro e MF ⟨v,rfl,rC,hv⟩;obtain ⟨bB,oU,lB,pz,rfl⟩:=hv.agg;have hb1:bB=true:=hv.nm.2.trans (decide_eq_true HD.out);subst hb1;refine hJ _ _ rC ?_;clear hJ J;have Ir:=Bt hh12 rC
    clear hh12 rC hv;refine zV ?_;refine dw rfl (fun vM aW8 QH jS Au IG iZ=>?_);go_simp;replace iZ:ah _ _ _ _:=iZ;have IC:w.heap.size≤vM:=(by first|omega|exact Nat.le_trans (Below.size (B:=w.heap.size) au) jS);refine dw rfl (fun uh aW7 Dh jR Ar wK mK=>?_);go_simp;replace mK:ah _ _ _ _:=mK;have Iz:w.heap.size≤uh:=(by first|omega|exact Nat.le_trans (Below.size (B:=w.heap.size) au) jR);replace iZ:=ah.later iZ Dh;have hne:vM≠uh:=fun h=>wK (by simp [h]);have hne2:uh≠vM:=fun h=>hne h.symm;refine aQ [_,_] rfl (fun JA Iu=>?_);have Iq:Below yg.heap.size yg JA:=Bt Ir au;have hq0:=iZ.later Iu;have cq0:=hq0.cell;have fq0:=hq0.free;have hq1:=mK.later Iu;have cq1:=hq1.cell;have fq1:=hq1.free;clear iZ mK Iu Ir;clear gJ gI gN
    go_wp2_with fail
    obtain ⟨Mw,EW⟩:∃ y,((((JA.setCell ⟨vM,0,none⟩ (.bool bA)).setCell ⟨vM,1,none⟩ (.slice jI lA jW)).setCell ⟨uh,0,none⟩ (.bool true)).setCell ⟨uh,1,none⟩ (.slice oU lB pz))=y:=⟨_,rfl⟩;have hz:Below yg.heap.size yg Mw:=by rw [← EW];exact ((((Iq.setCell jS _).setCell jS _).setCell jR _).setCell jR _)
    have X3:Hid (ah Mw uh #[.bool true,.slice oU lB pz] 161):=zh (by rw [← EW];exact ((((hq1.setOther _ (by first|exact hne|exact hne2)).setOther _ (by first|exact hne|exact hne2)).set 0 _).set 1 _));rw [EW];clear EW hq0 cq0 fq0 hq1 cq1 fq1 Iq;replace X1:=X1.bl hz;have Ob:=Bt Oa hz;clear Oa;clear hz;clear QH IG wK IC Iz Dh;have ak7:=jS;have ak6:=jR;clear jS jR Au Ar;go_wp2_with fail
    go_ret
    exact ⟨rfl,Ob⟩
   ·have HD:=zh hd;rw [decide_eq_false (show ¬ 0<d by omega),Bool.false_and];clear e1 e2 h1 h2 hg hd;go_enter Tryz.func132,Tryz.ntmps132
    go_wp2_with fail
    obtain ⟨dN,EW,hz,X1⟩:=rG w #[.string s,.string t] 32;rw [EW];have hk2:=Bt (Below.refl _ _) hz;clear EW hz;refine (R1.out _).mono ?_;rintro e ko ⟨rfl,hb3⟩;replace X1:=X1.bl hb3;have hk5:=Bt hk2 hb3;clear hk2;clear hb3;obtain ⟨gJ,gI,gN⟩:=X1.clf;go_wp2_with fail
    clear gJ gI gN;refine (R2.out _).mono ?_;rintro e yg ⟨rfl,hb6⟩;replace X1:=X1.bl hb6;have Oa:=Bt hk5 hb6;clear hk5;clear hb6;go_wp2_with fail
    obtain ⟨gJ,gI,gN⟩:=X1.clf;refine aC [(.pure,0),(.read,1),(.pure,3),(.read,4),(.ext,2),(.ext,5),(.alloc #[.bool false,.slice none 0 0] 161,6),(.alloc #[.bool false,.slice none 0 0] 161,7),(.fin,8),(.fin,9)] zk zk zR zP ?_;refine zV ?_;refine aH rfl rfl (fun vI qW J hJ=>?_);go_simp;have iM:Below yg.heap.size yg vI:=au;clear qW;refine (I1.out _).mono ?_;rintro e gV ⟨v,rfl,eX,mM⟩;obtain ⟨bA,jI,lA,jW,rfl⟩:=mM.agg;refine hJ _ _ eX ?_;clear hJ J;have jw:=Bt iM eX;clear iM eX mM;refine zV ?_;refine aH rfl rfl (fun YR Ce J hJ=>?_);go_simp;have hh12:Below yg.heap.size yg YR:=Bt jw au;clear Ce jw;refine (I2.out _).mono ?_;rintro e MF ⟨v,rfl,rC,hv⟩;obtain ⟨bB,oU,lB,pz,rfl⟩:=hv.agg;have hb1:bB=false:=hv.nm.2.trans (decide_eq_false (by have:=HD.out;omega));subst hb1;have hl0:lB=0:=hv.nm.1.aK4 (by have:=HD.out;omega)
    subst hl0;refine hJ _ _ rC ?_;clear hJ J;have Ir:=Bt hh12 rC;clear hh12 rC hv;refine zV ?_;refine dw rfl (fun vM aW8 QH jS Au IG iZ=>?_);go_simp;replace iZ:ah _ _ _ _:=iZ;have IC:w.heap.size≤vM:=(by first|omega|exact Nat.le_trans (Below.size (B:=w.heap.size) au) jS);refine dw rfl (fun uh aW7 Dh jR Ar wK mK=>?_);go_simp;replace mK:ah _ _ _ _:=mK;have Iz:w.heap.size≤uh:=(by first|omega|exact Nat.le_trans (Below.size (B:=w.heap.size) au) jR);replace iZ:=ah.later iZ Dh;have hne:vM≠uh:=fun h=>wK (by simp [h]);have hne2:uh≠vM:=fun h=>hne h.symm;refine aQ [_,_] rfl (fun JA Iu=>?_);have Iq:Below yg.heap.size yg JA:=Bt Ir au;have hq0:=iZ.later Iu;have cq0:=hq0.cell;have fq0:=hq0.free
    have hq1:=mK.later Iu;have cq1:=hq1.cell;have fq1:=hq1.free;clear iZ mK Iu Ir;clear gJ gI gN;go_wp2_with fail
    obtain ⟨Mw,EW⟩:∃ y,((((JA.setCell ⟨vM,0,none⟩ (.bool bA)).setCell ⟨vM,1,none⟩ (.slice jI lA jW)).setCell ⟨uh,0,none⟩ (.bool false)).setCell ⟨uh,1,none⟩ (.slice oU 0 pz))=y:=⟨_,rfl⟩;have hz:Below yg.heap.size yg Mw:=by rw [← EW];exact ((((Iq.setCell jS _).setCell jS _).setCell jR _).setCell jR _)
    have X3:Hid (ah Mw uh #[.bool false,.slice oU 0 pz] 161):=zh (by rw [← EW];exact ((((hq1.setOther _ (by first|exact hne|exact hne2)).setOther _ (by first|exact hne|exact hne2)).set 0 _).set 1 _));rw [EW];clear EW hq0 cq0 fq0 hq1 cq1 fq1 Iq;replace X1:=X1.bl hz;have Ob:=Bt Oa hz;clear Oa;clear hz;clear QH IG wK IC Iz Dh;have ak7:=jS;have ak6:=jR;clear jS jR Au Ar;go_wp2_with fail
    go_ret
    exact ⟨rfl,Ob⟩
   ·have HD:=zh hd;have HG:=zh (hg hd);have TX:=zh (fun x W hx=>YB x (g:Int) W hx HG.out);obtain ⟨b,hb⟩:∃ b,(decide (0<d)&&(g == 1))=b:=⟨_,rfl⟩
    have hT:((⟨(Lib.itoa (g:Int)).toArray⟩:ByteArray) == ⟨#[49]⟩)=b:=by
     rw [← hb,decide_eq_true hd,Bool.true_and]
     by_cases h:g=1
     ·rw [h];exact aK8
     ·rw [ay1 h];exact (beq_eq_false_iff_ne.2 h).symm
    rw [hb];rw [beq_toListBytes,ByteArray.toList_eq (⟨#[49]⟩:ByteArray)] at hT;replace hT:((⟨(Lib.itoa (g:Int)).toArray⟩:ByteArray).toList == [49])=b:=hT;generalize (⟨(Lib.itoa (g:Int)).toArray⟩:ByteArray)=T at *;clear e1 e2 h1 h2 hg hd hb;go_enter Tryz.func132,Tryz.ntmps132
    go_wp2_with fail
    obtain ⟨dN,EW,hz,X1⟩:=rG w #[.string s,.string t] 32;rw [EW];have hk2:=Bt (Below.refl _ _) hz;clear EW hz;refine (R1.out _).mono ?_;rintro e ko ⟨rfl,hb3⟩;replace X1:=X1.bl hb3;have hk5:=Bt hk2 hb3;clear hk2;clear hb3;obtain ⟨gJ,gI,gN⟩:=X1.clf;go_wp2_with fail
    clear gJ gI gN;refine (R2.out _).mono ?_;rintro e yg ⟨rfl,hb6⟩;replace X1:=X1.bl hb6;have Oa:=Bt hk5 hb6;clear hk5;clear hb6;go_wp2_with fail
    obtain ⟨gJ,gI,gN⟩:=X1.clf;refine aC [(.pure,0),(.read,1),(.pure,3),(.read,4),(.ext,2),(.ext,5),(.alloc #[.bool false,.slice none 0 0] 161,6),(.alloc #[.bool false,.slice none 0 0] 161,7),(.fin,8),(.fin,9)] zk zk zR zP ?_;refine zV ?_;refine aH rfl rfl (fun vI qW J hJ=>?_);go_simp;have iM:Below yg.heap.size yg vI:=au;clear qW;refine (I1.out _).mono ?_;rintro e gV ⟨v,rfl,eX,mM⟩;obtain ⟨bA,jI,lA,jW,rfl⟩:=mM.agg;refine hJ _ _ eX ?_;clear hJ J;have jw:=Bt iM eX;have NA:=zh mM;clear iM eX mM;refine zV ?_;refine aH rfl rfl (fun YR Ce J hJ=>?_);go_simp;have hh12:Below yg.heap.size yg YR:=Bt jw au;replace NA:=zh (NA.out.later (show Below gV.heap.size gV YR from au));clear Ce jw;refine (I2.out _).mono ?_;rintro e MF ⟨v,rfl,rC,hv⟩;obtain ⟨bB,oU,lB,pz,rfl⟩:=hv.agg
    have hb1:bB=false:=hv.nm.2.trans (decide_eq_false (by have:=HD.out;omega));subst hb1;have hl0:0<lB:=hv.nm.1.aK3 (by have:=HD.out;omega);refine hJ _ _ rC ?_;clear hJ J;have Ir:=Bt hh12 rC;replace NA:=zh (NA.out.later rC);have NB:=zh hv;clear hh12 rC hv;refine zV ?_;refine dw rfl (fun vM aW8 QH jS Au IG iZ=>?_);go_simp;replace iZ:ah _ _ _ _:=iZ;have IC:w.heap.size≤vM:=(by first|omega|exact Nat.le_trans (Below.size (B:=w.heap.size) au) jS);refine dw rfl (fun uh aW7 Dh jR Ar wK mK=>?_);go_simp;replace mK:ah _ _ _ _:=mK;have Iz:w.heap.size≤uh:=(by first|omega|exact Nat.le_trans (Below.size (B:=w.heap.size) au) jR);replace iZ:=ah.later iZ Dh;have hne:vM≠uh:=fun h=>wK (by simp [h]);have hne2:uh≠vM:=fun h=>hne h.symm
    refine aQ [_,_] rfl (fun JA Iu=>?_);replace NA:=zh (NA.out.later (show Below MF.heap.size MF JA from au));replace NB:=zh (NB.out.later (show Below MF.heap.size MF JA from au));have Iq:Below yg.heap.size yg JA:=Bt Ir au;have hq0:=iZ.later Iu;have cq0:=hq0.cell;have fq0:=hq0.free;have hq1:=mK.later Iu;have cq1:=hq1.cell;have fq1:=hq1.free;clear iZ mK Iu Ir;clear gJ gI gN;go_wp2_with fail
    obtain ⟨Mw,EW⟩:∃ y,((((JA.setCell ⟨vM,0,none⟩ (.bool bA)).setCell ⟨vM,1,none⟩ (.slice jI lA jW)).setCell ⟨uh,0,none⟩ (.bool false)).setCell ⟨uh,1,none⟩ (.slice oU lB pz))=y:=⟨_,rfl⟩;have hz:Below yg.heap.size yg Mw:=by rw [← EW];exact ((((Iq.setCell jS _).setCell jS _).setCell jR _).setCell jR _)
    have X2:Hid (ah Mw vM #[.bool bA,.slice jI lA jW] 161):=zh (by rw [← EW];exact ((((hq0.set 0 _).set 1 _).setOther _ (by first|exact hne|exact hne2)).setOther _ (by first|exact hne|exact hne2)));have X3:Hid (ah Mw uh #[.bool false,.slice oU lB pz] 161):=zh (by rw [← EW];exact ((((hq1.setOther _ (by first|exact hne|exact hne2)).setOther _ (by first|exact hne|exact hne2)).set 0 _).set 1 _));have t:=((((NA.out.setOther hq0 zd 0 (.bool bA)).setOther (hq0.set 0 _) zd 1 (.slice jI lA jW)).setOther ((hq1.setOther _ (by first|exact hne|exact hne2)).setOther _ (by first|exact hne|exact hne2)) zd 0 (.bool false)).setOther (((hq1.setOther _ (by first|exact hne|exact hne2)).setOther _ (by first|exact hne|exact hne2)).set 0 _) zd 1 (.slice oU lB pz));rw [EW] at t;replace NA:=zh t;clear t
    have t:=((((NB.out.setOther hq0 zd 0 (.bool bA)).setOther (hq0.set 0 _) zd 1 (.slice jI lA jW)).setOther ((hq1.setOther _ (by first|exact hne|exact hne2)).setOther _ (by first|exact hne|exact hne2)) zd 0 (.bool false)).setOther (((hq1.setOther _ (by first|exact hne|exact hne2)).setOther _ (by first|exact hne|exact hne2)).set 0 _) zd 1 (.slice oU lB pz));rw [EW] at t;replace NB:=zh t;clear t;rw [EW];clear EW hq0 cq0 fq0 hq1 cq1 fq1 Iq;replace X1:=X1.bl hz;have Ob:=Bt Oa hz;clear Oa;clear hz;clear QH IG wK IC Iz Dh;have ak7:=jS;have ak6:=jR;clear jS jR Au Ar;go_wp2_with fail
    refine (DV.out _ _ _ NA.out NB.out).mono ?_;rintro e ad1 ⟨v,rfl,Iy,UY⟩;obtain ⟨bC,JJ,lC,Kh,rfl⟩:=UY.agg;clear X1;replace X2:=X2.bl Iy;replace X3:=X3.bl Iy;replace NA:=zh (NA.out.later Iy);replace NB:=zh (NB.out.later Iy);have ba1:=Bt Ob Iy;clear Ob;have NC:=zh UY;clear Iy UY;go_wp2_with fail
    refine (TX.out _ _ NC.out).mono ?_;rintro e bv2 ⟨rfl,Iw⟩;replace X2:=X2.bl Iw;replace X3:=X3.bl Iw;replace NA:=zh (NA.out.later Iw);replace NB:=zh (NB.out.later Iw);replace NC:=zh (NC.out.later Iw);have bl8:=Bt ba1 Iw;clear ba1;clear Iw;go_wp2_with fail
    go_ret
    exact ⟨rfl,bl8⟩
theorem iB {a:Fr} {b:Bool} (h:(rd a).isSome=b) (hf:Fits a) (W:World):Calls Tryz.prog 132 #[a.v] W (fun e w'=>e= .returned (.bool b)∧Below W.heap.size W w') :=
 h ▸ qO a.n a.d W hf.1 hf.2
theorem ag0 {s t:ByteArray} {q:Rat} (h:rd ⟨s,t⟩=some q):whole s.data.toList=some q.num∧whole t.data.toList=some (q.den:Int):=by
 unfold rd at h;split at h
 ·rename_i n d e1 e2;split at h
  ·rename_i hk;simp only [Option.some.injEq] at h;subst h;refine ⟨e1,e2.trans ?_⟩
   congr 1
   have:=hk.1
   show d=((d.natAbs:Nat):Int)
   omega
  ·cases h
 ·cases h
theorem Mi (s t:ByteArray) (q:Rat) (w:World) (h:rd ⟨s,t⟩=some q):Calls Tryz.prog 135 #[.agg #[.string s,.string t]] w (kE w q):=by
 obtain ⟨e1,e2⟩:=ag0 h;have I1:=fun W=>(aD.Mi s q.num W e1).mono fun _ _ q=>plAg q;have I2:=fun W=>(aD.Mi t (q.den:Int) W e2).mono fun _ _ q=>plAg q;refine Fx.door Tryz.func135 rfl (.nil w []) ?_;have B0:=Fx.Bas.nil w;refine Fx.new [] 1 #[.string s,.string t] 32 [] [] fun fF=>?_;refine Fx.aP [] 2 163 [] [] fun dZ=>?_;refine Fx.draw [] [0,1,3,4,2,5,6,7] [] [] [] ?_;refine Fx.callK [3,3] 5 [(7,.string t)] [] (fun W M=>I1 _) ?_;rintro W w3 e M ⟨b1,p1,l1,c1,rfl,D3,Q1⟩;refine ⟨D3,fun M3=>?_⟩;have B3:=B0.next M3
 refine Fx.callK [] 8 [] [] (fun W M=>I2 _) ?_;rintro W w4 e M ⟨b2,p2,l2,c2,rfl,D4,Q2⟩;refine ⟨D4,fun M4=>?_⟩;replace Q1:=Q1.keep (M3.keep M4);have B4:=B3.next M4
 exact Fx.iq (cs:=#[.bool b1,.slice p1 l1 c1,.bool b2,.slice p2 l2 c2]) 1 dZ [4] [(1,#[.bool b1,.slice p1 l1 c1,.bool b2,.slice p2 l2 c2])] (fun W M=>by have HB:=(B4.at M);exact ⟨_,rfl,HB,_,_,_,_,_,_,_,_,rfl,(Q1.keep (M4.keep M)),(Q2.keep (M4.keep M))⟩)
end Go.Proofs.aF
namespace Go.Proofs.aF
open Go Go.RowKit Go.SW Go.Num Go.Mem Go.Proofs Go.Dec Go.Proofs.aD Go.eF Go.Fx
theorem nN {a:Fr} {q:Rat} (h:rd a=some q):iA 67 q:=iT (kJ h).2
theorem vH {a:Fr} {q:Rat} (h:rd a=some q) (W:World):Calls Tryz.prog 135 #[a.v] W (kE W q):=Mi a.n a.d q W h
--iff aF.Sub
--iff aF.Mul
end Go.Proofs.aF
namespace Go.Proofs.aN
open Go Go.RowKit Go.SW Go.Num Go.Mem Go.Proofs Go.Dec Go.eF Go.Proofs.aL Go.Proofs.aF Go.Proofs.aD Go.Fx
theorem qg (r:(Int × Int) × Int):∃ x y k:Int,r=((x,y),k):=⟨r.1.1,r.1.2,r.2,rfl⟩
theorem CQ (a:Fr) (w:World) (hf:Fits a):Calls Tryz.prog 150 #[a.v] w (fun e w'=>e= .returned (bK (dO a))∧Below w.heap.size w w'):=by
 cases ha:rd a with
 | none =>
  have R1:=zh (fun W=>iB (a:=a) (b:=false) (by rw [ha];rfl) hf W);have e:dO a=((0,0),20):=by unfold dO;rw [ha]
  rw [e];obtain ⟨s,t⟩:=a;unfold Fr.v at R1 ⊢;clear ha hf e;go_enter Tryz.func150,Tryz.ntmps150
  go_wp2_with fail
  obtain ⟨u0,EW,hz,HX,HR⟩:=yA w #[.string s,.string t] 32 #[.int .i64 0,.int .i64 0] 40;rw [EW];have HB:=zh hz;clear EW hz;refine (R1.out _).mono ?_;rintro e u1 ⟨rfl,h⟩;replace HX:=zh (HX.out.later h);replace HR:=zh (HR.out.later h);replace HB:=zh (Bt HB.out h);clear h;have hr:=HR.out;have cr:=hr.cell;have fr:=hr.free;have hb:=HB.out;clear HX HR HB;go_wp2_with fail
  refine aM rfl rfl ((hr.set 0 _).set 1 _) Tryz.underlying40 rfl zk ?_;exact ⟨rfl,(hb.setCell (p:=⟨w.heap.size+1,0,none⟩) (by show w.heap.size≤w.heap.size+1;omega) _).setCell (p:=⟨w.heap.size+1,1,none⟩) (by show w.heap.size≤w.heap.size+1;omega) _⟩
 | some q =>
  have R1:=zh (fun W=>iB (a:=a) (b:=true) (by rw [ha];rfl) hf W);have I1:=zh (fun W=>(vH ha W).mono fun _ _ q=>jo q);have T1:=zh (fun v v' W (h:Ra W v q) (h':Ra W v' q)=>Bf v v' q q W h h' ((nN ha).mono zo) ((nN ha).mono zo));have e:dO a=ig q q:=by rw [uG];unfold dO;rw [ha]
  rw [e];obtain ⟨x,y,k,ex⟩:=qg (ig q q);rw [ex] at T1 ⊢;unfold bK at T1 ⊢;obtain ⟨s,t⟩:=a;unfold Fr.v at R1 I1 ⊢;clear ha hf e ex;go_enter Tryz.func150,Tryz.ntmps150
  go_wp2_with fail
  obtain ⟨u0,EW,hz,HX,HR⟩:=yA w #[.string s,.string t] 32 #[.int .i64 0,.int .i64 0] 40;rw [EW];have HB:=zh hz;clear EW hz;refine (R1.out _).mono ?_;rintro e u1 ⟨rfl,h⟩;replace HX:=zh (HX.out.later h);replace HR:=zh (HR.out.later h);replace HB:=zh (Bt HB.out h);clear h;have xZ:=HX.out.cell;have xV:=HX.out.lt;go_wp2_with fail
  clear xZ xV;refine (I1.out _).mono ?_;rintro e u2 ⟨bO,paO,lO,caO,bOd,ah3,lOd,ap1,rfl,h,hm⟩;replace HX:=zh (HX.out.later h);replace HR:=zh (HR.out.later h);replace HB:=zh (Bt HB.out h);clear h;have QO:=zh hm;clear hm;go_wp2_with fail
  have QO2:=zh (QO.out.later (show Below u2.heap.size u2 (u2.alloc (.cells #[.bool bO,.slice paO lO caO,.bool bOd,.slice ah3 lOd ap1] 163)) from au));replace HR:=zh (HR.out.alloc (.cells #[.bool bO,.slice paO lO caO,.bool bOd,.slice ah3 lOd ap1] 163));replace HB:=zh (Bt HB.out (show Below u2.heap.size u2 (u2.alloc (.cells #[.bool bO,.slice paO lO caO,.bool bOd,.slice ah3 lOd ap1] 163)) from au));clear HX QO;refine (T1.out _ _ _ QO2.out QO2.out).mono ?_;rintro e u3 ⟨rfl,h⟩;replace HR:=zh (HR.out.later h);replace QO2:=zh (QO2.out.later h);replace HB:=zh (Bt HB.out h);clear h;have hr:=HR.out;have cr:=hr.cell;have fr:=hr.free;have hb:=HB.out;clear HR HB QO2;go_wp2_with fail
  refine aM rfl rfl ((hr.set 0 _).set 1 _) Tryz.underlying40 rfl zk ?_;exact ⟨rfl,(hb.setCell (p:=⟨w.heap.size+1,0,none⟩) (by show w.heap.size≤w.heap.size+1;omega) _).setCell (p:=⟨w.heap.size+1,1,none⟩) (by show w.heap.size≤w.heap.size+1;omega) _⟩
end Go.Proofs.aN
namespace Go.eF
open Go Go.RowKit Go.Num Go.Mem
def Fill (w:World) (g:Nat) (T:TypeId) (n k:Nat) (ok:World→Nat→Value→Value→Prop):Prop :=
 ∃ arr,ah w g arr T∧arr.size=n*2∧∀ i,i<k→∃ x y,arr[i*2]? =some x∧arr[i*2+1]? =some y∧ok w i x y
theorem Fill.box {w:World} {g:Nat} {T:TypeId} {n k:Nat} {ok:World→Nat→Value→Value→Prop} (h:Fill w g T n k ok):∃ arr,ah w g arr T∧arr.size=n*2:=by
 obtain ⟨arr,h1,h2, -⟩:=h;exact ⟨arr,h1,h2⟩
theorem Fill.lt {w:World} {g:Nat} {T:TypeId} {n k:Nat} {ok:World→Nat→Value→Value→Prop} (h:Fill w g T n k ok):g<w.heap.size:=by
 obtain ⟨arr,h1, -⟩:=h;exact h1.lt
theorem Fill.later {w w':World} {g:Nat} {T:TypeId} {n k:Nat} {ok:World→Nat→Value→Value→Prop} (h:Fill w g T n k ok) (hb:Below w.heap.size w w') (hok:∀ i x y,ok w i x y→ok w' i x y):Fill w' g T n k ok:=by
 obtain ⟨arr,h1,h2,h3⟩:=h;refine ⟨arr,h1.later hb,h2,fun i hi=>?_⟩;obtain ⟨x,y,k1,k2,k3⟩:=h3 i hi;exact ⟨x,y,k1,k2,hok _ _ _ k3⟩
theorem Fill.cells {w:World} {g:Nat} {T:TypeId} {n k:Nat} {ok:World→Nat→Value→Value→Prop} (h:Fill w g T n k ok) {j:Nat} (hj:j<n) :
  (∃ x,w.cell? ⟨g,j*2,none⟩=some x)∧(∃ y,w.cell? ⟨g,j*2+1,none⟩=some y)∧∀ o,w.frozen? ⟨g,o,none⟩=false:=by
 obtain ⟨arr,h1,h2,h3⟩:=h;refine ⟨⟨arr[j*2]'zo,?_⟩,⟨arr[j*2+1]'zo,?_⟩,h1.free⟩
 ·rw [h1.cell];exact Array.getElem?_eq_getElem _
 ·rw [h1.cell];exact Array.getElem?_eq_getElem _
theorem Fill.step {w:World} {g:Nat} {T:TypeId} {n k:Nat} {ok:World→Nat→Value→Value→Prop} {x y:Value} (h:Fill w g T n k ok) (hk:k<n)
  (hok:∀ i x' y',ok w i x' y'→ok ((w.setCell ⟨g,k*2,none⟩ x).setCell ⟨g,k*2+1,none⟩ y) i x' y')
  (hx:ok ((w.setCell ⟨g,k*2,none⟩ x).setCell ⟨g,k*2+1,none⟩ y) k x y) :
  Fill ((w.setCell ⟨g,k*2,none⟩ x).setCell ⟨g,k*2+1,none⟩ y) g T n (k+1) ok:=by
 obtain ⟨arr,h1,h2,h3⟩:=h;refine ⟨(arr.setIfInBounds (k*2) x).setIfInBounds (k*2+1) y,(h1.set _ _).set _ _,by simp [h2],fun i hi=>?_⟩
 rcases Nat.lt_or_ge i k with h|h
 ·obtain ⟨x',y',k1,k2,k3⟩:=h3 i h;refine ⟨x',y',?_,?_,hok _ _ _ k3⟩
  ·rw [Array.getElem?_setIfInBounds,if_neg zo,Array.getElem?_setIfInBounds,if_neg zo,k1]
  ·rw [Array.getElem?_setIfInBounds,if_neg zo,Array.getElem?_setIfInBounds,if_neg zo,k2]
 ·obtain rfl:i=k:=by omega
  refine ⟨x,y,?_,?_,hx⟩
  ·rw [Array.getElem?_setIfInBounds,if_neg zo,Array.getElem?_setIfInBounds,if_pos rfl,if_pos zo]
  ·rw [Array.getElem?_setIfInBounds,if_pos rfl,if_pos (by simp;omega)]
theorem Fill.start {w:World} {base g n:Nat} {T:TypeId} {z:Array Value} {ok:World→Nat→Value→Value→Prop} (h:w.ownsRow base T 2 (.slice (some ⟨g,0,none⟩) n n) n (madeCells z (n*2)).toList):Fill w g T n 0 ok:=by
 obtain ⟨h1,h2|⟨g',cap,cur,h3,h4,h5,h6,h7,h8,h9⟩⟩:=h
 ·cases h2.1
 ·simp only [Value.slice.injEq,Option.some.injEq,Addr.mk.injEq,and_true,true_and] at h3;obtain ⟨rfl,rfl⟩:=h3;exact ⟨cur,h5,h8,fun i hi=>by omega⟩
def OH (f:Nat→Int) (w:World) (i:Nat) (x y:Value):Prop:=∃ pa l ca,x= .slice pa l ca∧y= .bool (decide (f i<0))∧aW w (.slice pa l ca) (f i).natAbs
theorem OH.later {f:Nat→Int} {w w':World} (hb:Below w.heap.size w w') (i:Nat) (x y:Value) (h:OH f w i x y):OH f w' i x y:=by
 obtain ⟨pa,l,ca,h1,h2,h3⟩:=h;exact ⟨pa,l,ca,h1,h2,h3.later hb⟩
end Go.eF
namespace Go.eF
open Go Go.RowKit Go.Num Go.Mem
def Keep (l:List TypeId) (w w':World):Prop:=∀ b cs T,T∉l→ah w b cs T→ah w' b cs T
theorem Keep.of_below {w w':World} {l:List TypeId} (h:Below w.heap.size w w'):Keep l w w':=fun _ _ _ _ hx=>hx.later h
theorem Keep.trans {a b c:World} {l:List TypeId} (h:Keep l a b) (k:Keep l b c):Keep l a c:=fun x cs T hT hx=>k x cs T hT (h x cs T hT hx)
theorem Keep.mono {a b:World} {l m:List TypeId} (h:Keep l a b) (k:∀ T,T∈l→T∈m):Keep m a b:=fun x cs T hT hx=>h x cs T (fun e=>hT (k T e)) hx
theorem Keep.setCell {w:World} {b:Nat} {T:TypeId} {o:Nat} {u:Value} (h:Fq w b T):Keep [T] w (w.setCell ⟨b,o,none⟩ u):=fun x cs T' hT hx=>by
 obtain ⟨cs',hb⟩:=h;exact hx.setOther u (hx.ne hb (fun e=>hT (by simp [e])))
theorem Row.kept {l:List TypeId} {w w':World} {T:TypeId} {v:Value} {xs:List Value} (h:Row w T v xs) (k:Keep l w w') (hT:T∉l):Row w' T v xs:=by
 obtain ⟨a,cap,h1,h2,h3,h4,h5⟩:=h;refine ⟨a,cap,h1,h2,h3,h4,fun ad had=>?_⟩;obtain ⟨h6,arr,h7,h8⟩:=h5 ad had;exact ⟨h6,arr,k _ _ _ hT h7,h8⟩
theorem aW.kept {l:List TypeId} {w w':World} {v:Value} {n:Nat} (h:aW w v n) (k:Keep l w w') (hT:61∉l):aW w' v n:=Row.kept h k hT
theorem dH.kept {l:List TypeId} {w w':World} {v:Value} {n:Int} (h:dH w v n) (k:Keep l w w') (hT:61∉l):dH w' v n:=by
 obtain ⟨pa,l,ca,h1,h2⟩:=h;exact ⟨pa,l,ca,h1,aW.kept h2 k hT⟩
theorem OH.kept {l:List TypeId} {f:Nat→Int} {w w':World} (k:Keep l w w') (hT:61∉l) (i:Nat) (x y:Value) (h:OH f w i x y):OH f w' i x y:=by
 obtain ⟨pa,l,ca,h1,h2,h3⟩:=h;exact ⟨pa,l,ca,h1,h2,aW.kept h3 k hT⟩
theorem Frs.kept {l:List TypeId} {w w':World} {T:TypeId} {v:Value} {xs:List Fr} (h:Frs w T v xs) (k:Keep l w w') (hT:T∉l):Frs w' T v xs:=by
 obtain ⟨a,cap,h1,h2,h3,h4,h5⟩:=h;refine ⟨a,cap,h1,h2,h3,h4,fun ad had=>?_⟩;obtain ⟨h6,arr,h7,h8⟩:=h5 ad had;exact ⟨h6,arr,k _ _ _ hT h7,h8⟩
theorem Zu {l:List TypeId} {w w':World} {base k s:Nat} {e:TypeId} {v:Value} {xs:List Value} (h:w.ownsRow base e s v k xs) (hk:Keep l w w') (hT:e∉l):w'.ownsRow base e s v k xs:=by
 refine ⟨h.1,?_⟩
 rcases h.2 with hn|⟨g,cap,cur,rfl,hb,hgg,rest⟩
 ·exact .inl hn
 ·exact .inr ⟨g,cap,cur,rfl,hb,hk g cur e hT hgg,rest⟩
def CU {α β:Type} (R:α→β→Prop) (xs:List α) (ys:List β):Prop:=ys.length=xs.length∧∀ i (h:i<xs.length) (h':i<ys.length),R xs[i] ys[i]
theorem CU.nil {α β:Type} {R:α→β→Prop}:CU R [] []:=⟨rfl,fun i h=>by cases h⟩
theorem CU.mono {α β:Type} {R S:α→β→Prop} {xs:List α} {ys:List β} (h:CU R xs ys) (k:∀ x y,R x y→S x y):CU S xs ys:=⟨h.1,fun i a b=>k _ _ (h.2 i a b)⟩
end Go.eF
namespace Go.Mem
open Go Go.RowKit Go.SW Go.Num Go.eF
abbrev Rl (α:Type):=World→α→List Value→Prop
def Bg {α:Type} (m:List TypeId) (R:Rl α):Prop:=∀ w w' a c,Keep m w w'→R w a c→R w' a c
theorem Bg.sub {α:Type} {m l:List TypeId} {R:Rl α} (h:Bg m R) (k:∀ T,T∈l→T∈m):Bg l R:=fun w w' a c hk hr=>h w w' a c (hk.mono k) hr
theorem Bg.nil {α:Type} {m:List TypeId} {R:Rl α} (h:Bg m R):Bg [] R:=h.sub (fun _ h=>by cases h)
def jF {α:Type} (w:World) (B:Nat) (T:TypeId) (s:Nat) (R:Rl α) (v:Value) (l:List α):Prop :=
 ∃ xs:List (List Value),w.ownsRow B T s v l.length xs.flatten∧CU (fun a c=>R w a c∧c.length=s) l xs
theorem jF.nil {α:Type} (w:World) (B:Nat) (T:TypeId) (s:Nat) (R:Rl α):jF w B T s R (.slice none 0 0) []:=⟨[],World.ownsRow_nil _ _ _ _,CU.nil⟩
theorem jF.slice {α:Type} {w:World} {B:Nat} {T:TypeId} {s:Nat} {R:Rl α} {v:Value} {l:List α} (h:jF w B T s R v l):∃ a c,v= .slice a l.length c:=by
 obtain ⟨xs,⟨h1,⟨rfl,h2⟩|⟨g,cap,cur,rfl, -⟩⟩, -⟩:=h
 ·exact ⟨_,_,by rw [h2]⟩
 ·exact ⟨_,_,rfl⟩
theorem jF.at {α:Type} {w:World} {B:Nat} {T:TypeId} {s n:Nat} {R:Rl α} {v:Value} {l:List α} (h:jF w B T s R v l) (hn:l.length=n):∃ a c,v= .slice a n c:=hn ▸ h.slice
theorem jF.kept {α:Type} {w w':World} {B:Nat} {T:TypeId} {s:Nat} {R:Rl α} {v:Value} {l:List α} {m:List TypeId} (h:jF w B T s R v l) (k:Keep m w w') (hT:T∉m) (hR:Bg m R):jF w' B T s R v l:=by
 obtain ⟨xs,h1,h2⟩:=h;exact ⟨xs,Zu h1 k hT,h2.mono fun _ _ h=>⟨hR _ _ _ _ k h.1,h.2⟩⟩
theorem jF.later {α:Type} {w w':World} {B:Nat} {T:TypeId} {s:Nat} {R:Rl α} {v:Value} {l:List α} (h:jF w B T s R v l) (hb:Below w.heap.size w w') (hR:Bg [] R):jF w' B T s R v l:=h.kept (Keep.of_below hb) zi hR
def Ow {α:Type} (w:World) (T:TypeId) (s:Nat) (R:Rl α) (v:Value) (l:List α):Prop :=
 ∃ a cap,v= .slice a l.length cap∧l.length≤cap∧cap≤9223372036854775807∧(a=none→cap=0) ∧
  ∀ ad,a=some ad→ad.spot=none∧∃ arr,ah w ad.block arr T∧∀ i (h:i<l.length),∃ c,R w l[i] c∧c.length=s∧∀ j,j<s→arr[ad.off+i*s+j]? =c[j]?
theorem Ow.kept {α:Type} {w w':World} {T:TypeId} {s:Nat} {R:Rl α} {v:Value} {l:List α} {m:List TypeId} (h:Ow w T s R v l) (k:Keep m w w') (hT:T∉m) (hR:Bg m R):Ow w' T s R v l:=by
 obtain ⟨a,cap,h1,h2,h3,h4,h5⟩:=h;refine ⟨a,cap,h1,h2,h3,h4,fun ad had=>?_⟩;obtain ⟨h6,arr,h7,h8⟩:=h5 ad had;refine ⟨h6,arr,k _ _ _ hT h7,fun i hi=>?_⟩;obtain ⟨c,k1,k2,k3⟩:=h8 i hi;exact ⟨c,hR _ _ _ _ k k1,k2,k3⟩
theorem Ow.later {α:Type} {w w':World} {T:TypeId} {s:Nat} {R:Rl α} {v:Value} {l:List α} (h:Ow w T s R v l) (hb:Below w.heap.size w w') (hR:Bg [] R):Ow w' T s R v l:=h.kept (Keep.of_below hb) zi hR
theorem Ow.slice {α:Type} {w:World} {T:TypeId} {s:Nat} {R:Rl α} {v:Value} {l:List α} (h:Ow w T s R v l):∃ a c,v= .slice a l.length c:=by
 obtain ⟨a,c,h1, -⟩:=h;exact ⟨a,c,h1⟩
theorem Ow.read {α:Type} {w:World} {T:TypeId} {s:Nat} {R:Rl α} {v:Value} {l:List α} (h:Ow w T s R v l) :
  ∃ a cap,v= .slice a l.length cap∧l.length≤cap∧cap≤9223372036854775807∧∀ k (_:k<l.length),∃ b off c,a=some ⟨b,off,none⟩∧b<w.heap.size∧R w l[k] c∧c.length=s∧∀ j,j<s→w.cell? ⟨b,off+k*s+j,none⟩=c[j]? :=by
 obtain ⟨a,cap,h1,h2,h3,h4,h5⟩:=h;refine ⟨a,cap,h1,h2,h3,fun k hk=>?_⟩;cases a with
 | none=>have:=h4 rfl;omega
 | some ad =>
  obtain ⟨h6,arr,h7,h8⟩:=h5 ad rfl;obtain ⟨b,off,sp⟩:=ad;simp only at h6;subst h6;obtain ⟨c,k1,k2,k3⟩:=h8 k hk;exact ⟨b,off,c,rfl,h7.lt,k1,k2,fun j hj=>(h7.cell _).trans (k3 j hj)⟩
def RFr:Rl Fr:=fun _ f c=>c=[.string f.n,.string f.d]
theorem RFr.stay (m:List TypeId):Bg m RFr:=fun _ _ _ _ _ h=>h
def br2 {α:Type} (S:World→Value→List α→Prop):Rl (List α):=fun w l c=>∃ v,c=[v]∧S w v l
end Go.Mem
namespace Go.Proofs.jJ
open Go Go.RowKit Go.SW Go.Num Go.Mem Go.Proofs Go.Dec Go.eF Go.Proofs.aF
theorem Pl.kept {l:List TypeId} {w w':World} {v:Value} {z:Int} (h:Pl w v z) (k:Keep l w w') (hT:3∉l):Pl w' v z:=by
 obtain ⟨pa,n,c,h1,h2⟩:=h;exact ⟨pa,n,c,h1,Row.kept h2 k hT⟩
theorem Ra.kept {l:List TypeId} {w w':World} {v:Value} {q:Rat} (h:Ra w v q) (k:Keep l w w') (hT:3∉l):Ra w' v q:=by
 obtain ⟨bn,pn,ln,cn,bd,pd,ld,cd,e,h1,h2⟩:=h;exact ⟨bn,pn,ln,cn,bd,pd,ld,cd,e,Pl.kept h1 k hT,Pl.kept h2 k hT⟩
def OA:Rl Rat:=fun w q c=>∃ bn pn ln cn bd pd ld cd,c=[.bool bn,.slice pn ln cn,.bool bd,.slice pd ld cd]∧Ra w (.agg #[.bool bn,.slice pn ln cn,.bool bd,.slice pd ld cd]) q
theorem OA.stay {m:List TypeId} (h:3∉m):Bg m OA:=fun w w' a c k hr=>by
 obtain ⟨bn,pn,ln,cn,bd,pd,ld,cd,e,h1⟩:=hr;exact ⟨bn,pn,ln,cn,bd,pd,ld,cd,e,Ra.kept h1 k h⟩
def Bn (w:World) (v:Value) (qs:List Rat):Prop:=Ow w 163 4 OA v qs
def bf8:Rl (List Rat):=br2 Bn
theorem bf8.stay {m:List TypeId} (h:3∉m) (h2:163∉m):Bg m bf8:=fun w w' a c k hr=>by
 obtain ⟨v,e,h1⟩:=hr;exact ⟨v,e,Ow.kept h1 k h2 (OA.stay h)⟩
theorem Bn.later {w w':World} {v:Value} {qs:List Rat} (h:Bn w v qs) (hb:Below w.heap.size w w'):Bn w' v qs:=Ow.later h hb (OA.stay zi)
theorem Bn.at {w:World} {v:Value} {qs:List Rat} (h:Bn w v qs):∃ a cap,v= .slice a qs.length cap∧qs.length≤cap∧cap≤9223372036854775807 ∧
  ∀ k (_:k<qs.length),∃ b off bn pn ln cn bd pd ld cd,a=some ⟨b,off,none⟩∧b<w.heap.size∧w.cell? ⟨b,off+k*4,none⟩=some (.bool bn)∧w.cell? ⟨b,off+k*4+1,none⟩=some (.slice pn ln cn)∧w.cell? ⟨b,off+k*4+2,none⟩=some (.bool bd)∧w.cell? ⟨b,off+k*4+3,none⟩=some (.slice pd ld cd) ∧
   Ra w (.agg #[.bool bn,.slice pn ln cn,.bool bd,.slice pd ld cd]) qs[k]:=by
 obtain ⟨a,cap,h1,h2,h3,h4⟩:=Ow.read h;refine ⟨a,cap,h1,h2,h3,fun k hk=>?_⟩;obtain ⟨b,off,c,k1,k2,⟨bn,pn,ln,cn,bd,pd,ld,cd,rfl,k3⟩, -, k5⟩:=h4 k hk;exact ⟨b,off,bn,pn,ln,cn,bd,pd,ld,cd,k1,k2,k5 0 zo,k5 1 zo,k5 2 zo,k5 3 zo,k3⟩
end Go.Proofs.jJ
namespace Go.SW
open Go Go.RowKit
variable {P:Program} {ops:Array Oper} {Q:Exit→Act→World→Prop}
def Sk (x y:Nat):Nat→List Oper→List Oper
 | _,[]=>[]
 | k,o::l=>(match k.beq y with
  | true=>⟨o.dst,o.op,o.type,o.pos,o.after.push ⟨x,.chain⟩,o.guard⟩
  | false=>o)::Sk x y (k+1) l
def jH (x y:Nat) (ops:Array Oper):Array Oper:=(Sk x y 0 ops.toList).toArray
end Go.SW
namespace Go.SW
open Go Go.RowKit
variable {P:Program} {ops:Array Oper} {Q:Exit→Act→World→Prop}
inductive St|one (k:K) (i:Nat)|two (i j:Nat)
variable {o:Oper} {i:Nat} {is:List St} {a:Act} {w:World} {N:Nat} {A:List Nat}
end Go.SW
namespace Go.Proofs.aN
open Go Go.RowKit Go.SW Go.Num Go.Mem Go.Proofs Go.Dec Go.eF Go.Proofs.aL Go.Proofs.aF
theorem qO (lo hi:Int) (w:World):Calls Tryz.prog 164 #[.agg #[.int .i64 lo,.int .i64 hi]] w (fun e w'=>e= .returned (.bool (dA lo hi))∧Below w.heap.size w w'):=by
 unfold dA;cases h1:decide (-1000000000000000000≤lo)<;>cases h2:decide (lo≤hi)<;>cases h3:decide (hi≤1000000000000000000)
 all_goals
  go_enter Tryz.func164,Tryz.ntmps164
  go_wp2_with fail
  go_ret
  exact ⟨rfl,au⟩
def abE (lo hi:Int):(Int × Int) × Int:=if dA lo hi=false then ((0,0),30) else if 0≤lo then ((lo,hi),0) else if hi≤0 then ((-hi, -lo),0) else ((0,max (-lo) hi),0)
theorem as6 (lo hi:Int) (w:World):Calls Tryz.prog 233 #[.agg #[.int .i64 lo,.int .i64 hi]] w (fun e w'=>e= .returned (bK (abE lo hi))∧Below w.heap.size w w'):=by
 have H:=zh (fun W=>qO lo hi W);have HB:dA lo hi=true→ -1000000000000000000≤lo∧lo≤hi∧hi≤1000000000000000000:=fun h=>by simpa [dA] using h
 unfold abE;generalize hb:dA lo hi=b at *;unfold bK;have h0:Below w.heap.size w ((w.alloc (.cells #[.int .i64 lo,.int .i64 hi] 40)).alloc (.cells #[.int .i64 0,.int .i64 0] 40)):=au;go_enter Tryz.func233,Tryz.ntmps233
 go_wp2_with fail
 obtain ⟨wx,EW,hz,X1,X2⟩:=yA w #[.int .i64 lo,.int .i64 hi] 40 #[.int .i64 0,.int .i64 0] 40;rw [EW];clear EW h0;refine (H.out _).mono ?_;rintro e w1 ⟨rfl,hb1⟩;replace X1:=X1.bl hb1;replace X2:=X2.bl hb1;replace hz:=Bt hz hb1;clear hb1 H;obtain ⟨c1,l1⟩:=X1.cl;obtain ⟨c2,l2,f2⟩:=X2.clf;have x2:=X2.out;cases b
 ·go_wp2_with fail
  refine aM rfl rfl aJ Tryz.underlying40 rfl zk ?_;exact ⟨rfl,au⟩
 ·obtain ⟨k1,k2,k3⟩:=HB rfl;clear HB
  by_cases g1:0≤lo
  ·go_wp2_with fail
   refine aM rfl rfl aJ Tryz.underlying40 rfl zk ?_;exact ⟨by simp [g1],au⟩
  ·by_cases g2:hi≤0
   ·have w1:IntKind.i64.wrap (-hi)= -hi:=by rw [IntKind.wrap_i64];omega
    have w2:IntKind.i64.wrap (-lo)= -lo:=by rw [IntKind.wrap_i64];omega
    go_wp2_with fail
    refine aM rfl rfl aJ Tryz.underlying40 rfl zk ?_;exact ⟨by simp [g1,g2],au⟩
   ·have w2:IntKind.i64.wrap (-lo)= -lo:=by rw [IntKind.wrap_i64];omega
    go_wp2_with fail
    all_goals
     refine aM rfl rfl aJ Tryz.underlying40 rfl zk ?_;exact ⟨by simp [g1,g2]<;>omega,au⟩
end Go.Proofs.aN
namespace Go.Proofs.iX
open Go Go.RowKit Go.SW Go.Num Go.Mem Go.Proofs Go.Dec Go.eF Go.Proofs.aL Go.Proofs.aF Go.Proofs.aN Go.Proofs.power
theorem jf (lo hi:Int) (w:World):Calls Tryz.prog 236 #[.int .i64 lo,.int .i64 hi] w (fun e w'=>e= .returned (bK (dI lo hi))∧Below w.heap.size w w'):=by
 have H:=zh (fun W=>qO lo hi W);unfold dI;generalize dA lo hi=b at *;unfold bK;cases b
 all_goals
  go_enter Tryz.func236,Tryz.ntmps236
  go_wp2_with fail
  obtain ⟨wx,EW,hz,X1,X2⟩:=yA w #[.int .i64 0,.int .i64 0] 40 #[.int .i64 lo,.int .i64 hi] 40;rw [EW];clear EW;refine (H.out _).mono ?_;rintro e w1 ⟨rfl,hb1⟩;replace X1:=X1.bl hb1;replace X2:=X2.bl hb1;replace hz:=Bt hz hb1;clear hb1;obtain ⟨c2,l2⟩:=X2.cl;obtain ⟨c1,l1,f1⟩:=X1.clf;have x1:=X1.out;go_wp2_with fail
  refine aM rfl rfl aJ Tryz.underlying40 rfl zk ?_;exact ⟨rfl,au⟩
end Go.Proofs.iX
namespace Go.Proofs.bH
open Go Go.RowKit Go.SW Go.Num Go.Mem Go.Proofs Go.eF Go.Fx
def got (E:Int) (r:(Int × Int) × Int):(Int × Int) × Int:=if E=0 then (if r.2=0 then (r.1,0) else ((0,0),r.2)) else ((0,0),E)
theorem bs2 (x y:Int) (b:Nat) (w:World) (X:ah w b #[.int .i64 0] 100) :
  Calls Tryz.prog 56 #[.pointer (some ⟨b,0,none⟩),.agg #[.int .i64 x,.int .i64 y],.int .i64 0] w (fun e w'=>e= .returned (.agg #[.int .i64 x,.int .i64 y])∧nI [b] w w'∧ah w' b #[.int .i64 0] 100):=by
 refine Fx.door Tryz.func56 rfl (.one X) ?_;refine Fx.new [] 4 #[.int .i64 x,.int .i64 y] 40 [] [] fun fF=>?_;refine Fx.aP [] 6 40 [] [] fun dZ=>?_;exact Fx.iq 2 dZ [3,1,3,3,2,4,5] [(0,#[.int .i64 0]),(2,#[.int .i64 x,.int .i64 y])] (fun W M=>⟨rfl,M.wV,M.box (b:=b) 0⟩)
theorem bs1 (x y k:Int) (hk:k≠0) (b:Nat) (w:World) (X:ah w b #[.int .i64 0] 100) :
  Calls Tryz.prog 56 #[.pointer (some ⟨b,0,none⟩),.agg #[.int .i64 x,.int .i64 y],.int .i64 k] w (fun e w'=>e= .returned (.agg #[.int .i64 0,.int .i64 0])∧nI [b] w w'∧ah w' b #[.int .i64 k] 100):=by
 refine Fx.door Tryz.func56 rfl (.one X) ?_;refine Fx.new [] 4 #[.int .i64 x,.int .i64 y] 40 [] [] fun fF=>?_;refine Fx.aP [] 6 40 [] [] fun dZ=>?_;refine Fx.part 29 [3,1,3,3] [(20,.bool (!(k == 0)))] [(0,#[.int .i64 k])] ?_;refine Fx.jO true (by simp [hk]) ?_;exact Fx.iq 2 dZ [1,5] [(2,#[.int .i64 0,.int .i64 0])] (fun W M=>⟨rfl,M.wV,M.box (b:=b) 0⟩)
theorem bs0 (x y k E:Int) (hk:E≠0) (b:Nat) (w:World) (X:ah w b #[.int .i64 E] 100) :
  Calls Tryz.prog 56 #[.pointer (some ⟨b,0,none⟩),.agg #[.int .i64 x,.int .i64 y],.int .i64 k] w (fun e w'=>e= .returned (.agg #[.int .i64 0,.int .i64 0])∧nI [b] w w'∧ah w' b #[.int .i64 E] 100):=by
 refine Fx.door Tryz.func56 rfl (.one X) ?_;refine Fx.new [] 4 #[.int .i64 x,.int .i64 y] 40 [] [] fun fF=>?_;refine Fx.aP [] 6 40 [] [] fun dZ=>?_;refine Fx.part 10 [3] [(11,.bool (E == 0))] [] ?_;refine Fx.jO false (by simp [hk]) ?_;refine Fx.part 13 [2,3] [(20,.bool (!(E == 0)))] [] ?_;refine Fx.jO true (by simp [hk]) ?_;exact Fx.iq 2 dZ [1,5] [(2,#[.int .i64 0,.int .i64 0])] (fun W M=>⟨rfl,M.wV,M.box (b:=b) 0⟩)
theorem yD {x y k E u v F:Int} (h:got E ((x,y),k)=((u,v),F)) {b:Nat} {w:World} (X:ah w b #[.int .i64 E] 100) :
  Calls Tryz.prog 56 #[.pointer (some ⟨b,0,none⟩),.agg #[.int .i64 x,.int .i64 y],.int .i64 k] w (fun e w'=>e= .returned (.agg #[.int .i64 u,.int .i64 v])∧nI [b] w w'∧ah w' b #[.int .i64 F] 100):=by
 unfold got at h;split at h
 ·rename_i h0;subst h0;split at h
  ·rename_i h1;cases h
   have h1':k=0:=h1;subst h1';exact bs2 x y b w X
  ·rename_i h1;cases h
   exact bs1 x y k h1 b w X
 ·rename_i h0;cases h
  exact bs0 x y k E h0 b w X
theorem SI {E u v F:Int} {s t:ByteArray} (h:got E (aL.dO ⟨s,t⟩)=((u,v),F)) (hf:aF.Fits ⟨s,t⟩) {b:Nat} {w:World} (X:ah w b #[.int .i64 E] 100) :
  Calls Tryz.prog 67 #[.pointer (some ⟨b,0,none⟩),.agg #[.string s,.string t]] w (fun e w'=>e= .returned (.agg #[.int .i64 u,.int .i64 v])∧nI [b] w w'∧ah w' b #[.int .i64 F] 100):=by
 obtain ⟨⟨⟨x,y⟩,k⟩,hr⟩:∃ z,aL.dO ⟨s,t⟩=z:=⟨_,rfl⟩;have C:=fun W=>aN.CQ ⟨s,t⟩ W hf;rw [hr] at C h;refine Fx.door Tryz.func67 rfl (.one X) ?_;refine Fx.new [] 3 #[.string s,.string t] 32 [] [] fun fF=>?_;refine Fx.aP [] 4 40 [] [] fun dZ=>?_;refine Fx.aV [4] 9 [] [] C ?_;refine Fx.aP [] 5 40 [(10,.agg #[.int .i64 x,.int .i64 y]),(11,.int .i64 k)] [] fun gP=>?_;refine Fx.iP [6,6] 15 0 [] [(3,#[.int .i64 x,.int .i64 y])] (fun W M=>yD h (M.box (b:=b) 0)) ?_;exact Fx.iq 2 dZ [5] [(2,#[.int .i64 u,.int .i64 v])] (fun W M=>⟨rfl,M.wV,M.box (b:=b) 0⟩)
end Go.Proofs.bH
namespace Go.Proofs.aO
open Go Go.RowKit Go.SW Go.Num Go.Mem Go.Proofs Go.eF Go.Fx Go.Proofs.aF
theorem Li (z:Int):(Lib.itoa z).length=(Lib.decDigits z.natAbs).length+(if z<0 then 1 else 0):=by
 unfold Lib.itoa;split
 ·rfl
 ·rename_i h;rw [show z.natAbs=z.toNat by omega];rfl
theorem Rk {q:Rat} (h:rz q=true):Fits (Fr.of q):=by
 unfold rz at h;rw [Bool.and_eq_true] at h;have h1:=dQ.1 h.1;have h2:=dQ.1 h.2;have h3:=Li q.num;have h4:=Li (q.den:Int);rw [Int.natAbs_natCast] at h4;have h5:(Lib.itoa q.num).length≤601:=by rw [h3];split<;>omega
 have h6:(Lib.itoa (q.den:Int)).length≤601:=by rw [h4];split<;>omega
 exact ⟨by show (Lib.itoa q.num).length≤_;omega,by show (Lib.itoa (q.den:Int)).length≤_;omega⟩
end Go.Proofs.aO
namespace Go.Proofs.aL
open Go Go.RowKit Go.SW Go.Num Go.Mem Go.Proofs Go.eF Go.Proofs.lab Go.Proofs.matrix
theorem abs_b {lo hi a b:Int} (h:aq4 lo hi=((a,b),0)):a.natAbs≤1000000000000000000∧b.natAbs≤1000000000000000000:=by
 unfold aq4 at h;split at h
 ·obtain ⟨h1,h2, -⟩:=BK (Ij h rfl);exact ⟨h1,h2⟩
 ·cases h
theorem Sqr_ok (lo hi:Int) (w:World):Calls Tryz.prog 29 #[.agg #[.int .i64 lo,.int .i64 hi]] w (fun e w'=>e= .returned (bK (sqrE (lo,hi)))∧Below w.heap.size w w'):=by
 have C:=fun W=>as6 lo hi W;unfold sqrE bK;obtain ⟨⟨⟨a,b⟩,k⟩,e⟩:∃ z,aq4 lo hi=z:=⟨_,rfl⟩;simp only [e] at C ⊢
 by_cases hk:k=0
 ·subst hk;obtain ⟨ha,hb⟩:=abs_b e;rw [if_neg zd];have Q1:=fun W=>GH a a 1000000000000 false ha ha zo zd W;have Q2:=fun W=>GH b b 1000000000000 true hb hb zo zd W;generalize kI a a 1000000000000 false=p at *;generalize kI b b 1000000000000 true=q at *;obtain ⟨p1,p2⟩:=p;obtain ⟨q1,q2⟩:=q;have M:=fun W=>jf p1 q1 W;simp only at *;cases p2
  ·rw [if_neg zi];refine Fx.door Tryz.func29 rfl (.nil w []) ?_;refine Fx.new [] 1 #[.int .i64 lo,.int .i64 hi] 40 [] [] fun fF=>?_;refine Fx.aP [] 2 40 [] [] fun dZ=>?_;refine Fx.aV [3] 12 [] [] C ?_;refine Fx.aP [] 4 40 [(13,.agg #[.int .i64 a,.int .i64 b]),(14,.int .i64 0)] [] fun gP=>?_;refine Fx.aV [5,2,5,5] 24 [] [(2,#[.int .i64 a,.int .i64 b])] Q1 ?_;refine Fx.aV [5,5] 32 [(7,.bool false)] [] Q2 ?_;exact Fx.dL 1 dZ [1,4] [(1,#[.int .i64 0,.int .i64 0])] (fun W M=>⟨rfl,M.below⟩)
  ·cases q2
   ·rw [if_neg zi];refine Fx.door Tryz.func29 rfl (.nil w []) ?_;refine Fx.new [] 1 #[.int .i64 lo,.int .i64 hi] 40 [] [] fun fF=>?_;refine Fx.aP [] 2 40 [] [] fun dZ=>?_;refine Fx.aV [3] 12 [] [] C ?_;refine Fx.aP [] 4 40 [(13,.agg #[.int .i64 a,.int .i64 b]),(14,.int .i64 0)] [] fun gP=>?_;refine Fx.aV [5,2,5,5] 24 [] [(2,#[.int .i64 a,.int .i64 b])] Q1 ?_;refine Fx.aV [5,5] 32 [(7,.bool true)] [] Q2 ?_;exact Fx.dL 1 dZ [1,4] [(1,#[.int .i64 0,.int .i64 0])] (fun W M=>⟨rfl,M.below⟩)
   ·rw [if_pos ⟨rfl,rfl⟩];generalize dI p1 q1=m at *;obtain ⟨⟨m1,m2⟩,m3⟩:=m;refine Fx.door Tryz.func29 rfl (.nil w []) ?_;refine Fx.new [] 1 #[.int .i64 lo,.int .i64 hi] 40 [] [] fun fF=>?_;refine Fx.aP [] 2 40 [] [] fun dZ=>?_;refine Fx.aV [3] 12 [] [] C ?_;refine Fx.aP [] 4 40 [(13,.agg #[.int .i64 a,.int .i64 b]),(14,.int .i64 0)] [] fun gP=>?_;refine Fx.aV [5,2,5,5] 24 [] [(2,#[.int .i64 a,.int .i64 b])] Q1 ?_;refine Fx.aV [5,5] 32 [(6,.int .i64 p1),(7,.bool true)] [] Q2 ?_;refine Fx.aV [2] 44 [] [] M ?_;exact Fx.dL 1 dZ [4] [(1,#[.int .i64 m1,.int .i64 m2])] (fun W M=>⟨rfl,M.below⟩)
 ·rw [if_pos hk];refine Fx.door Tryz.func29 rfl (.nil w []) ?_;refine Fx.new [] 1 #[.int .i64 lo,.int .i64 hi] 40 [] [] fun fF=>?_;refine Fx.aP [] 2 40 [] [] fun dZ=>?_;refine Fx.aV [3] 12 [] [] C ?_;refine Fx.aP [] 4 40 [(13,.agg #[.int .i64 a,.int .i64 b]),(14,.int .i64 k)] [] fun gP=>?_;refine Fx.part 9 [5] [(16,.bool (!(k == 0))),(5,.int .i64 k)] [(2,#[.int .i64 a,.int .i64 b])] ?_;refine Fx.jO true (by simp [hk]) ?_;exact Fx.dL 1 dZ [1,4] [(1,#[.int .i64 0,.int .i64 0])] (fun W M=>⟨rfl,M.below⟩)
theorem cBSqr {x y u v:Int} (hx:sqrE (x,y)=((u,v),0)) (w:World):Calls Tryz.prog 29 #[.agg #[.int .i64 x,.int .i64 y]] w (fun e w'=>e= .returned (.tuple #[.agg #[.int .i64 u,.int .i64 v],.int .i64 0])∧Below w.heap.size w w'):=by
 have h:=Sqr_ok x y w;rw [hx] at h;exact h
end Go.Proofs.aL
namespace Go.Proofs.bH
open Go Go.RowKit Go.SW Go.Num Go.Mem Go.Proofs Go.eF Go.Fx Go.Proofs.lab Go.Proofs.matrix Go.Proofs.aN Go.Proofs.aL
theorem hun_un (n:Int):Ap n=un (n*10000000000):=by
 unfold Ap un;rw [Rat.intCast_mul];have e:((1000000000000:Int):Rat)=((10000000000:Int):Rat)*((100:Int):Rat):=by decide+kernel
 have n1:((10000000000:Int):Rat)≠0:=by decide+kernel
 have n2:((100:Int):Rat)≠0:=by decide+kernel
 rw [e];generalize ((10000000000:Int):Rat)=a at *;generalize ((100:Int):Rat)=b at *
 grind
theorem around_hun {n:Int} (h:n.natAbs≤12800):aL.dO (Fr.of (Ap n))=((n*10000000000,n*10000000000),0):=by
 have hw:Wi (128*1000000000000) (Ap n):=by rw [hun_un];exact un_wi zo zo
 have e:aL.dO (Fr.of (Ap n))=ig (Ap n) (Ap n):=by rw [uG];unfold aL.dO;rw [iI ((NK h).ok zo)]
 rw [e];unfold ig;rw [mX,mX,hun_un,xS,← Rat.intCast_neg,Rat.floor_intCast,Rat.floor_intCast];unfold aL.dI;rw [Int.neg_neg,if_pos (Yu zo zo zo)]
theorem fits_of {p:Rat} {k:Nat} (h:Hq k p) (hk:k<600):aF.Fits (Fr.of p):=aO.Rk (h.ok hk)
theorem Trib_ok (L A B m1 m2 m3:Int) (hL:0≤L∧L≤65535) (hA: -32768≤A∧A≤32767) (hB: -32768≤B∧B≤32767) (h1:0≤m1∧m1≤4294967295) (h2:0≤m2∧m2≤4294967295) (h3:0≤m3∧m3≤4294967295) :
  ∃ n1 n2 n3:Int,n1.natAbs≤12800∧n2.natAbs≤12800∧n3.natAbs≤12800∧∀ w,Calls Tryz.prog 20 #[.agg #[.int .u16 L,.int .i16 A,.int .i16 B,.int .u32 m1,.int .u32 m2,.int .u32 m3]] w (fun e w'=>e= .returned (.agg #[.int .i64 (wA n1 m1).1,.int .i64 (wA n1 m1).2,.int .i64 (wA n2 m2).1,.int .i64 (wA n2 m2).2,.int .i64 (wA n3 m3).1,.int .i64 (wA n3 m3).2])∧Below w.heap.size w w'):=by
 have l1:=Int.tmod_lt_of_pos L (show 0<10001 by omega);have l2:=Int.tmod_nonneg (10001:Int) hL.1;have a1:=Int.tmod_lt_of_pos A (show 0<12801 by omega);have a2:=Int.lt_tmod_of_pos A (show 0<12801 by omega);have b1:=Int.tmod_lt_of_pos B (show 0<12801 by omega);have b2:=Int.lt_tmod_of_pos B (show 0<12801 by omega);have R:=fun W=>LabTri_at L A B hL hA hB W;generalize Int.tmod L 10001=n1 at *;generalize Int.tmod A 12801=n2 at *;generalize Int.tmod B 12801=n3 at *;refine ⟨n1,n2,n3,by omega,by omega,by omega,fun w=>?_⟩;have g:∀ n:Int,n.natAbs≤12800→got 0 (aL.dO (Fr.of (Ap n)))=((n*10000000000,n*10000000000),0):=fun n h=>by rw [around_hun h];rfl
 have e1:=g n1 zo;have e2:=g n2 zo;have e3:=g n3 zo;have f1:=fits_of (NK (n:=n1) zo) zo;have f2:=fits_of (NK (n:=n2) zo) zo;have f3:=fits_of (NK (n:=n3) zo) zo;unfold wA;have z1: -128000000000000≤n1*10000000000∧n1*10000000000≤128000000000000:=by omega
 have z2: -128000000000000≤n2*10000000000∧n2*10000000000≤128000000000000:=by omega
 have z3: -128000000000000≤n3*10000000000∧n3*10000000000≤128000000000000:=by omega
 generalize n1*10000000000=p at *;generalize n2*10000000000=q at *;generalize n3*10000000000=r at *;generalize Fr.of (Ap n1)=x at *;generalize Fr.of (Ap n2)=y at *;generalize Fr.of (Ap n3)=z at *;obtain ⟨x1,x2⟩:=x;obtain ⟨y1,y2⟩:=y;obtain ⟨u1,u2⟩:=z;clear g l1 l2 a1 a2 b1 b2;simp only at *;refine Fx.door Tryz.func20 rfl (.nil w []) ?_;refine Fx.new [] 1 #[.int .u16 L,.int .i16 A,.int .i16 B,.int .u32 m1,.int .u32 m2,.int .u32 m3] 64 [] [] fun fF=>?_;refine Fx.aP [] 2 42 [] [] fun dZ=>?_;refine Fx.aV [3] 10 [] [] R ?_;refine Fx.aP [] 3 34 [] [] fun gP=>?_;refine Fx.aP [5] 4 100 [] [(2,#[.string x1,.string x2,.string y1,.string y2,.string u1,.string u2])] fun AV=>?_;refine Fx.aP [] 5 42 [] [] fun bz5=>?_;refine Fx.iP [1,5] 18 3 [(6,.int .i64 0)] [] (fun W M=>SI e1 f1 (M.box (b:=AV) 3)) ?_;refine Fx.aP [] 7 40 [] [] fun bz6=>?_
 refine Fx.draw [8] (List.range 20) [] [] [(5,#[.int .i64 p,.int .i64 p])] ?_;refine Fx.part 8 [8,3] [(26,.int .i64 (IntKind.i64.wrap m1)),(19,.int .i64 0),(21,.int .i64 p)] [] ?_;refine Fx.av3 (.int .i64 (m1)) (Fx.wrap_i64 zo zo) ?_;refine Fx.part 1 [] [(27,.int .i64 (IntKind.i64.wrap (p - (m1))))] [] ?_;refine Fx.av3 (.int .i64 (p - (m1))) (Fx.wrap_i64 zo zo) ?_;refine Fx.part 7 [8,3] [(34,.int .i64 (IntKind.i64.wrap m1)),(29,.int .i64 p)] [] ?_;refine Fx.av3 (.int .i64 (m1)) (Fx.wrap_i64 zo zo) ?_;refine Fx.part 1 [] [(35,.int .i64 (IntKind.i64.wrap (p+(m1))))] [] ?_;refine Fx.av3 (.int .i64 (p+(m1))) (Fx.wrap_i64 zo zo) ?_;refine Fx.iP [7,1,5] 18 3 [(6,.int .i64 1)] [(4,#[.int .i64 (p - (m1)),.int .i64 (p+(m1)),.int .i64 0,.int .i64 0,.int .i64 0,.int .i64 0])] (fun W M=>SI e2 f2 (M.box (b:=AV) 3)) ?_;refine Fx.aP [] 7 40 [] [] fun bz7=>?_
 refine Fx.draw [9] (List.range 20) [] [] [(6,#[.int .i64 q,.int .i64 q])] ?_;refine Fx.part 8 [9,3] [(26,.int .i64 (IntKind.i64.wrap m2)),(19,.int .i64 1),(21,.int .i64 q)] [] ?_;refine Fx.av3 (.int .i64 (m2)) (Fx.wrap_i64 zo zo) ?_;refine Fx.part 1 [] [(27,.int .i64 (IntKind.i64.wrap (q - (m2))))] [] ?_;refine Fx.av3 (.int .i64 (q - (m2))) (Fx.wrap_i64 zo zo) ?_;refine Fx.part 7 [9,3] [(34,.int .i64 (IntKind.i64.wrap m2)),(29,.int .i64 q)] [] ?_;refine Fx.av3 (.int .i64 (m2)) (Fx.wrap_i64 zo zo) ?_;refine Fx.part 1 [] [(35,.int .i64 (IntKind.i64.wrap (q+(m2))))] [] ?_;refine Fx.av3 (.int .i64 (q+(m2))) (Fx.wrap_i64 zo zo) ?_;refine Fx.iP [7,1,5] 18 3 [(6,.int .i64 2)] [(4,#[.int .i64 (p - (m1)),.int .i64 (p+(m1)),.int .i64 (q - (m2)),.int .i64 (q+(m2)),.int .i64 0,.int .i64 0])] (fun W M=>SI e3 f3 (M.box (b:=AV) 3)) ?_;refine Fx.aP [] 7 40 [] [] fun bz8=>?_
 refine Fx.draw [10] (List.range 20) [] [] [(7,#[.int .i64 r,.int .i64 r])] ?_;refine Fx.part 8 [10,3] [(26,.int .i64 (IntKind.i64.wrap m3)),(19,.int .i64 2),(21,.int .i64 r)] [] ?_;refine Fx.av3 (.int .i64 (m3)) (Fx.wrap_i64 zo zo) ?_;refine Fx.part 1 [] [(27,.int .i64 (IntKind.i64.wrap (r - (m3))))] [] ?_;refine Fx.av3 (.int .i64 (r - (m3))) (Fx.wrap_i64 zo zo) ?_;refine Fx.part 7 [10,3] [(34,.int .i64 (IntKind.i64.wrap m3)),(29,.int .i64 r)] [] ?_;refine Fx.av3 (.int .i64 (m3)) (Fx.wrap_i64 zo zo) ?_;refine Fx.part 1 [] [(35,.int .i64 (IntKind.i64.wrap (r+(m3))))] [] ?_;refine Fx.av3 (.int .i64 (r+(m3))) (Fx.wrap_i64 zo zo) ?_
 exact Fx.iq 1 dZ [7,2,7,4] [(1,#[.int .i64 (p - (m1)),.int .i64 (p+(m1)),.int .i64 (q - (m2)),.int .i64 (q+(m2)),.int .i64 (r - (m3)),.int .i64 (r+(m3))]),(4,#[.int .i64 (p - (m1)),.int .i64 (p+(m1)),.int .i64 (q - (m2)),.int .i64 (q+(m2)),.int .i64 (r - (m3)),.int .i64 (r+(m3))])] (fun W M=>⟨rfl,M.below⟩)
end Go.Proofs.bH
namespace Go.Proofs.verdigrislaw24
open Go Go.RowKit Go.SW Go.Num Go.Mem Go.Proofs Go.Dec Go.eF Go.Proofs.lab Go.Proofs.aY
theorem eqB_same (a b:Int) (W:World):(Op.equalIn 10000 40 (.agg #[.int .i64 a,.int .i64 b]) (.agg #[.int .i64 a,.int .i64 b])).run Tryz.prog W= .ok true W:=by
 rw [Xj];unfold aa5;simp
theorem hues_err {L A B m1 m2 m3 b1 b2 b3 b4 b5 b6:Int}
  (V:Hd (∀ W,fM.Pow W→whole.Er W→Calls Tryz.prog 20 #[.agg #[.int .u16 L,.int .i16 A,.int .i16 B,.int .u32 m1,.int .u32 m2,.int .u32 m3]] W (fun e w'=>e= .returned (.agg #[.int .i64 b1,.int .i64 b2,.int .i64 b3,.int .i64 b4,.int .i64 b5,.int .i64 b6])∧Below W.heap.size W w')))
  (P:Hd (∀ W,fM.Pow W→whole.Er W→Calls Tryz.prog 22 #[.agg #[.int .i64 b1,.int .i64 b2,.int .i64 b3,.int .i64 b4,.int .i64 b5,.int .i64 b6]] W (fun e w'=>e= .returned (.tuple #[.agg #[.int .i64 0,.int .i64 0],.agg #[.int .i64 0,.int .i64 0,.int .i64 0,.int .i64 0],.int .i64 7])∧Below W.heap.size W w')))
  (w:World) (ht:fM.Pow w) (he:whole.Er w) :
  Calls Tryz.prog 6 #[.agg #[.int .u16 L,.int .i16 A,.int .i16 B,.int .u32 m1,.int .u32 m2,.int .u32 m3]] w (fun e w'=>e= .returned (.bool true)∧Below w.heap.size w w'):=by
 refine Fx.door Tryz.func6 rfl (.nil w []) ?_;refine Fx.new [] 1 #[.int .u16 L,.int .i16 A,.int .i16 B,.int .u32 m1,.int .u32 m2,.int .u32 m3] 64 [] [] fun fF=>?_;refine Fx.call [] 20 [] [] (fun W M=>FH _ (ht.later M.below) (he.later M.below)) ?_;refine Fx.call [2,3] 23 [] [] (fun W M=>V.out _ (ht.later M.below) (he.later M.below)) ?_;refine Fx.aP [] 3 42 [] [] fun dZ=>?_;refine Fx.call [4,4] 26 [] [(1,#[.int .i64 b1,.int .i64 b2,.int .i64 b3,.int .i64 b4,.int .i64 b5,.int .i64 b6])] (fun W M=>P.out _ (ht.later M.below) (he.later M.below)) ?_;refine Fx.aP [] 4 40 [(27,.agg #[.int .i64 0,.int .i64 0]),(28,.agg #[.int .i64 0,.int .i64 0,.int .i64 0,.int .i64 0]),(29,.int .i64 7)] [] fun gP=>?_;refine Fx.aP [] 5 70 [] [] fun AV=>?_;exact Fx.yQ [5,6,1] [(2,#[.int .i64 0,.int .i64 0]),(3,#[.int .i64 0,.int .i64 0,.int .i64 0,.int .i64 0])] (fun W M=>⟨rfl,M.below⟩)
theorem hues_zero {L A B m1 m2 m3 b1 b2:Int}
  (V:Hd (∀ W,fM.Pow W→whole.Er W→Calls Tryz.prog 20 #[.agg #[.int .u16 L,.int .i16 A,.int .i16 B,.int .u32 m1,.int .u32 m2,.int .u32 m3]] W (fun e w'=>e= .returned (.agg #[.int .i64 b1,.int .i64 b2,.int .i64 0,.int .i64 0,.int .i64 0,.int .i64 0])∧Below W.heap.size W w')))
  (P:Hd (∀ W,fM.Pow W→whole.Er W→Calls Tryz.prog 22 #[.agg #[.int .i64 b1,.int .i64 b2,.int .i64 0,.int .i64 0,.int .i64 0,.int .i64 0]] W (fun e w'=>e= .returned (.tuple #[.agg #[.int .i64 0,.int .i64 0],.agg #[.int .i64 1000000000000,.int .i64 1000000000000,.int .i64 0,.int .i64 0],.int .i64 0])∧Below W.heap.size W w')))
  (S1:Hd (∀ W,fM.Pow W→whole.Er W→Calls Tryz.prog 29 #[.agg #[.int .i64 1000000000000,.int .i64 1000000000000]] W (fun e w'=>e= .returned (.tuple #[.agg #[.int .i64 1000000000000,.int .i64 1000000000000],.int .i64 0])∧Below W.heap.size W w')))
  (S2:Hd (∀ W,fM.Pow W→whole.Er W→Calls Tryz.prog 29 #[.agg #[.int .i64 0,.int .i64 0]] W (fun e w'=>e= .returned (.tuple #[.agg #[.int .i64 0,.int .i64 0],.int .i64 0])∧Below W.heap.size W w')))
  (AD:Hd (∀ W,fM.Pow W→whole.Er W→Calls Tryz.prog 30 #[.agg #[.int .i64 1000000000000,.int .i64 1000000000000],.agg #[.int .i64 0,.int .i64 0]] W (fun e w'=>e= .returned (.tuple #[.agg #[.int .i64 1000000000000,.int .i64 1000000000000],.int .i64 0])∧Below W.heap.size W w')))
  (M1:Hd (∀ W,fM.Pow W→whole.Er W→Calls Tryz.prog 31 #[.agg #[.int .i64 0,.int .i64 0],.agg #[.int .i64 1000000000000,.int .i64 1000000000000]] W (fun e w'=>e= .returned (.tuple #[.agg #[.int .i64 0,.int .i64 0],.int .i64 0])∧Below W.heap.size W w')))
  (M2:Hd (∀ W,fM.Pow W→whole.Er W→Calls Tryz.prog 31 #[.agg #[.int .i64 0,.int .i64 0],.agg #[.int .i64 0,.int .i64 0]] W (fun e w'=>e= .returned (.tuple #[.agg #[.int .i64 0,.int .i64 0],.int .i64 0])∧Below W.heap.size W w')))
  (w:World) (ht:fM.Pow w) (he:whole.Er w) :
  Calls Tryz.prog 6 #[.agg #[.int .u16 L,.int .i16 A,.int .i16 B,.int .u32 m1,.int .u32 m2,.int .u32 m3]] w (fun e w'=>e= .returned (.bool true)∧Below w.heap.size w w'):=by
 refine Fx.door Tryz.func6 rfl (.nil w []) ?_;refine Fx.new [] 1 #[.int .u16 L,.int .i16 A,.int .i16 B,.int .u32 m1,.int .u32 m2,.int .u32 m3] 64 [] [] fun fF=>?_;refine Fx.call [] 20 [] [] (fun W M=>FH _ (ht.later M.below) (he.later M.below)) ?_;refine Fx.call [2,3] 23 [] [] (fun W M=>V.out _ (ht.later M.below) (he.later M.below)) ?_;refine Fx.aP [] 3 42 [] [] fun dZ=>?_;refine Fx.call [4,4] 26 [] [(1,#[.int .i64 b1,.int .i64 b2,.int .i64 0,.int .i64 0,.int .i64 0,.int .i64 0])] (fun W M=>P.out _ (ht.later M.below) (he.later M.below)) ?_;refine Fx.aP [] 4 40 [(27,.agg #[.int .i64 0,.int .i64 0]),(28,.agg #[.int .i64 1000000000000,.int .i64 1000000000000,.int .i64 0,.int .i64 0]),(29,.int .i64 0)] [] fun gP=>?_;refine Fx.aP [] 5 70 [] [] fun AV=>?_
 refine Fx.call [5,6,2,6] 37 [] [(2,#[.int .i64 0,.int .i64 0]),(3,#[.int .i64 1000000000000,.int .i64 1000000000000,.int .i64 0,.int .i64 0])] (fun W M=>S1.out _ (ht.later M.below) (he.later M.below)) ?_;refine Fx.aP [] 7 40 [(38,.agg #[.int .i64 1000000000000,.int .i64 1000000000000]),(39,.int .i64 0)] [] fun bz5=>?_;refine Fx.call [7,6] 43 [(8,.int .i64 0)] [(4,#[.int .i64 1000000000000,.int .i64 1000000000000])] (fun W M=>S2.out _ (ht.later M.below) (he.later M.below)) ?_;refine Fx.aP [] 9 40 [(44,.agg #[.int .i64 0,.int .i64 0]),(45,.int .i64 0)] [] fun bz6=>?_;refine Fx.call [8,7,8] 49 [(10,.int .i64 0)] [(5,#[.int .i64 0,.int .i64 0])] (fun W M=>AD.out _ (ht.later M.below) (he.later M.below)) ?_;refine Fx.aP [] 11 40 [(50,.agg #[.int .i64 1000000000000,.int .i64 1000000000000]),(51,.int .i64 0)] [] fun bz7=>?_
 refine Fx.draw [9,9,9,2,1] [0,1,2,3,4,5,6,7,8,9,5010] [] [(72,.int .i64 0),(13,.int .i64 0)] [(6,#[.int .i64 1000000000000,.int .i64 1000000000000])] ?_;refine Fx.call [5,6] 80 [] [] (fun W M=>M1.out _ (ht.later M.below) (he.later M.below)) ?_;refine Fx.mI [] 14 40 [(81,.agg #[.int .i64 0,.int .i64 0]),(82,.int .i64 0)] [] fun bz8=>?_;refine Fx.draw [10] (List.range 22) [] [(15,.int .i64 0)] [(7,#[.int .i64 0,.int .i64 0])] ?_;refine Fx.draw [10,4,10,4,2,1] [0,1,2,3,4,5,6,7,8,9,5010] [] [(72,.int .i64 1),(13,.int .i64 1)] [] ?_;refine Fx.call [5,6] 80 [] [] (fun W M=>M2.out _ (ht.later M.below) (he.later M.below)) ?_;refine Fx.mI [] 14 40 [(81,.agg #[.int .i64 0,.int .i64 0]),(82,.int .i64 0)] [] fun bz9=>?_;refine Fx.draw [11] (List.range 22) [] [(15,.int .i64 0)] [(8,#[.int .i64 0,.int .i64 0])] ?_
 refine Fx.aP [11,4,11,4,2,2,4,4,4,4,4] 16 42 [(72,.int .i64 2),(126,.agg #[.int .i64 b1,.int .i64 b2,.int .i64 0,.int .i64 0,.int .i64 0,.int .i64 0])] [] fun aB8=>?_;refine Fx.call [12,12] 129 [] [(9,#[.int .i64 b1,.int .i64 b2,.int .i64 0,.int .i64 0,.int .i64 0,.int .i64 0])] (fun W M=>P.out _ (ht.later M.below) (he.later M.below)) ?_;refine Fx.aP [] 17 40 [(130,.agg #[.int .i64 0,.int .i64 0]),(131,.agg #[.int .i64 1000000000000,.int .i64 1000000000000,.int .i64 0,.int .i64 0]),(132,.int .i64 0)] [] fun bf1=>?_;refine Fx.aP [] 18 70 [] [] fun aB7=>?_;refine Fx.aP [13,14] 19 40 [(6,.int .i64 0),(133,.agg #[.int .i64 0,.int .i64 0])] [(10,#[.int .i64 0,.int .i64 0]),(11,#[.int .i64 1000000000000,.int .i64 1000000000000,.int .i64 0,.int .i64 0])] fun bp0=>?_;exact Fx.yQ [15,4,15,4,15,1,13,5,14,6] [(12,#[.int .i64 0,.int .i64 0])] (fun W M=>⟨rfl,M.below⟩)
theorem hues_main {L A B m1 m2 m3 b1 b2 b3 b4 b5 b6 c1 c2 p1 p2 q1 q2 x1 x2 y1 y2 s1 s2 u1 u2 v1 v2:Int}
  (V:Hd (∀ W,fM.Pow W→whole.Er W→Calls Tryz.prog 20 #[.agg #[.int .u16 L,.int .i16 A,.int .i16 B,.int .u32 m1,.int .u32 m2,.int .u32 m3]] W (fun e w'=>e= .returned (.agg #[.int .i64 b1,.int .i64 b2,.int .i64 b3,.int .i64 b4,.int .i64 b5,.int .i64 b6])∧Below W.heap.size W w')))
  (P:Hd (∀ W,fM.Pow W→whole.Er W→Calls Tryz.prog 22 #[.agg #[.int .i64 b1,.int .i64 b2,.int .i64 b3,.int .i64 b4,.int .i64 b5,.int .i64 b6]] W (fun e w'=>e= .returned (.tuple #[.agg #[.int .i64 c1,.int .i64 c2],.agg #[.int .i64 p1,.int .i64 p2,.int .i64 q1,.int .i64 q2],.int .i64 0])∧Below W.heap.size W w')))
  (S1:Hd (∀ W,fM.Pow W→whole.Er W→Calls Tryz.prog 29 #[.agg #[.int .i64 p1,.int .i64 p2]] W (fun e w'=>e= .returned (.tuple #[.agg #[.int .i64 x1,.int .i64 x2],.int .i64 0])∧Below W.heap.size W w')))
  (S2:Hd (∀ W,fM.Pow W→whole.Er W→Calls Tryz.prog 29 #[.agg #[.int .i64 q1,.int .i64 q2]] W (fun e w'=>e= .returned (.tuple #[.agg #[.int .i64 y1,.int .i64 y2],.int .i64 0])∧Below W.heap.size W w')))
  (AD:Hd (∀ W,fM.Pow W→whole.Er W→Calls Tryz.prog 30 #[.agg #[.int .i64 x1,.int .i64 x2],.agg #[.int .i64 y1,.int .i64 y2]] W (fun e w'=>e= .returned (.tuple #[.agg #[.int .i64 s1,.int .i64 s2],.int .i64 0])∧Below W.heap.size W w')))
  (M1:Hd (∀ W,fM.Pow W→whole.Er W→Calls Tryz.prog 31 #[.agg #[.int .i64 c1,.int .i64 c2],.agg #[.int .i64 p1,.int .i64 p2]] W (fun e w'=>e= .returned (.tuple #[.agg #[.int .i64 u1,.int .i64 u2],.int .i64 0])∧Below W.heap.size W w')))
  (M2:Hd (∀ W,fM.Pow W→whole.Er W→Calls Tryz.prog 31 #[.agg #[.int .i64 c1,.int .i64 c2],.agg #[.int .i64 q1,.int .i64 q2]] W (fun e w'=>e= .returned (.tuple #[.agg #[.int .i64 v1,.int .i64 v2],.int .i64 0])∧Below W.heap.size W w')))
  (P2:Hd (∀ W,fM.Pow W→whole.Er W→Calls Tryz.prog 22 #[.agg #[.int .i64 b1,.int .i64 b2,.int .i64 (-b4),.int .i64 (-b3),.int .i64 (-b6),.int .i64 (-b5)]] W (fun e w'=>e= .returned (.tuple #[.agg #[.int .i64 c1,.int .i64 c2],.agg #[.int .i64 (-p2),.int .i64 (-p1),.int .i64 (-q2),.int .i64 (-q1)],.int .i64 0])∧Below W.heap.size W w')))
  (h1:¬ 1000000000000<s1)
  (h2:¬ s2<1000000000000)
  (h3:¬ b3<u1)
  (h4:¬ u2<b4)
  (h5:¬ b5<v1)
  (h6:¬ v2<b6)
  (r1: -1000000000000000≤b3∧b3≤1000000000000000∧ -1000000000000000≤b4∧b4≤1000000000000000∧ -1000000000000000≤b5∧b5≤1000000000000000∧ -1000000000000000≤b6∧b6≤1000000000000000∧ -1000000000000000≤p1∧p1≤1000000000000000∧ -1000000000000000≤p2∧p2≤1000000000000000∧ -1000000000000000≤q1∧q1≤1000000000000000∧ -1000000000000000≤q2∧q2≤1000000000000000)
  {f1:Bool} (EA:∀ W,(Op.equalIn 10000 40 (.agg #[.int .i64 b3,.int .i64 b4]) (.agg #[.int .i64 0,.int .i64 0])).run Tryz.prog W= .ok f1 W)
  (EB:f1=true→∀ W,(Op.equalIn 10000 40 (.agg #[.int .i64 b5,.int .i64 b6]) (.agg #[.int .i64 0,.int .i64 0])).run Tryz.prog W= .ok false W)
  (w:World) (ht:fM.Pow w) (he:whole.Er w) :
  Calls Tryz.prog 6 #[.agg #[.int .u16 L,.int .i16 A,.int .i16 B,.int .u32 m1,.int .u32 m2,.int .u32 m3]] w (fun e w'=>e= .returned (.bool true)∧Below w.heap.size w w'):=by
 obtain ⟨r1,r2,r3,r4,r5,r6,r7,r8,r9,r10,r11,r12,r13,r14,r15,r16⟩:=r1;refine Fx.door Tryz.func6 rfl (.nil w []) ?_;refine Fx.new [] 1 #[.int .u16 L,.int .i16 A,.int .i16 B,.int .u32 m1,.int .u32 m2,.int .u32 m3] 64 [] [] fun fF=>?_;refine Fx.call [] 20 [] [] (fun W M=>FH _ (ht.later M.below) (he.later M.below)) ?_;refine Fx.call [2,3] 23 [] [] (fun W M=>V.out _ (ht.later M.below) (he.later M.below)) ?_;refine Fx.aP [] 3 42 [] [] fun dZ=>?_;refine Fx.call [4,4] 26 [] [(1,#[.int .i64 b1,.int .i64 b2,.int .i64 b3,.int .i64 b4,.int .i64 b5,.int .i64 b6])] (fun W M=>P.out _ (ht.later M.below) (he.later M.below)) ?_;refine Fx.aP [] 4 40 [(27,.agg #[.int .i64 c1,.int .i64 c2]),(28,.agg #[.int .i64 p1,.int .i64 p2,.int .i64 q1,.int .i64 q2]),(29,.int .i64 0)] [] fun gP=>?_;refine Fx.aP [] 5 70 [] [] fun AV=>?_
 refine Fx.call [5,6,2,6] 37 [] [(2,#[.int .i64 c1,.int .i64 c2]),(3,#[.int .i64 p1,.int .i64 p2,.int .i64 q1,.int .i64 q2])] (fun W M=>S1.out _ (ht.later M.below) (he.later M.below)) ?_;refine Fx.aP [] 7 40 [(38,.agg #[.int .i64 x1,.int .i64 x2]),(39,.int .i64 0)] [] fun bz5=>?_;refine Fx.call [7,6] 43 [(8,.int .i64 0)] [(4,#[.int .i64 x1,.int .i64 x2])] (fun W M=>S2.out _ (ht.later M.below) (he.later M.below)) ?_;refine Fx.aP [] 9 40 [(44,.agg #[.int .i64 y1,.int .i64 y2]),(45,.int .i64 0)] [] fun bz6=>?_;refine Fx.call [8,7,8] 49 [(10,.int .i64 0)] [(5,#[.int .i64 y1,.int .i64 y2])] (fun W M=>AD.out _ (ht.later M.below) (he.later M.below)) ?_;refine Fx.aP [] 11 40 [(50,.agg #[.int .i64 s1,.int .i64 s2]),(51,.int .i64 0)] [] fun bz7=>?_;refine Fx.part 21 [9,9] [(65,.bool (decide (1000000000000<s1))),(62,.bool false)] [(6,#[.int .i64 s1,.int .i64 s2])] ?_
 refine Fx.jO false (decide_eq_false h1) ?_;refine Fx.part 5 [9] [(70,.bool (decide (s2<1000000000000))),(67,.bool false)] [] ?_;refine Fx.jO false (decide_eq_false h2) ?_;refine Fx.draw [2,1] [0,1,2,3,4,5,6,7,8,9,5010] [] [(72,.int .i64 0),(13,.int .i64 0)] [] ?_;refine Fx.call [5,6] 80 [] [] (fun W M=>M1.out _ (ht.later M.below) (he.later M.below)) ?_;refine Fx.mI [] 14 40 [(81,.agg #[.int .i64 u1,.int .i64 u2]),(82,.int .i64 0)] [] fun bz8=>?_;refine Fx.draw [10] (List.range 22) [] [(15,.int .i64 0)] [(7,#[.int .i64 u1,.int .i64 u2])] ?_;refine Fx.part 11 [10,4] [(93,.bool (decide (b3<u1))),(85,.bool false)] [] ?_;refine Fx.jO false (decide_eq_false h3) ?_;refine Fx.part 10 [10,4] [(103,.bool (decide (u2<b4))),(95,.bool false)] [] ?_;refine Fx.jO false (decide_eq_false h4) ?_;refine Fx.draw [2,1] [0,1,2,3,4,5,6,7,8,9,5010] [] [(72,.int .i64 1),(13,.int .i64 1)] [] ?_
 refine Fx.call [5,6] 80 [] [] (fun W M=>M2.out _ (ht.later M.below) (he.later M.below)) ?_;refine Fx.mI [] 14 40 [(81,.agg #[.int .i64 v1,.int .i64 v2]),(82,.int .i64 0)] [] fun bz9=>?_;refine Fx.draw [11] (List.range 22) [] [(15,.int .i64 0)] [(8,#[.int .i64 v1,.int .i64 v2])] ?_;refine Fx.part 11 [11,4] [(93,.bool (decide (b5<v1))),(85,.bool false)] [] ?_;refine Fx.jO false (decide_eq_false h5) ?_;refine Fx.part 10 [11,4] [(103,.bool (decide (v2<b6))),(95,.bool false)] [] ?_;refine Fx.jO false (decide_eq_false h6) ?_;refine Fx.part 32 [2,2,4,4] [(111,.int .i64 (IntKind.i64.wrap (0 - b4))),(72,.int .i64 2),(107,.agg #[.int .i64 b1,.int .i64 b2])] [] ?_;refine Fx.av3 (.int .i64 (-b4)) (by rw [Int.zero_sub];exact Fx.wrap_i64 zo zo) ?_;refine Fx.part 4 [4] [(115,.int .i64 (IntKind.i64.wrap (0 - b3)))] [] ?_
 refine Fx.av3 (.int .i64 (-b3)) (by rw [Int.zero_sub];exact Fx.wrap_i64 zo zo) ?_;refine Fx.part 5 [4] [(120,.int .i64 (IntKind.i64.wrap (0 - b6))),(116,.agg #[.int .i64 (-b4),.int .i64 (-b3)])] [] ?_;refine Fx.av3 (.int .i64 (-b6)) (by rw [Int.zero_sub];exact Fx.wrap_i64 zo zo) ?_;refine Fx.part 4 [4] [(124,.int .i64 (IntKind.i64.wrap (0 - b5)))] [] ?_;refine Fx.av3 (.int .i64 (-b5)) (by rw [Int.zero_sub];exact Fx.wrap_i64 zo zo) ?_;refine Fx.aP [] 16 42 [(126,.agg #[.int .i64 b1,.int .i64 b2,.int .i64 (-b4),.int .i64 (-b3),.int .i64 (-b6),.int .i64 (-b5)])] [] fun aB8=>?_;refine Fx.call [12,12] 129 [] [(9,#[.int .i64 b1,.int .i64 b2,.int .i64 (-b4),.int .i64 (-b3),.int .i64 (-b6),.int .i64 (-b5)])] (fun W M=>P2.out _ (ht.later M.below) (he.later M.below)) ?_
 refine Fx.aP [] 17 40 [(130,.agg #[.int .i64 c1,.int .i64 c2]),(131,.agg #[.int .i64 (-p2),.int .i64 (-p1),.int .i64 (-q2),.int .i64 (-q1)]),(132,.int .i64 0)] [] fun bf1=>?_;refine Fx.aP [] 18 70 [] [] fun aB7=>?_;refine Fx.aP [13,14] 19 40 [(6,.int .i64 0),(133,.agg #[.int .i64 0,.int .i64 0])] [(10,#[.int .i64 c1,.int .i64 c2]),(11,#[.int .i64 (-p2),.int .i64 (-p1),.int .i64 (-q2),.int .i64 (-q1)])] fun bp0=>?_;cases f1
 ·skip
  refine Fx.eql 9 [15,4,15] 137 true false 40 (.agg #[.int .i64 b3,.int .i64 b4]) (.agg #[.int .i64 0,.int .i64 0]) [] [(12,#[.int .i64 0,.int .i64 0])] (EA) ?_;refine Fx.eql 18 [0,0,2,13,5] 161 true true 40 (.agg #[.int .i64 c1,.int .i64 c2]) (.agg #[.int .i64 c1,.int .i64 c2]) [(158,.bool true)] [] (fun _=>eqB_same _ _ _) ?_;refine Fx.part 8 [14,6] [(169,.int .i64 (IntKind.i64.wrap (0 - p2))),(163,.bool true),(165,.agg #[.int .i64 (-p2),.int .i64 (-p1)])] [] ?_;refine Fx.av3 (.int .i64 (-p2)) (by rw [Int.zero_sub];exact Fx.wrap_i64 zo zo) ?_;refine Fx.part 4 [6] [(173,.int .i64 (IntKind.i64.wrap (0 - p1)))] [] ?_;refine Fx.av3 (.int .i64 (-p1)) (by rw [Int.zero_sub];exact Fx.wrap_i64 zo zo) ?_;refine Fx.eql 1 [] 175 true true 40 (.agg #[.int .i64 (-p2),.int .i64 (-p1)]) (.agg #[.int .i64 (-p2),.int .i64 (-p1)]) [] [] (fun _=>eqB_same _ _ _) ?_
  refine Fx.part 8 [14,6] [(183,.int .i64 (IntKind.i64.wrap (0 - q2))),(177,.bool true),(179,.agg #[.int .i64 (-q2),.int .i64 (-q1)])] [] ?_;refine Fx.av3 (.int .i64 (-q2)) (by rw [Int.zero_sub];exact Fx.wrap_i64 zo zo) ?_;refine Fx.part 4 [6] [(187,.int .i64 (IntKind.i64.wrap (0 - q1)))] [] ?_;refine Fx.av3 (.int .i64 (-q1)) (by rw [Int.zero_sub];exact Fx.wrap_i64 zo zo) ?_;refine Fx.eql 1 [] 189 true true 40 (.agg #[.int .i64 (-q2),.int .i64 (-q1)]) (.agg #[.int .i64 (-q2),.int .i64 (-q1)]) [] [] (fun _=>eqB_same _ _ _) ?_;exact Fx.yQ [] [] (fun W M=>⟨rfl,M.below⟩)
 ·skip
  refine Fx.eql 9 [15,4,15] 137 true true 40 (.agg #[.int .i64 b3,.int .i64 b4]) (.agg #[.int .i64 0,.int .i64 0]) [] [(12,#[.int .i64 0,.int .i64 0])] (EA) ?_;refine Fx.eql 4 [4,15] 142 true false 40 (.agg #[.int .i64 b5,.int .i64 b6]) (.agg #[.int .i64 0,.int .i64 0]) [(138,.bool true)] [] (EB rfl) ?_;refine Fx.eql 13 [2,13,5] 161 true true 40 (.agg #[.int .i64 c1,.int .i64 c2]) (.agg #[.int .i64 c1,.int .i64 c2]) [(158,.bool true)] [] (fun _=>eqB_same _ _ _) ?_;refine Fx.part 8 [14,6] [(169,.int .i64 (IntKind.i64.wrap (0 - p2))),(163,.bool true),(165,.agg #[.int .i64 (-p2),.int .i64 (-p1)])] [] ?_;refine Fx.av3 (.int .i64 (-p2)) (by rw [Int.zero_sub];exact Fx.wrap_i64 zo zo) ?_;refine Fx.part 4 [6] [(173,.int .i64 (IntKind.i64.wrap (0 - p1)))] [] ?_;refine Fx.av3 (.int .i64 (-p1)) (by rw [Int.zero_sub];exact Fx.wrap_i64 zo zo) ?_
  refine Fx.eql 1 [] 175 true true 40 (.agg #[.int .i64 (-p2),.int .i64 (-p1)]) (.agg #[.int .i64 (-p2),.int .i64 (-p1)]) [] [] (fun _=>eqB_same _ _ _) ?_;refine Fx.part 8 [14,6] [(183,.int .i64 (IntKind.i64.wrap (0 - q2))),(177,.bool true),(179,.agg #[.int .i64 (-q2),.int .i64 (-q1)])] [] ?_;refine Fx.av3 (.int .i64 (-q2)) (by rw [Int.zero_sub];exact Fx.wrap_i64 zo zo) ?_;refine Fx.part 4 [6] [(187,.int .i64 (IntKind.i64.wrap (0 - q1)))] [] ?_;refine Fx.av3 (.int .i64 (-q1)) (by rw [Int.zero_sub];exact Fx.wrap_i64 zo zo) ?_;refine Fx.eql 1 [] 189 true true 40 (.agg #[.int .i64 (-q2),.int .i64 (-q1)]) (.agg #[.int .i64 (-q2),.int .i64 (-q1)]) [] [] (fun _=>eqB_same _ _ _) ?_;exact Fx.yQ [] [] (fun W M=>⟨rfl,M.below⟩)
end Go.Proofs.verdigrislaw24
namespace Go.Proofs.verdigrislaw24
open Go Go.RowKit Go.SW Go.Num Go.Mem Go.Proofs Go.Dec Go.eF Go.Proofs.lab Go.Proofs.aY Go.Proofs.aL Go.Proofs.matrix Go.Proofs.bH
theorem labHues_ok (L A B m1 m2 m3:Int) (hL:0≤L∧L≤65535) (hA: -32768≤A∧A≤32767) (hB: -32768≤B∧B≤32767) (h1:0≤m1∧m1≤4294967295) (h2:0≤m2∧m2≤4294967295) (h3:0≤m3∧m3≤4294967295) (w:World) (ht:fM.Pow w) (he:whole.Er w) :
  Calls Tryz.prog 6 #[.agg #[.int .u16 L,.int .i16 A,.int .i16 B,.int .u32 m1,.int .u32 m2,.int .u32 m3]] w (fun e w'=>e= .returned (.bool true)∧Below w.heap.size w w'):=by
 obtain ⟨n1,n2,n3,k1,k2,k3,R⟩:=Trib_ok L A B m1 m2 m3 hL hA hB h1 h2 h3;have w1:=wd_at k1 h1.1 h1.2;have w2:=wd_at k2 h2.1 h2.2;have w3:=wd_at k3 h3.1 h3.2;generalize wA n1 m1=l at *;generalize wA n2 m2=a at *;generalize wA n3 m3=b at *;obtain ⟨l1,l2⟩:=l;obtain ⟨a1,a2⟩:=a;obtain ⟨b1,b2⟩:=b
 rcases hues w1.ok w2 w3 with e|⟨⟨z1,z2⟩,e⟩|⟨hz,⟨c1,c2⟩,⟨p1,p2⟩,⟨q1,q2⟩,⟨x1,x2⟩,⟨y1,y2⟩,⟨s1,s2⟩,⟨u1,u2⟩,⟨v1,v2⟩,e,e',⟨i,hp⟩,⟨j,hq⟩,ex,ey,es,g1,g2,em,g3,g4,en,g5,g6⟩
 ·exact hues_err (b1:=l1) (b2:=l2) (b3:=a1) (b4:=a2) (b5:=b1) (b6:=b2) (hd fun W _ _=>R W) (hd fun W ht he=>Qe e W ht he) w ht he
 ·simp only [Prod.mk.injEq] at z1 z2;obtain ⟨rfl,rfl⟩:=z1;obtain ⟨rfl,rfl⟩:=z2
  exact hues_zero (hd fun W _ _=>R W) (hd fun W ht he=>Qe e W ht he (fun h=>absurd rfl h)) (hd fun W _ _=>cBSqr (by decide+kernel) W) (hd fun W _ _=>cBSqr (by decide+kernel) W)
   (hd fun W _ _=>aF9 (by decide+kernel) W) (hd fun W _ _=>ap4 (by decide+kernel) W) (hd fun W _ _=>ap4 (by decide+kernel) W) w ht he
 ·have t1:=hp.le;have t2:=hp.2.2;have t3:=hq.le;have t4:=hq.2.2;have t5:=w2.le;have t6:=w2.lo;have t7:=w2.hi;have t8:=w3.le;have t9:=w3.lo;have t10:=w3.hi;simp only at t1 t2 t3 t4 t5 t6 t7 t8 t9 t10 g1 g2 g3 g4 g5 g6
  exact hues_main (b1:=l1) (b2:=l2) (b3:=a1) (b4:=a2) (b5:=b1) (b6:=b2) (c1:=c1) (c2:=c2) (p1:=p1) (p2:=p2) (q1:=q1) (q2:=q2) (hd fun W _ _=>R W) (hd fun W ht he=>Qe e W ht he (fun h=>absurd rfl h)) (hd fun W _ _=>cBSqr ex W) (hd fun W _ _=>cBSqr ey W) (hd fun W _ _=>aF9 es W) (hd fun W _ _=>ap4 em W) (hd fun W _ _=>ap4 en W)
   (hd fun W ht he=>Qe e' W ht he (fun h=>absurd rfl h)) zo zo zo zo zo zo zo
   (fun W=>Xj a1 a2 0 0 W) (fun h W=>by
    rw [Xj]
    congr 1
    rw [beq_at] at h ⊢;exact decide_eq_false fun h2=>hz ⟨of_decide_eq_true h,h2⟩) w ht he
end Go.Proofs.verdigrislaw24
namespace Go.Proofs.YtneajphgfdlmhaaGreatDoor
open Go Go.ChangeShapes Go.WideShapes Go.RowKit Go.Proofs
theorem list6 {α:Type} {l:List α} (h:l.length=6):∃ x0 x1 x2 x3 x4 x5,l=[x0,x1,x2,x3,x4,x5]:=by
 match l,h with
 | [x0,x1,x2,x3,x4,x5],_=>exact ⟨x0,x1,x2,x3,x4,x5,rfl⟩
theorem has_u32 {n:Int} (h:IntKind.u32.has n):0≤n∧n≤4294967295:=by
 simpa [IntKind.has,IntKind.min,IntKind.max,IntKind.signed,IntKind.bits] using h
end Go.Proofs.YtneajphgfdlmhaaGreatDoor
