/- Lemmas for the proof. No condition. -/
import Derived.Test.YtbngfhgoeoncmaaGreatDoorTB38
set_option linter.unusedVariables false
set_option linter.unusedSimpArgs false
set_option maxRecDepth 100000
set_option maxHeartbeats 16000000
open Go.Ending renaming returned → ah
open Go.IntKind renaming i64 → I
open Go.Value renaming agg → aB, bool → aC, int → Z, pointer → au, string → O, tuple → aF
namespace Go.Proofs.view
open Go Go.RowKit Go.SW Go.Num Go.Mem Go.Proofs Go.d9 Go.Fx
theorem J2 {p x y k:Int} (hx:bY (Fb p) (x,y) k) (w:World) (ht:iA.Pow w) (he:whole.Er w):Calls Tryz.prog 27 #[Z I p] w (Try w (aB #[Z I x,Z I y]) k):=by
 unfold Fb at hx;refine Fx.door Tryz.func27 rfl (.nil w []) ?_;have HR:=hx;refine Fx.bH [] 2 26 [] [] fun iK=>?_;obtain ⟨⟨x2,y2⟩,k2,EX,HN⟩:=ak HR;refine Fx.call [] 5 [] [] (fun W M=>XJ EX _) ?_;refine Fx.bD dK [] 8 [] [] (fun W M=>gN (x:=x2) (y:=y2) _) HN fun _ HR=>?_;refine Fx.bH [] 3 26 [] [] fun QC=>?_;refine Fx.draw [4] [0,5,1,2,3,4,6,7,8,9,10,11,12,13,14] [] [] [(1,#[Z I x2,Z I y2])] ?_;obtain ⟨⟨x5,y5⟩,k5,EX,HN⟩:=ak HR;refine Fx.call [4,4] 10 [(14,aB #[Z I x2,Z I y2])] [] (fun W M=>Dw EX _) ?_;refine Fx.bD dK [] 13 [] [] (fun W M=>gN (x:=x5) (y:=y5) _) HN fun _ HR=>?_;obtain ⟨⟨s7,t7⟩,_,EX,HN⟩:=ak HR;refine Fx.bD dK [] 15 [] [] (fun W M=>fB (bY.of EX) _ (ht.later M.below)) HN fun _ HR=>?_;obtain ⟨⟨x8,y8⟩,_,EX,HN⟩:=ak HR
 refine Fx.bD dK [] 16 [] [] (fun W M=>lD (bY.of EX) _ (ht.later M.below) (he.later M.below)) HN fun _ HR=>?_;refine Fx.newS [] 17 1 1 #[Z I x8,Z I y8] 26 [] [] fun TQ=>?_;obtain ⟨⟨x10,y10⟩,_,EX,HN⟩:=ak HR;refine Fx.bD dK [] 18 [] [] (fun W M=>N7 (bY.of EX) _ (M.box (b:=TQ) (cs:=#[Z I x8,Z I y8]) 2)) HN fun _ HR=>?_;obtain ⟨⟨Zv,y11⟩,k11,EX,HN⟩:=ak HR;refine Fx.call [] 19 [] [] (fun W M=>ae5 EX _) ?_;refine Fx.bD dK [] 22 [] [] (fun W M=>gN (x:=Zv) (y:=y11) _) HN fun _ HR=>?_;obtain ⟨hk,hv⟩:=HR;cases hk
 exact Fx.mU (cs:=#[Z I Zv,Z I y11]) 0 iK [3] [(0,#[Z I Zv,Z I y11])] (fun W M=>⟨M.below,.inl ⟨rfl,by cases hv rfl;rfl⟩⟩)
theorem Ib {a b c d:Int} {bf bg:Nat} {x y k:Int} (hx:bY (Dt (a,b) (c,d)) (x,y) k) (w:World) (hf:aA w bf #[Z I a,Z I b] 26) (hg:aA w bg #[Z I c,Z I d] 26) (ht:iA.Pow w) (he:whole.Er w) :
  Calls Tryz.prog 20 #[au (some ⟨bf,0,none⟩),au (some ⟨bg,0,none⟩)] w (Try w (aB #[Z I x,Z I y]) k):=by
 unfold Dt at hx;refine Fx.door Tryz.func20 rfl (.ro hf (.ro hg (.nil w []))) ?_;have HR:=hx;refine Fx.bH [] 2 26 [] [] fun iK=>?_;refine Fx.call [3] 5 [] [] (fun W M=>dR.jJ a b _) ?_;obtain ⟨_,k2,EX,HN⟩:=ak HR;refine Fx.bD dK [] 6 [] [] (fun W M=>dF (bY.of EX) _) HN fun h0 HR=>?_;subst h0;refine Fx.call [4] 8 [] [] (fun W M=>dR.jJ c d _) ?_;obtain ⟨_,k3,EX,HN⟩:=ak HR;refine Fx.bD dK [] 9 [] [] (fun W M=>dF (bY.of EX) _) HN fun h0 HR=>?_;subst h0;refine Fx.part 8 [3] [(12,aC (decide (a<0)))] [] ?_;refine Fx.splitB (fun hf1=>?_) (fun hf1=>?_)
 ·skip
  replace HR:=bY.pos HR (of_decide_eq_true hf1);obtain ⟨_,k4,EX,HN⟩:=ak HR;refine Fx.bD dK [0,1] 18 [] [] (fun W M=>dF (bY.of EX) _) HN fun h0 HR=>?_;subst h0;exact absurd (show (2:Int)=0 from congrArg Prod.snd EX) zd
 ·skip
  replace HR:=bY.neg HR (of_decide_eq_false hf1);refine Fx.part 4 [4] [(16,aC (decide (c<0))),(13,aC false)] [] ?_;refine Fx.splitB (fun hf2=>?_) (fun hf2=>?_)
  ·skip
   replace HR:=bY.pos HR (of_decide_eq_true hf2);obtain ⟨_,k5,EX,HN⟩:=ak HR;refine Fx.bD dK [1] 18 [] [] (fun W M=>dF (bY.of EX) _) HN fun h0 HR=>?_;subst h0;exact absurd (show (2:Int)=0 from congrArg Prod.snd EX) zd
  ·skip
   replace HR:=bY.neg HR (of_decide_eq_false hf2);obtain ⟨⟨x6,y6⟩,k6,EX,HN⟩:=ak HR;refine Fx.call [2,3,4] 21 [] [] (fun W M=>KX EX _) ?_;refine Fx.bD dK [] 24 [] [] (fun W M=>gN (x:=x6) (y:=y6) _) HN fun h0 HR=>?_;subst h0;obtain ⟨⟨x8,y8⟩,k8,EX,HN⟩:=ak HR;refine Fx.call [] 25 [] [] (fun W M=>XI EX _ (ht.later M.below) (he.later M.below)) ?_;refine Fx.bD dK [] 28 [] [] (fun W M=>gN (x:=x8) (y:=y8) _) HN fun h0 HR=>?_;subst h0;refine Fx.bH [] 3 26 [] [] fun TV=>?_;refine Fx.draw [6] [0,1,4,5,2,3,6,7,8,9,10,11,12] [] [] [(3,#[Z I x8,Z I y8])] ?_;obtain ⟨⟨Zv,y11⟩,k11,EX,HN⟩:=ak HR;refine Fx.bD dK [6,6] 31 [(34,Z I y8)] [] (fun W M=>J2 (bY.of EX) _ (ht.later M.below) (he.later M.below)) HN fun h0 HR=>?_;subst h0;obtain ⟨⟨x12,y12⟩,k12,EX,HN⟩:=ak HR
   refine Fx.bD dK [] 35 [(32,Z I Zv)] [] (fun W M=>J2 (bY.of EX) _ (ht.later M.below) (he.later M.below)) HN fun h0 HR=>?_;subst h0;obtain ⟨⟨JJ,y13⟩,k13,EX,HN⟩:=ak HR;refine Fx.call [] 37 [] [] (fun W M=>an6 EX _) ?_;refine Fx.bD dK [] 40 [] [] (fun W M=>gN (x:=JJ) (y:=y13) _) HN fun h0 HR=>?_;subst h0;obtain ⟨hk,hv⟩:=HR;cases hk
   exact Fx.mU (cs:=#[Z I JJ,Z I y13]) 2 iK [5] [(2,#[Z I JJ,Z I y13])] (fun W M=>⟨M.below,.inl ⟨rfl,by cases hv rfl;rfl⟩⟩)
theorem ac4 {f:FuncId} {args:Array Value} {w:World} {r:(Int × Int) × Int} {x y k:Int} (C:Calls Tryz.prog f args w (JE w (aB #[Z I r.1.1,Z I r.1.2]) (aB #[Z I 0,Z I 0]) r.2)) (h:cl (0,0) r=((x,y),k)) :
  Calls Tryz.prog f args w (fun e w'=>e= ah (aF #[aB #[Z I x,Z I y],Z I k])∧Below w.heap.size w w'):=C.mono fun _ _ ⟨hb,hh⟩=>by
 unfold cl at h
 rcases hh with ⟨h1,rfl⟩|⟨h1,rfl⟩
 ·rw [if_pos h1] at h;obtain ⟨⟨r1,r2⟩,r3⟩:=r;cases h
  cases h1
  exact ⟨rfl,hb⟩
 ·rw [if_neg h1] at h;cases h
  exact ⟨rfl,hb⟩
theorem fH {a b c d x y k:Int} (hx:xP (a,b) (c,d)=((x,y),k)) (w:World) (ht:iA.Pow w) (he:whole.Er w) :
  Calls Tryz.prog 9 #[aB #[Z I a,Z I b],aB #[Z I c,Z I d]] w (fun e w'=>e= ah (aF #[aB #[Z I x,Z I y],Z I k])∧Below w.heap.size w w'):=by
 unfold xP at hx;refine Fx.door Tryz.func9 rfl (.nil w []) ?_;refine Fx.new [] 2 #[Z I a,Z I b] 26 [] [] fun iK=>?_;refine Fx.new [] 3 #[Z I c,Z I d] 26 [] [] fun mM=>?_;refine Fx.bH [] 4 26 [] [] fun qO=>?_;refine Fx.call [] 7 [] [] (fun W M=>ac4 (Ay W (fun V hV=>Ib ⟨rfl,fun _=>rfl⟩ V ((M.box (b:=iK) 0).later hV) ((M.box (b:=mM) 1).later hV) (ht.later (Bt M.below hV)) (he.later (Bt M.below hV))) (fun args W=>by kernel_rfl)) hx) ?_;exact Fx.lN 2 qO [5] [(2,#[Z I x,Z I y])] (fun W M=>⟨rfl,M.below⟩)
theorem Bw {f1 f2 n1 n2 c1 c2 m1 m2 d1 d2 g1 g2 g3 g4 g5 g6:ByteArray} {nu de v1 v2 p1 p2 q1 q2:Int} {r1 r2 s1 s2 t1 t2:Int} {bd br:Nat} {x y k:Int} (hx:bY (X0 (p1,p2) (r1,r2) (s1,s2) (t1,t2)) (x,y) k) (w:World) (hd:aA w bd #[O f1,O f2,O n1,O n2,O c1,O c2,O m1,O m2,O d1,O d2,Z I nu,Z I de,O g1,O g2,O g3,O g4,O g5,O g6,Z I v1,Z I v2,Z I p1,Z I p2,Z I q1,Z I q2] 45) (hr:aA w br #[Z I r1,Z I r2,Z I s1,Z I s2,Z I t1,Z I t2] 57) :
  Calls Tryz.prog 42 #[au (some ⟨bd,0,none⟩),au (some ⟨br,0,none⟩)] w (Try w (aB #[Z I x,Z I y]) k):=by
 unfold X0 at hx;refine Fx.door Tryz.func42 rfl (.ro hd (.ro hr (.nil w []))) ?_;have HR:=hx;refine Fx.bH [] 2 26 [] [] fun iK=>?_;refine Fx.call [3] 8 [] [] (fun W M=>dR.jJ p1 p2 _) ?_;obtain ⟨_,_,EX,HN⟩:=ak HR;refine Fx.bD dK [] 9 [] [] (fun W M=>dF (bY.of EX) _) HN fun _ HR=>?_;refine Fx.call [1,4] 16 [(10,Z I 0)] [] (fun W M=>dR.jJ r1 r2 _) ?_;obtain ⟨_,_,EX,HN⟩:=ak HR;refine Fx.bD dK [] 17 [] [] (fun W M=>dF (bY.of EX) _) HN fun _ HR=>?_;refine Fx.call [1,4] 16 [(10,Z I 1)] [] (fun W M=>dR.jJ s1 s2 _) ?_;obtain ⟨_,_,EX,HN⟩:=ak HR;refine Fx.bD dK [] 17 [] [] (fun W M=>dF (bY.of EX) _) HN fun _ HR=>?_;refine Fx.call [1,4] 16 [(10,Z I 2)] [] (fun W M=>dR.jJ t1 t2 _) ?_;obtain ⟨_,_,EX,HN⟩:=ak HR;refine Fx.bD dK [] 17 [] [] (fun W M=>dF (bY.of EX) _) HN fun _ HR=>?_
 obtain ⟨⟨x6,y6⟩,k6,EX,HN⟩:=ak HR;refine Fx.call [2,4] 21 [(10,Z I 3)] [] (fun W M=>Dw EX _) ?_;refine Fx.bD dK [] 24 [] [] (fun W M=>gN (x:=x6) (y:=y6) _) HN fun _ HR=>?_;refine Fx.bH [] 4 26 [] [] fun YN=>?_;obtain ⟨⟨x9,y9⟩,k9,EX,HN⟩:=ak HR;refine Fx.call [6,4] 27 [] [(3,#[Z I x6,Z I y6])] (fun W M=>Dw EX _) ?_;refine Fx.bD dK [] 30 [] [] (fun W M=>gN (x:=x9) (y:=y9) _) HN fun _ HR=>?_;refine Fx.bH [] 5 26 [] [] fun TU=>?_;refine Fx.draw [7] [0,1,2,3,6,7,4,5,8,9,10,11,12] [] [] [(4,#[Z I x9,Z I y9])] ?_;refine Fx.newS [6,4,7,3] 35 2 2 #[Z I s1,Z I s2,Z I x9,Z I y9] 26 [(31,aB #[Z I x6,Z I y6]),(38,aB #[Z I p1,Z I p2])] [] fun TT=>?_;obtain ⟨⟨JJ,y13⟩,_,EX,HN⟩:=ak HR
 refine Fx.bD dK [] 36 [] [] (fun W M=>VY (bY.of EX) _ (M.box (b:=TT) (cs:=#[Z I s1,Z I s2,Z I x9,Z I y9]) 5)) HN fun _ HR=>?_;obtain ⟨⟨x14,y14⟩,k14,EX,HN⟩:=ak HR;refine Fx.call [] 39 [] [] (fun W M=>KX EX _) ?_;refine Fx.bD dK [] 42 [] [] (fun W M=>gN (x:=x14) (y:=y14) _) HN fun _ HR=>?_;obtain ⟨hk,hv⟩:=HR;cases hk
 exact Fx.mU (cs:=#[Z I x14,Z I y14]) 2 iK [5] [(2,#[Z I x14,Z I y14])] (fun W M=>⟨M.below,.inl ⟨rfl,by cases hv rfl;rfl⟩⟩)
theorem j5 {f1 f2 n1 n2 c1 c2 m1 m2 d1 d2 g1 g2 g3 g4 g5 g6:ByteArray} {nu de v1 v2 p1 p2 q1 q2:Int} {r1 r2 s1 s2 t1 t2 x y k:Int} (hx:Jr (p1,p2) (r1,r2) (s1,s2) (t1,t2)=((x,y),k)) (w:World) :
  Calls Tryz.prog 17 #[aB #[O f1,O f2,O n1,O n2,O c1,O c2,O m1,O m2,O d1,O d2,Z I nu,Z I de,O g1,O g2,O g3,O g4,O g5,O g6,Z I v1,Z I v2,Z I p1,Z I p2,Z I q1,Z I q2],aB #[Z I r1,Z I r2,Z I s1,Z I s2,Z I t1,Z I t2]] w (fun e w'=>e= ah (aF #[aB #[Z I x,Z I y],Z I k])∧Below w.heap.size w w'):=by
 unfold Jr at hx;refine Fx.door Tryz.func17 rfl (.nil w []) ?_;refine Fx.new [] 2 #[O f1,O f2,O n1,O n2,O c1,O c2,O m1,O m2,O d1,O d2,Z I nu,Z I de,O g1,O g2,O g3,O g4,O g5,O g6,Z I v1,Z I v2,Z I p1,Z I p2,Z I q1,Z I q2] 45 [] [] fun iK=>?_;refine Fx.new [] 3 #[Z I r1,Z I r2,Z I s1,Z I s2,Z I t1,Z I t2] 57 [] [] fun mM=>?_;refine Fx.bH [] 4 26 [] [] fun qO=>?_
 refine Fx.call [] 7 [] [] (fun W M=>ac4 (Ay W (fun V hV=>Bw (f1:=f1) (f2:=f2) (n1:=n1) (n2:=n2) (c1:=c1) (c2:=c2) (m1:=m1) (m2:=m2) (d1:=d1) (d2:=d2) (g1:=g1) (g2:=g2) (g3:=g3) (g4:=g4) (g5:=g5) (g6:=g6) (nu:=nu) (de:=de) (v1:=v1) (v2:=v2) (q1:=q1) (q2:=q2) ⟨rfl,fun _=>rfl⟩ V ((M.box (b:=iK) 0).later hV) ((M.box (b:=mM) 1).later hV)) (fun args W=>by kernel_rfl)) hx) ?_;exact Fx.lN 2 qO [5] [(2,#[Z I x,Z I y])] (fun W M=>⟨rfl,M.below⟩)
end Go.Proofs.view
namespace Go.Proofs.view
open Go Go.RowKit Go.Num Go.Mem Go.Proofs Go.d9
theorem JZ {q:Rat} {r:Fr} (h:wr q=(r,0)):rd r=some q:=by
 unfold wr at h;split at h
 ·rename_i hk;rw [← show Fr.of q=r from congrArg Prod.fst h];exact mF hk
 ·exact absurd (show (6:Int)=0 from congrArg Prod.snd h) zd
theorem Om {f:Rat→Rat→Fr × Int} {a b r:Fr} (h:bin f a b=(r,0)):∃ p q,rd a=some p∧rd b=some q∧f p q=(r,0):=by
 unfold bin at h;split at h
 ·rename_i p q h1 h2;exact ⟨p,q,h1,h2,h⟩
 ·exact absurd (show (20:Int)=0 from congrArg Prod.snd h) zd
theorem CK {n d:Int} {r:Fr} (h:oh n d=(r,0)):rd r=some ((n:Rat) / (d:Rat)):=by
 unfold oh at h;split at h
 ·exact absurd (show (7:Int)=0 from congrArg Prod.snd h) zd
 ·exact JZ h
theorem R5 {a b r:Fr} {p q:Rat} (h:uX a b=(r,0)) (ha:rd a=some p) (hb:rd b=some q):rd r=some (p / q):=by
 obtain ⟨p',q',h1,h2,h3⟩:=Om h;rw [ha] at h1;rw [hb] at h2;cases h1
 cases h2
 split at h3
 ·exact absurd (show (7:Int)=0 from congrArg Prod.snd h3) zd
 ·exact JZ h3
theorem Ol {g:Rat→Rat→Rat} {a b r:Fr} {p q:Rat} (h:bin (fun p q=>wr (g p q)) a b=(r,0)) (ha:rd a=some p) (hb:rd b=some q):rd r=some (g p q):=by
 obtain ⟨p',q',h1,h2,h3⟩:=Om h;rw [ha] at h1;rw [hb] at h2;cases h1
 cases h2
 exact JZ h3
theorem R4 {a r:Fr} {n:Nat} {p:Rat} (h:Iz a n=(r,0)) (ha:rd a=some p):rd r=some (p^n):=by
 unfold Iz at h;rw [ha] at h;exact JZ h
theorem UH {la one v five p k:Fr} {q:Rat} (hl:rd la=some q) (E1:oh 1 1=(one,0)) (E2:oh 5 1=(v,0)) (E4:vT v la=(five,0)) (E6:Dz five one=(p,0)) (E8:uX one p=(k,0)):rd k=some (1 / (5*q+1)):=by
 have r1:=CK E1;have r2:=CK E2;have r4:=Ol E4 r2 hl;have r6:=Ol E6 r4 r1;have r8:=R5 E8 r1 r6;have e1:((1:Int):Rat) / ((1:Int):Rat)=1:=by decide+kernel
 have e5:((5:Int):Rat) / ((1:Int):Rat)=5:=by decide+kernel
 rw [e1,e5] at r8;exact r8
theorem zX {q:Rat} (h:1≤q):0≤1 / (5*q+1)∧1 / (5*q+1)≤1:=by
 have h1:(1:Rat)≤5*q+1:=by grind
 have h0:(0:Rat)<5*q+1:=Std.lt_of_lt_of_le (by decide+kernel) h1;have i0:=Rat.le_of_lt (Rat.inv_pos.2 h0);rw [Rat.div_def,Rat.one_mul];refine ⟨i0,?_⟩;have:=dR.WG (show (0:Rat)<1 by decide+kernel) h1;have e:(1:Rat)⁻¹=1:=by decide+kernel
 rw [e] at this;exact this
theorem LV {k:Rat} (h0:0≤k) (h1:k≤1):0≤k^4∧k^4≤1:=by
 have s0:0≤k*k:=Rat.mul_nonneg h0 h0;have s1:k*k≤1:=Rat.le_trans (Rat.mul_le_mul_of_nonneg_left h1 h0) (by grind);have e:k^4=k*k*(k*k):=by grind
 rw [e];exact ⟨Rat.mul_nonneg s0 s0,Rat.le_trans (Rat.mul_le_mul_of_nonneg_left s1 s0) (by grind)⟩
theorem ZR {la one v five p k:Fr} (hl:∃ q,rd la=some q∧1≤q) (E1:oh 1 1=(one,0)) (E2:oh 5 1=(v,0)) (E4:vT v la=(five,0)) (E6:Dz five one=(p,0)) (E8:uX one p=(k,0)):∃ q,rd k=some q∧0≤q:=by
 obtain ⟨q,hq,h1⟩:=hl;exact ⟨_,UH hq E1 E2 E4 E6 E8,(zX h1).1⟩
theorem ZQ {la one v five p k k4 s:Fr} (hl:∃ q,rd la=some q∧1≤q) (E1:oh 1 1=(one,0)) (E2:oh 5 1=(v,0)) (E4:vT v la=(five,0)) (E6:Dz five one=(p,0)) (E8:uX one p=(k,0)) (E10:Iz k 4=(k4,0)) (E14:Im one k4=(s,0)):∃ q,rd s=some q∧0≤q:=by
 obtain ⟨q,hq,h1⟩:=hl;have r:=Ol E14 (CK E1) (R4 E10 (UH hq E1 E2 E4 E6 E8));have e1:((1:Int):Rat) / ((1:Int):Rat)=1:=by decide+kernel
 rw [e1] at r;have:=LV (zX h1).1 (zX h1).2;refine ⟨_,r,?_⟩;have h2:=this.2;generalize (1 / (5*q+1))^4=z at *
 grind
theorem XT {la lo hi:Fr} {b:Bool} (h1:oh 1 1=(lo,0)) (h3:QF la lo hi=(b,0)) (hb:b=true):∃ q,rd la=some q∧1≤q:=by
 unfold QF at h3;obtain ⟨c,hc,h⟩:=fU h3;have r:=CK h1;have e1:((1:Int):Rat) / ((1:Int):Rat)=1:=by decide+kernel
 rw [e1] at r;unfold uE at hc;cases hr:rd la with
 | none=>rw [hr] at hc;exact absurd (show (20:Int)=0 from congrArg Prod.snd hc) zd
 | some q =>
  refine ⟨q,rfl,?_⟩;rw [hr,r] at hc;have hc:=congrArg Prod.fst hc;simp only at hc;split at h
  ·rename_i h0;subst hc;unfold jk at h0;split at h0
   ·omega
   ·rename_i h2;exact Rat.not_lt.1 h2
  ·rw [← RY h] at hb;cases hb
end Go.Proofs.view
