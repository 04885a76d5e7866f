/- Lemmas for the proof. No condition. -/
import Derived.Test.YtbngfhgoeoncmaaGreatDoorTB37
set_option linter.unusedVariables false
set_option linter.unusedSimpArgs false
set_option maxRecDepth 100000
set_option maxHeartbeats 16000000
open Bool renaming and_eq_true → aD
open Go.Ending renaming returned → ah
open Go.IntKind renaming i64 → I
open Go.Value renaming agg → aB, bool → aC, int → Z, slice → aj, string → O, tuple → aF
open List renaming mem_cons → cK, not_mem_nil → gG, range → bI
open Nat renaming le_refl → aG
namespace Go.Proofs.view
open Go Go.RowKit Go.SW Go.Num Go.Mem Go.Proofs Go.d9 Go.Fx
def Ng (w:World) (ad:Addr) (cs:List Value):Prop:=ad.spot=none∧∃ arr,aA w ad.block arr 38∧∀ i v,cs[i]? =some v→arr[ad.off+i]? =some v
theorem Ng.keep {l:List TypeId} {w w':World} {ad:Addr} {cs:List Value} (h:Ng w ad cs) (k:Kept l w w') (hT:l.contains 38=false:=by kernel_rfl):Ng w' ad cs:=by
 obtain ⟨h0,arr,h1,h2⟩:=h;exact ⟨h0,arr,k _ _ _ (zH hT) h1,h2⟩
theorem Ng.cells {w:World} {ad:Addr} {cs:List Value} (h:Ng w ad cs):∀ i v,cs[i]? =some v→w.cell? (ad.add i)=some v:=by
 obtain ⟨h0,arr,h1,h2⟩:=h;obtain ⟨b,o,s⟩:=ad;simp only at h0;subst h0;intro i v hv;rw [Addr.add_lit];exact (h1.cell _).trans (h2 i v hv)
theorem _root_.Go.d9.qM.keep {l:List TypeId} {w w':World} {T:TypeId} {v:Value} {x:List Fr} (h:qM w T v x) (k:Kept l w w') (hT:T∉l):qM w' T v x:=by
 obtain ⟨a,cap,h1,h2,h3,h4,h5⟩:=h;refine ⟨a,cap,h1,h2,h3,h4,fun ad had=>?_⟩;obtain ⟨h6,arr,h7,h8⟩:=h5 ad had;exact ⟨h6,arr,k _ _ _ hT h7,h8⟩
theorem _root_.Go.d9.kN.keep {l:List TypeId} {w w':World} {v:Value} {m:List (List Fr)} (h:kN w v m) (k:Kept l w w') (hT:(l.contains 130 || l.contains 38)=false:=by kernel_rfl):kN w' v m:=by
 simp only [Bool.or_eq_false_iff] at hT;obtain ⟨rs,h1,h2,h3⟩:=h;exact ⟨rs,Row.keep h1 k (zH hT.1),h2,fun i h h'=>(h3 i h h').keep k (zH hT.2)⟩
theorem Dp (w:World) (ht:iA.Pow w) (hc:adapt.fM w):Calls Tryz.prog 71 #[Z I 4] w (fun e w'=>∃ a n c,e= ah (aF #[aj a n c,Z I 0])∧Below w.heap.size w w'∧kN w' (aj a n c) (adapt.lC 3).fr) :=
 (adapt.Le 4 w ht hc).mono fun _ _ h=>by
  obtain ⟨hb,v,rfl,hm, -⟩:=h;have hm:=hm zd;obtain ⟨rs,hr, -⟩:=id hm;obtain ⟨a,cap,rfl, -⟩:=hr;exact ⟨a,rs.length,cap,rfl,hb,hm⟩
theorem yx {a1 a2 a3 a4 a5 a6:ByteArray} {b:Nat} {rest:List Value} {a:Option Addr} {n c:Nat} (h0:light.qK ⟨⟨a1,a2⟩,⟨a3,a4⟩,⟨a5,a6⟩⟩=0) (w:World) (hm:kN w (aj a n c) (adapt.lC 3).fr) (hb:aA w b (([Value.string a1,O a2,O a3,O a4,O a5,O a6]++rest).toArray) 42) (ht:iA.Pow w) :
  Calls Tryz.prog 73 #[aj a n c,aj (some ⟨b,0,none⟩) 3 3] w (fun e w'=>∃ a n c,e= ah (aF #[aj a n c,Z I (zn ⟨⟨a1,a2⟩,⟨a3,a4⟩,⟨a5,a6⟩⟩).2])∧Below w.heap.size w w' ∧
   ((zn ⟨⟨a1,a2⟩,⟨a3,a4⟩,⟨a5,a6⟩⟩).2=0→n=3∧∃ ad,a=some ad∧Ng w' ad ((zn ⟨⟨a1,a2⟩,⟨a3,a4⟩,⟨a5,a6⟩⟩).1.list.flatMap fun f=>[Value.string f.n,O f.d]))):=by
 obtain ⟨e1,e2⟩:=adapt.Ow (adapt.yM h0)
 have hq:∀ q∈adapt.jC (adapt.qT ⟨⟨a1,a2⟩,⟨a3,a4⟩,⟨a5,a6⟩⟩),iG q=true:=by
  unfold adapt.j4 at e2;simp only [aD] at e2;intro q hq;simp only [adapt.jC,cK,gG,or_false] at hq
  rcases hq with rfl|rfl|rfl
  ·exact e2.1.1
  ·exact e2.1.2
  ·exact e2.2
 have hl:qM w 42 (aj (some ⟨b,0,none⟩) 3 3) ((adapt.jC (adapt.qT ⟨⟨a1,a2⟩,⟨a3,a4⟩,⟨a5,a6⟩⟩)).map Fr.of):=by
  have e3:(adapt.jC (adapt.qT ⟨⟨a1,a2⟩,⟨a3,a4⟩,⟨a5,a6⟩⟩)).map Fr.of=[⟨a1,a2⟩,⟨a3,a4⟩,⟨a5,a6⟩]:=by
   show [Fr.of (adapt.qT ⟨⟨a1,a2⟩,⟨a3,a4⟩,⟨a5,a6⟩⟩ 0),Fr.of (adapt.qT ⟨⟨a1,a2⟩,⟨a3,a4⟩,⟨a5,a6⟩⟩ 1),Fr.of (adapt.qT ⟨⟨a1,a2⟩,⟨a3,a4⟩,⟨a5,a6⟩⟩ 2)]=_
   have h1:=congrArg light.gJ.x e1;have h2:=congrArg light.gJ.y e1;have h3:=congrArg light.gJ.z e1;simp only [adapt.kJ] at h1 h2 h3;rw [← h1,← h2,← h3]
  rw [e3];refine ⟨some ⟨b,0,none⟩,3,rfl,aG _,by decide,(fun h=>by cases h),fun ad had=>?_⟩;cases had
  refine ⟨rfl,_,hb,fun i hi=>?_⟩
  match i,hi with
  | 0,_=>exact ⟨rfl,rfl⟩
  | 1,_=>exact ⟨rfl,rfl⟩
  | 2,_=>exact ⟨rfl,rfl⟩
 refine (matrix.AB _ _ (adapt.lC 3) (adapt.jC (adapt.qT ⟨⟨a1,a2⟩,⟨a3,a4⟩,⟨a5,a6⟩⟩)) 42 w hm hl (adapt.Ao 3 zd) hq ht).mono fun e w' h=>?_;have hml:((adapt.lC 3).map fun r=>kL r (adapt.jC (adapt.qT ⟨⟨a1,a2⟩,⟨a3,a4⟩,⟨a5,a6⟩⟩)))=adapt.jC (adapt.jU 4 ⟨⟨a1,a2⟩,⟨a3,a4⟩,⟨a5,a6⟩⟩):=rfl;rw [hml] at h
 have hall:(adapt.jC (adapt.jU 4 ⟨⟨a1,a2⟩,⟨a3,a4⟩,⟨a5,a6⟩⟩)).all iG=adapt.j4 (adapt.jU 4 ⟨⟨a1,a2⟩,⟨a3,a4⟩,⟨a5,a6⟩⟩):=by
  simp [adapt.jC,adapt.j4,Bool.and_assoc]
 unfold zn
 rcases h with ⟨h1,vo,rfl,hb2,hf⟩|⟨h1,rfl,hb2⟩
 ·rw [hall] at h1;obtain ⟨a,cap,e,h2,h3,h4,h5⟩:=hf;subst e;refine ⟨a,3,cap,by rw [h1];rfl,hb2,fun _=>⟨rfl,?_⟩⟩;cases a with
  | none=>exact absurd (h4 rfl) (by have:=h2;simp [adapt.jC] at this;omega)
  | some ad =>
   obtain ⟨h6,arr,h7,h8⟩:=h5 ad rfl;refine ⟨ad,rfl,h6,arr,h7,fun i v hv=>?_⟩;have g0:=h8 0 (by simp [adapt.jC]);have g1:=h8 1 (by simp [adapt.jC]);have g2:=h8 2 (by simp [adapt.jC])
   match i,hv with
   | 0,hv=>cases hv;exact g0.1
   | 1,hv=>cases hv;exact g0.2
   | 2,hv=>cases hv;exact g1.1
   | 3,hv=>cases hv;exact g1.2
   | 4,hv=>cases hv;exact g2.1
   | 5,hv=>cases hv;exact g2.2
 ·rw [hall] at h1;exact ⟨none,0,0,by rw [h1];rfl,hb2,fun h=>absurd h (by rw [h1];exact (by decide:¬ (6:Int)=0))⟩
theorem xY {a:Option Addr} {n c:Nat} {W r:light.gJ} {k:Int} (hx:bY (zn W) r k) (w:World):Calls Tryz.prog 72 #[aj a n c,Z I (zn W).2] w (Try w (aj a n c) k):=hx.1 ▸ SC w
theorem xX {a:Option Addr} {n c:Nat} (w:World):Calls Tryz.prog 70 #[aj a n c,Z I 0] w (fun e w'=>e= ah (aj a n c)∧Below w.heap.size w w'):=(SB w).mono fun _ _ ⟨hb,hh⟩=>by
 rcases hh with ⟨-, rfl⟩|⟨hk, -⟩
 ·exact ⟨rfl,hb⟩
 ·exact absurd rfl hk
def lF (w:World):Prop:=∃ T,aA w 0 #[Z I 1000,Z I 1000,Z I 690,Z I 4,Z I 3,Z I 900,Z I 950,Z I 590,Z I 7,Z I 6,Z I 800,Z I 800,Z I 525,Z I 1,Z I 1] T
theorem Ae {a1 a2 a3 a4 a5 a6 l1 l2 y1 y2 r1 r2 r3 r4 r5 r6:ByteArray} {s k:Int} (hx:bY (jw ⟨⟨a1,a2⟩,⟨a3,a4⟩,⟨a5,a6⟩⟩ ⟨l1,l2⟩ ⟨y1,y2⟩ s) ⟨⟨r1,r2⟩,⟨r3,r4⟩,⟨r5,r6⟩⟩ k) (w:World) (ht:iA.Pow w) (hc:adapt.fM w) (_:lF w) (hs:s<1∨3<s) (V:Value):Calls Tryz.prog 33 #[aB #[O a1,O a2,O a3,O a4,O a5,O a6,O l1,O l2,O y1,O y2,Z I s]] w (Try w V k):=by
 unfold jw at hx;refine Fx.door Tryz.func33 rfl (.nil w []) ?_;have HR:=hx;have B0:=Fx.DT.nil w;refine Fx.new [] 1 #[O a1,O a2,O a3,O a4,O a5,O a6,O l1,O l2,O y1,O y2,Z I s] 42 [] [] fun iK=>?_;refine Fx.bH [] 2 76 [] [] fun mM=>?_;refine Fx.call [3] 8 [] [] (fun W M=>light.pK ⟨⟨a1,a2⟩,⟨a3,a4⟩,⟨a5,a6⟩⟩ _) ?_;obtain ⟨_,k3,EX,HN⟩:=ak HR;refine Fx.bS dK [] 9 [] [] (fun W M=>dF (bY.of EX) _) (fun W M=>(B0.at M)) HN fun h0 HR=>?_;subst h0;have hS:light.qK ⟨⟨a1,a2⟩,⟨a3,a4⟩,⟨a5,a6⟩⟩=0:=congrArg Prod.snd EX;refine Fx.call [3] 12 [] [] (fun W M=>dw.gQ ⟨l1,l2⟩ _) ?_;obtain ⟨_,k4,EX,HN⟩:=ak HR;refine Fx.bS dK [] 13 [] [] (fun W M=>dF (bY.of EX) _) (fun W M=>(B0.at M)) HN fun h0 HR=>?_;subst h0;refine Fx.call [3] 16 [] [] (fun W M=>dw.gQ ⟨y1,y2⟩ _) ?_
 obtain ⟨_,k5,EX,HN⟩:=ak HR;refine Fx.bS dK [] 17 [] [] (fun W M=>dF (bY.of EX) _) (fun W M=>(B0.at M)) HN fun h0 HR=>?_;subst h0;refine Fx.bH [3] 3 76 [(19,aB #[Z I 0,Z I 0,Z I 0,Z I 0,Z I 0,O a1,O a2,O a3,O a4,O a5,O a6,O l1,O l2,O y1,O y2,Z I s,O ⟨#[]⟩,O ⟨#[]⟩,O ⟨#[]⟩,O ⟨#[]⟩,O ⟨#[]⟩,O ⟨#[]⟩])] [] fun Av=>?_;refine Fx.kG [5] 20 [] [(2,#[Z I 0,Z I 0,Z I 0,Z I 0,Z I 0,O a1,O a2,O a3,O a4,O a5,O a6,O l1,O l2,O y1,O y2,Z I s,O ⟨#[]⟩,O ⟨#[]⟩,O ⟨#[]⟩,O ⟨#[]⟩,O ⟨#[]⟩,O ⟨#[]⟩])] (fun W M=>Dp _ (ht.later (B0.at M)) (hc.later (B0.at M))) ?_;rintro W w7 e M ⟨am,nm,cm,rfl,D7,hmv⟩;refine ⟨D7,fun M7=>?_⟩
 have B7:=B0.next M7
 refine Fx.call [] 23 [] [] (fun W M=>xX (a:=am) (n:=nm) (c:=cm) _) ?_;refine Fx.draw [] [0,1,2,3,4,5,6,7,8,5009] [] [(4,aj am nm cm)] [] ?_;refine Fx.kG [] 29 [(25,aj (some ⟨Av,16,none⟩) 3 3)] [] (fun W M=>yx (rest:=[O l1,O l2,O y1,O y2,Z I s]) hS _ (hmv.keep (M7.keep M)) (M.box (b:=iK) 0) (ht.later (B7.at M))) ?_;rintro W w8 e M ⟨ao,no,co,rfl,D8,hfr⟩;refine ⟨D8,fun M8=>?_⟩;have B8:=B7.next M8
 obtain ⟨⟨⟨pJ,pI⟩,⟨pG,pF⟩,⟨pE,pz⟩⟩,k9,EX,HN⟩:=ak HR;refine Fx.bS dK [] 32 [] [] (fun W M=>xY (a:=ao) (n:=no) (c:=co) (bY.of EX) _) (fun W M=>(B8.at M)) HN fun h0 HR=>?_;subst h0;rw [EX] at hfr;obtain ⟨rfl,ad,rfl,hsrc⟩:=hfr rfl
 refine Fx.KL (b:=Av) (T:=76) (cur:=#[Z I 0,Z I 0,Z I 0,Z I 0,Z I 0,O a1,O a2,O a3,O a4,O a5,O a6,O l1,O l2,O y1,O y2,Z I s,O ⟨#[]⟩,O ⟨#[]⟩,O ⟨#[]⟩,O ⟨#[]⟩,O ⟨#[]⟩,O ⟨#[]⟩]) (off:=16) (dl:=3) (dc:=3) (sl:=3) (sc:=co) (ad:=ad) (elem:=38) (size:=2) (ty:=3) (dT:=130) (sT:=130) 1 [] 33 2 [] [] [O pJ,O pI,O pG,O pF,O pE,O pz] #[Z I 0,Z I 0,Z I 0,Z I 0,Z I 0,O a1,O a2,O a3,O a4,O a5,O a6,O l1,O l2,O y1,O y2,Z I s,O pJ,O pI,O pG,O pF,O pE,O pz] (Z I 3) (fun W M=>(hsrc.keep (M8.keep M)).cells) Tryz.underlying130 zk ?_;obtain ⟨v10,k10,EX,HN⟩:=ak HR
 refine Fx.call [1,5] 41 [(34,Z I 0)] [] (fun W M=>mZ EX _) ?_;refine Fx.bS dK [] 44 [] [] (fun W M=>gu (v:=v10) _) (fun W M=>(B8.at M)) HN fun h0 HR=>?_;subst h0;refine Fx.part 1 [] [(45,aC (decide (v10≤0)))] [] ?_;refine Fx.splitB (fun hf1=>?_) (fun hf1=>?_)
 ·skip
  replace HR:=bY.pos HR (of_decide_eq_true hf1);obtain ⟨_,k12,EX,HN⟩:=ak HR;refine Fx.bS dK [1] 46 [] [] (fun W M=>dF (bY.of EX) _) (fun W M=>(B8.at M)) HN fun h0 HR=>?_;subst h0;exact absurd (show (280:Int)=0 from congrArg Prod.snd EX) zd
 ·skip
  replace HR:=bY.neg HR (of_decide_eq_false hf1);obtain ⟨v13,k13,EX,HN⟩:=ak HR;refine Fx.call [2,1,5] 41 [(34,Z I 1)] [] (fun W M=>mZ EX _) ?_;refine Fx.bS dK [] 44 [] [] (fun W M=>gu (v:=v13) _) (fun W M=>(B8.at M)) HN fun h0 HR=>?_;subst h0;refine Fx.part 1 [] [(45,aC (decide (v13≤0)))] [] ?_;refine Fx.splitB (fun hf2=>?_) (fun hf2=>?_)
  ·skip
   replace HR:=bY.pos HR (of_decide_eq_true hf2);obtain ⟨_,k15,EX,HN⟩:=ak HR;refine Fx.bS dK [1] 46 [] [] (fun W M=>dF (bY.of EX) _) (fun W M=>(B8.at M)) HN fun h0 HR=>?_;subst h0;exact absurd (show (280:Int)=0 from congrArg Prod.snd EX) zd
  ·skip
   replace HR:=bY.neg HR (of_decide_eq_false hf2);obtain ⟨v16,k16,EX,HN⟩:=ak HR;refine Fx.call [2,1,5] 41 [(34,Z I 2)] [] (fun W M=>mZ EX _) ?_;refine Fx.bS dK [] 44 [] [] (fun W M=>gu (v:=v16) _) (fun W M=>(B8.at M)) HN fun h0 HR=>?_;subst h0;refine Fx.part 1 [] [(45,aC (decide (v16≤0)))] [] ?_;refine Fx.splitB (fun hf3=>?_) (fun hf3=>?_)
   ·skip
    replace HR:=bY.pos HR (of_decide_eq_true hf3);obtain ⟨_,k18,EX,HN⟩:=ak HR;refine Fx.bS dK [1] 46 [] [] (fun W M=>dF (bY.of EX) _) (fun W M=>(B8.at M)) HN fun h0 HR=>?_;subst h0;exact absurd (show (280:Int)=0 from congrArg Prod.snd EX) zd
   ·skip
    replace HR:=bY.neg HR (of_decide_eq_false hf3);refine Fx.draw [2,2] (bI 6) [] [(34,Z I 3)] [] ?_;obtain ⟨⟨oO,t19⟩,k19,EX,HN⟩:=ak HR;refine Fx.bS dK [3] 50 [(49,aB #[O l1,O l2])] [] (fun W M=>fB (bY.of EX) _ (ht.later (B8.at M))) (fun W M=>(B8.at M)) HN fun h0 HR=>?_;subst h0;obtain ⟨⟨s20,t20⟩,k20,EX,HN⟩:=ak HR;refine Fx.bS dK [] 51 [] [] (fun W M=>fB (bY.of EX) _ (ht.later (B8.at M))) (fun W M=>(B8.at M)) HN fun h0 HR=>?_;subst h0;obtain ⟨v21,k21,EX,HN⟩:=ak HR;refine Fx.bS dK [] 52 [] [] (fun W M=>sH (bY.of EX) _) (fun W M=>(B8.at M)) HN fun h0 HR=>?_;subst h0;refine Fx.part 1 [] [(53,aC (!v21))] [] ?_;refine Fx.splitB (fun I7=>?_) (fun I7=>?_)
    ·skip
     replace HR:=bY.pos HR (by simpa using I7);obtain ⟨_,k22,EX,HN⟩:=ak HR;refine Fx.bS dK [1] 54 [] [] (fun W M=>dF (bY.of EX) _) (fun W M=>(B8.at M)) HN fun h0 HR=>?_;subst h0;exact absurd (show (280:Int)=0 from congrArg Prod.snd EX) zd
    ·skip
     replace HR:=bY.neg HR (by simpa using I7);obtain ⟨v23,k23,EX,HN⟩:=ak HR;refine Fx.call [2,3] 57 [] [] (fun W M=>mZ EX _) ?_;refine Fx.bS dK [] 60 [] [] (fun W M=>gu (v:=v23) _) (fun W M=>(B8.at M)) HN fun h0 HR=>?_;subst h0;refine Fx.part 1 [] [(61,aC (decide (v23≤0)))] [] ?_;refine Fx.splitB (fun I6=>?_) (fun I6=>?_)
     ·skip
      replace HR:=bY.pos HR (of_decide_eq_true I6);obtain ⟨_,k25,EX,HN⟩:=ak HR;refine Fx.bS dK [0,0,0,0,1] 74 [] [] (fun W M=>dF (bY.of EX) _) (fun W M=>(B8.at M)) HN fun h0 HR=>?_;subst h0;exact absurd (show (280:Int)=0 from congrArg Prod.snd EX) zd
     ·skip
      replace HR:=bY.neg HR (of_decide_eq_false I6);obtain ⟨v26,k26,EX,HN⟩:=ak HR;refine Fx.call [3,3] 68 [(62,aC false)] [] (fun W M=>M9 EX _) ?_;refine Fx.bS dK [] 71 [] [] (fun W M=>gu (v:=v26) _) (fun W M=>(B8.at M)) HN fun h0 HR=>?_;subst h0;refine Fx.part 1 [] [(72,aC (decide (0<v26)))] [] ?_;refine Fx.splitB (fun I5=>?_) (fun I5=>?_)
      ·skip
       replace HR:=bY.pos HR (of_decide_eq_true I5);obtain ⟨_,k28,EX,HN⟩:=ak HR;refine Fx.bS dK [1] 74 [] [] (fun W M=>dF (bY.of EX) _) (fun W M=>(B8.at M)) HN fun h0 HR=>?_;subst h0;exact absurd (show (280:Int)=0 from congrArg Prod.snd EX) zd
      ·skip
       replace HR:=bY.neg HR (of_decide_eq_false I5);refine Fx.part 12 [2,3] [(77,aC (decide (s<1)))] [] ?_;refine Fx.splitB (fun hf7=>?_) (fun hf7=>?_)
       ·skip
        replace HR:=bY.pos HR (of_decide_eq_true hf7);obtain ⟨_,k29,EX,HN⟩:=ak HR;refine Fx.bS dK [0,1] 83 [] [] (fun W M=>dF (bY.of EX) _) (fun W M=>(B8.at M)) HN fun h0 HR=>?_;subst h0;exact absurd (show (280:Int)=0 from congrArg Prod.snd EX) zd
       ·skip
        replace HR:=bY.neg HR (of_decide_eq_false hf7);have h77:=of_decide_eq_false hf7;refine Fx.part 4 [3] [(81,aC (decide (3<s))),(78,aC false)] [] ?_;refine Fx.splitB (fun hf8=>?_) (fun hf8=>?_)
        ·skip
         replace HR:=bY.pos HR (of_decide_eq_true hf8);obtain ⟨_,k30,EX,HN⟩:=ak HR;refine Fx.bS dK [1] 83 [] [] (fun W M=>dF (bY.of EX) _) (fun W M=>(B8.at M)) HN fun h0 HR=>?_;subst h0;exact absurd (show (280:Int)=0 from congrArg Prod.snd EX) zd
        ·skip
         exact absurd (of_decide_eq_false hf8) zo
theorem Ah {a1 a2 a3 a4 a5 a6 l1 l2 y1 y2 r1 r2 r3 r4 r5 r6:ByteArray} {k:Int} (hx:bY (jw ⟨⟨a1,a2⟩,⟨a3,a4⟩,⟨a5,a6⟩⟩ ⟨l1,l2⟩ ⟨y1,y2⟩ 1) ⟨⟨r1,r2⟩,⟨r3,r4⟩,⟨r5,r6⟩⟩ k) (w:World) (ht:iA.Pow w) (hc:adapt.fM w) (hs:lF w):Calls Tryz.prog 33 #[aB #[O a1,O a2,O a3,O a4,O a5,O a6,O l1,O l2,O y1,O y2,Z I 1]] w (Try w (aB #[Z I 1000,Z I 1000,Z I 690,Z I 4,Z I 3,O a1,O a2,O a3,O a4,O a5,O a6,O l1,O l2,O y1,O y2,Z I 1,O r1,O r2,O r3,O r4,O r5,O r6]) k):=by
 unfold jw at hx;obtain ⟨TS,hs⟩:=hs;refine Fx.door Tryz.func33 rfl (.ro hs (.nil w [])) ?_;have HR:=hx;have B0:=Fx.DT.nil w;refine Fx.new [] 1 #[O a1,O a2,O a3,O a4,O a5,O a6,O l1,O l2,O y1,O y2,Z I 1] 42 [] [] fun iK=>?_;refine Fx.bH [] 2 76 [] [] fun mM=>?_;refine Fx.call [4] 8 [] [] (fun W M=>light.pK ⟨⟨a1,a2⟩,⟨a3,a4⟩,⟨a5,a6⟩⟩ _) ?_;obtain ⟨_,k3,EX,HN⟩:=ak HR;refine Fx.bS dK [] 9 [] [] (fun W M=>dF (bY.of EX) _) (fun W M=>(B0.at M)) HN fun h0 HR=>?_;subst h0;have hS:light.qK ⟨⟨a1,a2⟩,⟨a3,a4⟩,⟨a5,a6⟩⟩=0:=congrArg Prod.snd EX;refine Fx.call [4] 12 [] [] (fun W M=>dw.gQ ⟨l1,l2⟩ _) ?_;obtain ⟨_,k4,EX,HN⟩:=ak HR;refine Fx.bS dK [] 13 [] [] (fun W M=>dF (bY.of EX) _) (fun W M=>(B0.at M)) HN fun h0 HR=>?_;subst h0
 refine Fx.call [4] 16 [] [] (fun W M=>dw.gQ ⟨y1,y2⟩ _) ?_;obtain ⟨_,k5,EX,HN⟩:=ak HR;refine Fx.bS dK [] 17 [] [] (fun W M=>dF (bY.of EX) _) (fun W M=>(B0.at M)) HN fun h0 HR=>?_;subst h0;refine Fx.bH [4] 3 76 [(19,aB #[Z I 0,Z I 0,Z I 0,Z I 0,Z I 0,O a1,O a2,O a3,O a4,O a5,O a6,O l1,O l2,O y1,O y2,Z I 1,O ⟨#[]⟩,O ⟨#[]⟩,O ⟨#[]⟩,O ⟨#[]⟩,O ⟨#[]⟩,O ⟨#[]⟩])] [] fun Av=>?_;refine Fx.kG [6] 20 [] [(3,#[Z I 0,Z I 0,Z I 0,Z I 0,Z I 0,O a1,O a2,O a3,O a4,O a5,O a6,O l1,O l2,O y1,O y2,Z I 1,O ⟨#[]⟩,O ⟨#[]⟩,O ⟨#[]⟩,O ⟨#[]⟩,O ⟨#[]⟩,O ⟨#[]⟩])] (fun W M=>Dp _ (ht.later (B0.at M)) (hc.later (B0.at M))) ?_
 rintro W w7 e M ⟨am,nm,cm,rfl,D7,hmv⟩;refine ⟨D7,fun M7=>?_⟩;have B7:=B0.next M7
 refine Fx.call [] 23 [] [] (fun W M=>xX (a:=am) (n:=nm) (c:=cm) _) ?_;refine Fx.draw [] [0,1,2,3,4,5,6,7,8,5009] [] [(4,aj am nm cm)] [] ?_;refine Fx.kG [] 29 [(25,aj (some ⟨Av,16,none⟩) 3 3)] [] (fun W M=>yx (rest:=[O l1,O l2,O y1,O y2,Z I 1]) hS _ (hmv.keep (M7.keep M)) (M.box (b:=iK) 1) (ht.later (B7.at M))) ?_;rintro W w8 e M ⟨ao,no,co,rfl,D8,hfr⟩;refine ⟨D8,fun M8=>?_⟩;have B8:=B7.next M8
 obtain ⟨⟨⟨pJ,pI⟩,⟨pG,pF⟩,⟨pE,pz⟩⟩,k9,EX,HN⟩:=ak HR;refine Fx.bS dK [] 32 [] [] (fun W M=>xY (a:=ao) (n:=no) (c:=co) (bY.of EX) _) (fun W M=>(B8.at M)) HN fun h0 HR=>?_;subst h0;rw [EX] at hfr;obtain ⟨rfl,ad,rfl,hsrc⟩:=hfr rfl
 refine Fx.KL (b:=Av) (T:=76) (cur:=#[Z I 0,Z I 0,Z I 0,Z I 0,Z I 0,O a1,O a2,O a3,O a4,O a5,O a6,O l1,O l2,O y1,O y2,Z I 1,O ⟨#[]⟩,O ⟨#[]⟩,O ⟨#[]⟩,O ⟨#[]⟩,O ⟨#[]⟩,O ⟨#[]⟩]) (off:=16) (dl:=3) (dc:=3) (sl:=3) (sc:=co) (ad:=ad) (elem:=38) (size:=2) (ty:=3) (dT:=130) (sT:=130) 1 [] 33 3 [] [] [O pJ,O pI,O pG,O pF,O pE,O pz] #[Z I 0,Z I 0,Z I 0,Z I 0,Z I 0,O a1,O a2,O a3,O a4,O a5,O a6,O l1,O l2,O y1,O y2,Z I 1,O pJ,O pI,O pG,O pF,O pE,O pz] (Z I 3) (fun W M=>(hsrc.keep (M8.keep M)).cells) Tryz.underlying130 zk ?_;obtain ⟨v10,k10,EX,HN⟩:=ak HR
 refine Fx.call [1,6] 41 [(34,Z I 0)] [] (fun W M=>mZ EX _) ?_;refine Fx.bS dK [] 44 [] [] (fun W M=>gu (v:=v10) _) (fun W M=>(B8.at M)) HN fun h0 HR=>?_;subst h0;refine Fx.part 1 [] [(45,aC (decide (v10≤0)))] [] ?_;refine Fx.splitB (fun hf1=>?_) (fun hf1=>?_)
 ·skip
  replace HR:=bY.pos HR (of_decide_eq_true hf1);obtain ⟨_,k12,EX,HN⟩:=ak HR;refine Fx.bS dK [1] 46 [] [] (fun W M=>dF (bY.of EX) _) (fun W M=>(B8.at M)) HN fun h0 HR=>?_;subst h0;exact absurd (show (280:Int)=0 from congrArg Prod.snd EX) zd
 ·skip
  replace HR:=bY.neg HR (of_decide_eq_false hf1);obtain ⟨v13,k13,EX,HN⟩:=ak HR;refine Fx.call [2,1,6] 41 [(34,Z I 1)] [] (fun W M=>mZ EX _) ?_;refine Fx.bS dK [] 44 [] [] (fun W M=>gu (v:=v13) _) (fun W M=>(B8.at M)) HN fun h0 HR=>?_;subst h0;refine Fx.part 1 [] [(45,aC (decide (v13≤0)))] [] ?_;refine Fx.splitB (fun hf2=>?_) (fun hf2=>?_)
  ·skip
   replace HR:=bY.pos HR (of_decide_eq_true hf2);obtain ⟨_,k15,EX,HN⟩:=ak HR;refine Fx.bS dK [1] 46 [] [] (fun W M=>dF (bY.of EX) _) (fun W M=>(B8.at M)) HN fun h0 HR=>?_;subst h0;exact absurd (show (280:Int)=0 from congrArg Prod.snd EX) zd
  ·skip
   replace HR:=bY.neg HR (of_decide_eq_false hf2);obtain ⟨v16,k16,EX,HN⟩:=ak HR;refine Fx.call [2,1,6] 41 [(34,Z I 2)] [] (fun W M=>mZ EX _) ?_;refine Fx.bS dK [] 44 [] [] (fun W M=>gu (v:=v16) _) (fun W M=>(B8.at M)) HN fun h0 HR=>?_;subst h0;refine Fx.part 1 [] [(45,aC (decide (v16≤0)))] [] ?_;refine Fx.splitB (fun hf3=>?_) (fun hf3=>?_)
   ·skip
    replace HR:=bY.pos HR (of_decide_eq_true hf3);obtain ⟨_,k18,EX,HN⟩:=ak HR;refine Fx.bS dK [1] 46 [] [] (fun W M=>dF (bY.of EX) _) (fun W M=>(B8.at M)) HN fun h0 HR=>?_;subst h0;exact absurd (show (280:Int)=0 from congrArg Prod.snd EX) zd
   ·skip
    replace HR:=bY.neg HR (of_decide_eq_false hf3);refine Fx.draw [2,2] (bI 6) [] [(34,Z I 3)] [] ?_;obtain ⟨⟨oO,t19⟩,k19,EX,HN⟩:=ak HR;refine Fx.bS dK [4] 50 [(49,aB #[O l1,O l2])] [] (fun W M=>fB (bY.of EX) _ (ht.later (B8.at M))) (fun W M=>(B8.at M)) HN fun h0 HR=>?_;subst h0;obtain ⟨⟨s20,t20⟩,k20,EX,HN⟩:=ak HR;refine Fx.bS dK [] 51 [] [] (fun W M=>fB (bY.of EX) _ (ht.later (B8.at M))) (fun W M=>(B8.at M)) HN fun h0 HR=>?_;subst h0;obtain ⟨v21,k21,EX,HN⟩:=ak HR;refine Fx.bS dK [] 52 [] [] (fun W M=>sH (bY.of EX) _) (fun W M=>(B8.at M)) HN fun h0 HR=>?_;subst h0;refine Fx.part 1 [] [(53,aC (!v21))] [] ?_;refine Fx.splitB (fun I7=>?_) (fun I7=>?_)
    ·skip
     replace HR:=bY.pos HR (by simpa using I7);obtain ⟨_,k22,EX,HN⟩:=ak HR;refine Fx.bS dK [1] 54 [] [] (fun W M=>dF (bY.of EX) _) (fun W M=>(B8.at M)) HN fun h0 HR=>?_;subst h0;exact absurd (show (280:Int)=0 from congrArg Prod.snd EX) zd
    ·skip
     replace HR:=bY.neg HR (by simpa using I7);obtain ⟨v23,k23,EX,HN⟩:=ak HR;refine Fx.call [2,4] 57 [] [] (fun W M=>mZ EX _) ?_;refine Fx.bS dK [] 60 [] [] (fun W M=>gu (v:=v23) _) (fun W M=>(B8.at M)) HN fun h0 HR=>?_;subst h0;refine Fx.part 1 [] [(61,aC (decide (v23≤0)))] [] ?_;refine Fx.splitB (fun I6=>?_) (fun I6=>?_)
     ·skip
      replace HR:=bY.pos HR (of_decide_eq_true I6);obtain ⟨_,k25,EX,HN⟩:=ak HR;refine Fx.bS dK [0,0,0,0,1] 74 [] [] (fun W M=>dF (bY.of EX) _) (fun W M=>(B8.at M)) HN fun h0 HR=>?_;subst h0;exact absurd (show (280:Int)=0 from congrArg Prod.snd EX) zd
     ·skip
      replace HR:=bY.neg HR (of_decide_eq_false I6);obtain ⟨v26,k26,EX,HN⟩:=ak HR;refine Fx.call [4,4] 68 [(62,aC false)] [] (fun W M=>M9 EX _) ?_;refine Fx.bS dK [] 71 [] [] (fun W M=>gu (v:=v26) _) (fun W M=>(B8.at M)) HN fun h0 HR=>?_;subst h0
      skip
      refine Fx.part 1 [] [(72,aC (decide (0<v26)))] [] ?_;refine Fx.splitB (fun I5=>?_) (fun I5=>?_)
      ·skip
       replace HR:=bY.pos HR (of_decide_eq_true I5);obtain ⟨_,k28,EX,HN⟩:=ak HR;refine Fx.bS dK [1] 74 [] [] (fun W M=>dF (bY.of EX) _) (fun W M=>(B8.at M)) HN fun h0 HR=>?_;subst h0;exact absurd (show (280:Int)=0 from congrArg Prod.snd EX) zd
      ·skip
       replace HR:=bY.neg HR (of_decide_eq_false I5);obtain ⟨hk,hv⟩:=HR;cases hk
       exact Fx.mU (cs:=#[Z I 1000,Z I 1000,Z I 690,Z I 4,Z I 3,O a1,O a2,O a3,O a4,O a5,O a6,O l1,O l2,O y1,O y2,Z I 1,O pJ,O pI,O pG,O pF,O pE,O pz]) 2 mM [2,4,4,2,4,3,6,6,5] [(2,#[Z I 1000,Z I 1000,Z I 690,Z I 4,Z I 3,O a1,O a2,O a3,O a4,O a5,O a6,O l1,O l2,O y1,O y2,Z I 1,O pJ,O pI,O pG,O pF,O pE,O pz]),(3,#[Z I 1000,Z I 1000,Z I 690,Z I 4,Z I 3,O a1,O a2,O a3,O a4,O a5,O a6,O l1,O l2,O y1,O y2,Z I 1,O pJ,O pI,O pG,O pF,O pE,O pz])] (fun W M=>⟨(B8.at M),.inl ⟨rfl,by cases hv rfl;rfl⟩⟩)
theorem Ag {a1 a2 a3 a4 a5 a6 l1 l2 y1 y2 r1 r2 r3 r4 r5 r6:ByteArray} {k:Int} (hx:bY (jw ⟨⟨a1,a2⟩,⟨a3,a4⟩,⟨a5,a6⟩⟩ ⟨l1,l2⟩ ⟨y1,y2⟩ 2) ⟨⟨r1,r2⟩,⟨r3,r4⟩,⟨r5,r6⟩⟩ k) (w:World) (ht:iA.Pow w) (hc:adapt.fM w) (hs:lF w):Calls Tryz.prog 33 #[aB #[O a1,O a2,O a3,O a4,O a5,O a6,O l1,O l2,O y1,O y2,Z I 2]] w (Try w (aB #[Z I 900,Z I 950,Z I 590,Z I 7,Z I 6,O a1,O a2,O a3,O a4,O a5,O a6,O l1,O l2,O y1,O y2,Z I 2,O r1,O r2,O r3,O r4,O r5,O r6]) k):=by
 unfold jw at hx;obtain ⟨TS,hs⟩:=hs;refine Fx.door Tryz.func33 rfl (.ro hs (.nil w [])) ?_;have HR:=hx;have B0:=Fx.DT.nil w;refine Fx.new [] 1 #[O a1,O a2,O a3,O a4,O a5,O a6,O l1,O l2,O y1,O y2,Z I 2] 42 [] [] fun iK=>?_;refine Fx.bH [] 2 76 [] [] fun mM=>?_;refine Fx.call [4] 8 [] [] (fun W M=>light.pK ⟨⟨a1,a2⟩,⟨a3,a4⟩,⟨a5,a6⟩⟩ _) ?_;obtain ⟨_,k3,EX,HN⟩:=ak HR;refine Fx.bS dK [] 9 [] [] (fun W M=>dF (bY.of EX) _) (fun W M=>(B0.at M)) HN fun h0 HR=>?_;subst h0;have hS:light.qK ⟨⟨a1,a2⟩,⟨a3,a4⟩,⟨a5,a6⟩⟩=0:=congrArg Prod.snd EX;refine Fx.call [4] 12 [] [] (fun W M=>dw.gQ ⟨l1,l2⟩ _) ?_;obtain ⟨_,k4,EX,HN⟩:=ak HR;refine Fx.bS dK [] 13 [] [] (fun W M=>dF (bY.of EX) _) (fun W M=>(B0.at M)) HN fun h0 HR=>?_;subst h0
 refine Fx.call [4] 16 [] [] (fun W M=>dw.gQ ⟨y1,y2⟩ _) ?_;obtain ⟨_,k5,EX,HN⟩:=ak HR;refine Fx.bS dK [] 17 [] [] (fun W M=>dF (bY.of EX) _) (fun W M=>(B0.at M)) HN fun h0 HR=>?_;subst h0;refine Fx.bH [4] 3 76 [(19,aB #[Z I 0,Z I 0,Z I 0,Z I 0,Z I 0,O a1,O a2,O a3,O a4,O a5,O a6,O l1,O l2,O y1,O y2,Z I 2,O ⟨#[]⟩,O ⟨#[]⟩,O ⟨#[]⟩,O ⟨#[]⟩,O ⟨#[]⟩,O ⟨#[]⟩])] [] fun Av=>?_;refine Fx.kG [6] 20 [] [(3,#[Z I 0,Z I 0,Z I 0,Z I 0,Z I 0,O a1,O a2,O a3,O a4,O a5,O a6,O l1,O l2,O y1,O y2,Z I 2,O ⟨#[]⟩,O ⟨#[]⟩,O ⟨#[]⟩,O ⟨#[]⟩,O ⟨#[]⟩,O ⟨#[]⟩])] (fun W M=>Dp _ (ht.later (B0.at M)) (hc.later (B0.at M))) ?_
 rintro W w7 e M ⟨am,nm,cm,rfl,D7,hmv⟩;refine ⟨D7,fun M7=>?_⟩;have B7:=B0.next M7
 refine Fx.call [] 23 [] [] (fun W M=>xX (a:=am) (n:=nm) (c:=cm) _) ?_;refine Fx.draw [] [0,1,2,3,4,5,6,7,8,5009] [] [(4,aj am nm cm)] [] ?_;refine Fx.kG [] 29 [(25,aj (some ⟨Av,16,none⟩) 3 3)] [] (fun W M=>yx (rest:=[O l1,O l2,O y1,O y2,Z I 2]) hS _ (hmv.keep (M7.keep M)) (M.box (b:=iK) 1) (ht.later (B7.at M))) ?_;rintro W w8 e M ⟨ao,no,co,rfl,D8,hfr⟩;refine ⟨D8,fun M8=>?_⟩;have B8:=B7.next M8
 obtain ⟨⟨⟨pJ,pI⟩,⟨pG,pF⟩,⟨pE,pz⟩⟩,k9,EX,HN⟩:=ak HR;refine Fx.bS dK [] 32 [] [] (fun W M=>xY (a:=ao) (n:=no) (c:=co) (bY.of EX) _) (fun W M=>(B8.at M)) HN fun h0 HR=>?_;subst h0;rw [EX] at hfr;obtain ⟨rfl,ad,rfl,hsrc⟩:=hfr rfl
 refine Fx.KL (b:=Av) (T:=76) (cur:=#[Z I 0,Z I 0,Z I 0,Z I 0,Z I 0,O a1,O a2,O a3,O a4,O a5,O a6,O l1,O l2,O y1,O y2,Z I 2,O ⟨#[]⟩,O ⟨#[]⟩,O ⟨#[]⟩,O ⟨#[]⟩,O ⟨#[]⟩,O ⟨#[]⟩]) (off:=16) (dl:=3) (dc:=3) (sl:=3) (sc:=co) (ad:=ad) (elem:=38) (size:=2) (ty:=3) (dT:=130) (sT:=130) 1 [] 33 3 [] [] [O pJ,O pI,O pG,O pF,O pE,O pz] #[Z I 0,Z I 0,Z I 0,Z I 0,Z I 0,O a1,O a2,O a3,O a4,O a5,O a6,O l1,O l2,O y1,O y2,Z I 2,O pJ,O pI,O pG,O pF,O pE,O pz] (Z I 3) (fun W M=>(hsrc.keep (M8.keep M)).cells) Tryz.underlying130 zk ?_;obtain ⟨v10,k10,EX,HN⟩:=ak HR
 refine Fx.call [1,6] 41 [(34,Z I 0)] [] (fun W M=>mZ EX _) ?_;refine Fx.bS dK [] 44 [] [] (fun W M=>gu (v:=v10) _) (fun W M=>(B8.at M)) HN fun h0 HR=>?_;subst h0;refine Fx.part 1 [] [(45,aC (decide (v10≤0)))] [] ?_;refine Fx.splitB (fun hf1=>?_) (fun hf1=>?_)
 ·skip
  replace HR:=bY.pos HR (of_decide_eq_true hf1);obtain ⟨_,k12,EX,HN⟩:=ak HR;refine Fx.bS dK [1] 46 [] [] (fun W M=>dF (bY.of EX) _) (fun W M=>(B8.at M)) HN fun h0 HR=>?_;subst h0;exact absurd (show (280:Int)=0 from congrArg Prod.snd EX) zd
 ·skip
  replace HR:=bY.neg HR (of_decide_eq_false hf1);obtain ⟨v13,k13,EX,HN⟩:=ak HR;refine Fx.call [2,1,6] 41 [(34,Z I 1)] [] (fun W M=>mZ EX _) ?_;refine Fx.bS dK [] 44 [] [] (fun W M=>gu (v:=v13) _) (fun W M=>(B8.at M)) HN fun h0 HR=>?_;subst h0;refine Fx.part 1 [] [(45,aC (decide (v13≤0)))] [] ?_;refine Fx.splitB (fun hf2=>?_) (fun hf2=>?_)
  ·skip
   replace HR:=bY.pos HR (of_decide_eq_true hf2);obtain ⟨_,k15,EX,HN⟩:=ak HR;refine Fx.bS dK [1] 46 [] [] (fun W M=>dF (bY.of EX) _) (fun W M=>(B8.at M)) HN fun h0 HR=>?_;subst h0;exact absurd (show (280:Int)=0 from congrArg Prod.snd EX) zd
  ·skip
   replace HR:=bY.neg HR (of_decide_eq_false hf2);obtain ⟨v16,k16,EX,HN⟩:=ak HR;refine Fx.call [2,1,6] 41 [(34,Z I 2)] [] (fun W M=>mZ EX _) ?_;refine Fx.bS dK [] 44 [] [] (fun W M=>gu (v:=v16) _) (fun W M=>(B8.at M)) HN fun h0 HR=>?_;subst h0;refine Fx.part 1 [] [(45,aC (decide (v16≤0)))] [] ?_;refine Fx.splitB (fun hf3=>?_) (fun hf3=>?_)
   ·skip
    replace HR:=bY.pos HR (of_decide_eq_true hf3);obtain ⟨_,k18,EX,HN⟩:=ak HR;refine Fx.bS dK [1] 46 [] [] (fun W M=>dF (bY.of EX) _) (fun W M=>(B8.at M)) HN fun h0 HR=>?_;subst h0;exact absurd (show (280:Int)=0 from congrArg Prod.snd EX) zd
   ·skip
    replace HR:=bY.neg HR (of_decide_eq_false hf3);refine Fx.draw [2,2] (bI 6) [] [(34,Z I 3)] [] ?_;obtain ⟨⟨oO,t19⟩,k19,EX,HN⟩:=ak HR;refine Fx.bS dK [4] 50 [(49,aB #[O l1,O l2])] [] (fun W M=>fB (bY.of EX) _ (ht.later (B8.at M))) (fun W M=>(B8.at M)) HN fun h0 HR=>?_;subst h0;obtain ⟨⟨s20,t20⟩,k20,EX,HN⟩:=ak HR;refine Fx.bS dK [] 51 [] [] (fun W M=>fB (bY.of EX) _ (ht.later (B8.at M))) (fun W M=>(B8.at M)) HN fun h0 HR=>?_;subst h0;obtain ⟨v21,k21,EX,HN⟩:=ak HR;refine Fx.bS dK [] 52 [] [] (fun W M=>sH (bY.of EX) _) (fun W M=>(B8.at M)) HN fun h0 HR=>?_;subst h0;refine Fx.part 1 [] [(53,aC (!v21))] [] ?_;refine Fx.splitB (fun I7=>?_) (fun I7=>?_)
    ·skip
     replace HR:=bY.pos HR (by simpa using I7);obtain ⟨_,k22,EX,HN⟩:=ak HR;refine Fx.bS dK [1] 54 [] [] (fun W M=>dF (bY.of EX) _) (fun W M=>(B8.at M)) HN fun h0 HR=>?_;subst h0;exact absurd (show (280:Int)=0 from congrArg Prod.snd EX) zd
    ·skip
     replace HR:=bY.neg HR (by simpa using I7);obtain ⟨v23,k23,EX,HN⟩:=ak HR;refine Fx.call [2,4] 57 [] [] (fun W M=>mZ EX _) ?_;refine Fx.bS dK [] 60 [] [] (fun W M=>gu (v:=v23) _) (fun W M=>(B8.at M)) HN fun h0 HR=>?_;subst h0;refine Fx.part 1 [] [(61,aC (decide (v23≤0)))] [] ?_;refine Fx.splitB (fun I6=>?_) (fun I6=>?_)
     ·skip
      replace HR:=bY.pos HR (of_decide_eq_true I6);obtain ⟨_,k25,EX,HN⟩:=ak HR;refine Fx.bS dK [0,0,0,0,1] 74 [] [] (fun W M=>dF (bY.of EX) _) (fun W M=>(B8.at M)) HN fun h0 HR=>?_;subst h0;exact absurd (show (280:Int)=0 from congrArg Prod.snd EX) zd
     ·skip
      replace HR:=bY.neg HR (of_decide_eq_false I6);obtain ⟨v26,k26,EX,HN⟩:=ak HR;refine Fx.call [4,4] 68 [(62,aC false)] [] (fun W M=>M9 EX _) ?_;refine Fx.bS dK [] 71 [] [] (fun W M=>gu (v:=v26) _) (fun W M=>(B8.at M)) HN fun h0 HR=>?_;subst h0
      skip
      refine Fx.part 1 [] [(72,aC (decide (0<v26)))] [] ?_;refine Fx.splitB (fun I5=>?_) (fun I5=>?_)
      ·skip
       replace HR:=bY.pos HR (of_decide_eq_true I5);obtain ⟨_,k28,EX,HN⟩:=ak HR;refine Fx.bS dK [1] 74 [] [] (fun W M=>dF (bY.of EX) _) (fun W M=>(B8.at M)) HN fun h0 HR=>?_;subst h0;exact absurd (show (280:Int)=0 from congrArg Prod.snd EX) zd
      ·skip
       replace HR:=bY.neg HR (of_decide_eq_false I5);obtain ⟨hk,hv⟩:=HR;cases hk
       exact Fx.mU (cs:=#[Z I 900,Z I 950,Z I 590,Z I 7,Z I 6,O a1,O a2,O a3,O a4,O a5,O a6,O l1,O l2,O y1,O y2,Z I 2,O pJ,O pI,O pG,O pF,O pE,O pz]) 2 mM [2,4,4,2,4,3,6,6,5] [(2,#[Z I 900,Z I 950,Z I 590,Z I 7,Z I 6,O a1,O a2,O a3,O a4,O a5,O a6,O l1,O l2,O y1,O y2,Z I 2,O pJ,O pI,O pG,O pF,O pE,O pz]),(3,#[Z I 900,Z I 950,Z I 590,Z I 7,Z I 6,O a1,O a2,O a3,O a4,O a5,O a6,O l1,O l2,O y1,O y2,Z I 2,O pJ,O pI,O pG,O pF,O pE,O pz])] (fun W M=>⟨(B8.at M),.inl ⟨rfl,by cases hv rfl;rfl⟩⟩)
theorem Af {a1 a2 a3 a4 a5 a6 l1 l2 y1 y2 r1 r2 r3 r4 r5 r6:ByteArray} {k:Int} (hx:bY (jw ⟨⟨a1,a2⟩,⟨a3,a4⟩,⟨a5,a6⟩⟩ ⟨l1,l2⟩ ⟨y1,y2⟩ 3) ⟨⟨r1,r2⟩,⟨r3,r4⟩,⟨r5,r6⟩⟩ k) (w:World) (ht:iA.Pow w) (hc:adapt.fM w) (hs:lF w):Calls Tryz.prog 33 #[aB #[O a1,O a2,O a3,O a4,O a5,O a6,O l1,O l2,O y1,O y2,Z I 3]] w (Try w (aB #[Z I 800,Z I 800,Z I 525,Z I 1,Z I 1,O a1,O a2,O a3,O a4,O a5,O a6,O l1,O l2,O y1,O y2,Z I 3,O r1,O r2,O r3,O r4,O r5,O r6]) k):=by
 unfold jw at hx;obtain ⟨TS,hs⟩:=hs;refine Fx.door Tryz.func33 rfl (.ro hs (.nil w [])) ?_;have HR:=hx;have B0:=Fx.DT.nil w;refine Fx.new [] 1 #[O a1,O a2,O a3,O a4,O a5,O a6,O l1,O l2,O y1,O y2,Z I 3] 42 [] [] fun iK=>?_;refine Fx.bH [] 2 76 [] [] fun mM=>?_;refine Fx.call [4] 8 [] [] (fun W M=>light.pK ⟨⟨a1,a2⟩,⟨a3,a4⟩,⟨a5,a6⟩⟩ _) ?_;obtain ⟨_,k3,EX,HN⟩:=ak HR;refine Fx.bS dK [] 9 [] [] (fun W M=>dF (bY.of EX) _) (fun W M=>(B0.at M)) HN fun h0 HR=>?_;subst h0;have hS:light.qK ⟨⟨a1,a2⟩,⟨a3,a4⟩,⟨a5,a6⟩⟩=0:=congrArg Prod.snd EX;refine Fx.call [4] 12 [] [] (fun W M=>dw.gQ ⟨l1,l2⟩ _) ?_;obtain ⟨_,k4,EX,HN⟩:=ak HR;refine Fx.bS dK [] 13 [] [] (fun W M=>dF (bY.of EX) _) (fun W M=>(B0.at M)) HN fun h0 HR=>?_;subst h0
 refine Fx.call [4] 16 [] [] (fun W M=>dw.gQ ⟨y1,y2⟩ _) ?_;obtain ⟨_,k5,EX,HN⟩:=ak HR;refine Fx.bS dK [] 17 [] [] (fun W M=>dF (bY.of EX) _) (fun W M=>(B0.at M)) HN fun h0 HR=>?_;subst h0;refine Fx.bH [4] 3 76 [(19,aB #[Z I 0,Z I 0,Z I 0,Z I 0,Z I 0,O a1,O a2,O a3,O a4,O a5,O a6,O l1,O l2,O y1,O y2,Z I 3,O ⟨#[]⟩,O ⟨#[]⟩,O ⟨#[]⟩,O ⟨#[]⟩,O ⟨#[]⟩,O ⟨#[]⟩])] [] fun Av=>?_;refine Fx.kG [6] 20 [] [(3,#[Z I 0,Z I 0,Z I 0,Z I 0,Z I 0,O a1,O a2,O a3,O a4,O a5,O a6,O l1,O l2,O y1,O y2,Z I 3,O ⟨#[]⟩,O ⟨#[]⟩,O ⟨#[]⟩,O ⟨#[]⟩,O ⟨#[]⟩,O ⟨#[]⟩])] (fun W M=>Dp _ (ht.later (B0.at M)) (hc.later (B0.at M))) ?_
 rintro W w7 e M ⟨am,nm,cm,rfl,D7,hmv⟩;refine ⟨D7,fun M7=>?_⟩;have B7:=B0.next M7
 refine Fx.call [] 23 [] [] (fun W M=>xX (a:=am) (n:=nm) (c:=cm) _) ?_;refine Fx.draw [] [0,1,2,3,4,5,6,7,8,5009] [] [(4,aj am nm cm)] [] ?_;refine Fx.kG [] 29 [(25,aj (some ⟨Av,16,none⟩) 3 3)] [] (fun W M=>yx (rest:=[O l1,O l2,O y1,O y2,Z I 3]) hS _ (hmv.keep (M7.keep M)) (M.box (b:=iK) 1) (ht.later (B7.at M))) ?_;rintro W w8 e M ⟨ao,no,co,rfl,D8,hfr⟩;refine ⟨D8,fun M8=>?_⟩;have B8:=B7.next M8
 obtain ⟨⟨⟨pJ,pI⟩,⟨pG,pF⟩,⟨pE,pz⟩⟩,k9,EX,HN⟩:=ak HR;refine Fx.bS dK [] 32 [] [] (fun W M=>xY (a:=ao) (n:=no) (c:=co) (bY.of EX) _) (fun W M=>(B8.at M)) HN fun h0 HR=>?_;subst h0;rw [EX] at hfr;obtain ⟨rfl,ad,rfl,hsrc⟩:=hfr rfl
 refine Fx.KL (b:=Av) (T:=76) (cur:=#[Z I 0,Z I 0,Z I 0,Z I 0,Z I 0,O a1,O a2,O a3,O a4,O a5,O a6,O l1,O l2,O y1,O y2,Z I 3,O ⟨#[]⟩,O ⟨#[]⟩,O ⟨#[]⟩,O ⟨#[]⟩,O ⟨#[]⟩,O ⟨#[]⟩]) (off:=16) (dl:=3) (dc:=3) (sl:=3) (sc:=co) (ad:=ad) (elem:=38) (size:=2) (ty:=3) (dT:=130) (sT:=130) 1 [] 33 3 [] [] [O pJ,O pI,O pG,O pF,O pE,O pz] #[Z I 0,Z I 0,Z I 0,Z I 0,Z I 0,O a1,O a2,O a3,O a4,O a5,O a6,O l1,O l2,O y1,O y2,Z I 3,O pJ,O pI,O pG,O pF,O pE,O pz] (Z I 3) (fun W M=>(hsrc.keep (M8.keep M)).cells) Tryz.underlying130 zk ?_;obtain ⟨v10,k10,EX,HN⟩:=ak HR
 refine Fx.call [1,6] 41 [(34,Z I 0)] [] (fun W M=>mZ EX _) ?_;refine Fx.bS dK [] 44 [] [] (fun W M=>gu (v:=v10) _) (fun W M=>(B8.at M)) HN fun h0 HR=>?_;subst h0;refine Fx.part 1 [] [(45,aC (decide (v10≤0)))] [] ?_;refine Fx.splitB (fun hf1=>?_) (fun hf1=>?_)
 ·skip
  replace HR:=bY.pos HR (of_decide_eq_true hf1);obtain ⟨_,k12,EX,HN⟩:=ak HR;refine Fx.bS dK [1] 46 [] [] (fun W M=>dF (bY.of EX) _) (fun W M=>(B8.at M)) HN fun h0 HR=>?_;subst h0;exact absurd (show (280:Int)=0 from congrArg Prod.snd EX) zd
 ·skip
  replace HR:=bY.neg HR (of_decide_eq_false hf1);obtain ⟨v13,k13,EX,HN⟩:=ak HR;refine Fx.call [2,1,6] 41 [(34,Z I 1)] [] (fun W M=>mZ EX _) ?_;refine Fx.bS dK [] 44 [] [] (fun W M=>gu (v:=v13) _) (fun W M=>(B8.at M)) HN fun h0 HR=>?_;subst h0;refine Fx.part 1 [] [(45,aC (decide (v13≤0)))] [] ?_;refine Fx.splitB (fun hf2=>?_) (fun hf2=>?_)
  ·skip
   replace HR:=bY.pos HR (of_decide_eq_true hf2);obtain ⟨_,k15,EX,HN⟩:=ak HR;refine Fx.bS dK [1] 46 [] [] (fun W M=>dF (bY.of EX) _) (fun W M=>(B8.at M)) HN fun h0 HR=>?_;subst h0;exact absurd (show (280:Int)=0 from congrArg Prod.snd EX) zd
  ·skip
   replace HR:=bY.neg HR (of_decide_eq_false hf2);obtain ⟨v16,k16,EX,HN⟩:=ak HR;refine Fx.call [2,1,6] 41 [(34,Z I 2)] [] (fun W M=>mZ EX _) ?_;refine Fx.bS dK [] 44 [] [] (fun W M=>gu (v:=v16) _) (fun W M=>(B8.at M)) HN fun h0 HR=>?_;subst h0;refine Fx.part 1 [] [(45,aC (decide (v16≤0)))] [] ?_;refine Fx.splitB (fun hf3=>?_) (fun hf3=>?_)
   ·skip
    replace HR:=bY.pos HR (of_decide_eq_true hf3);obtain ⟨_,k18,EX,HN⟩:=ak HR;refine Fx.bS dK [1] 46 [] [] (fun W M=>dF (bY.of EX) _) (fun W M=>(B8.at M)) HN fun h0 HR=>?_;subst h0;exact absurd (show (280:Int)=0 from congrArg Prod.snd EX) zd
   ·skip
    replace HR:=bY.neg HR (of_decide_eq_false hf3);refine Fx.draw [2,2] (bI 6) [] [(34,Z I 3)] [] ?_;obtain ⟨⟨oO,t19⟩,k19,EX,HN⟩:=ak HR;refine Fx.bS dK [4] 50 [(49,aB #[O l1,O l2])] [] (fun W M=>fB (bY.of EX) _ (ht.later (B8.at M))) (fun W M=>(B8.at M)) HN fun h0 HR=>?_;subst h0;obtain ⟨⟨s20,t20⟩,k20,EX,HN⟩:=ak HR;refine Fx.bS dK [] 51 [] [] (fun W M=>fB (bY.of EX) _ (ht.later (B8.at M))) (fun W M=>(B8.at M)) HN fun h0 HR=>?_;subst h0;obtain ⟨v21,k21,EX,HN⟩:=ak HR;refine Fx.bS dK [] 52 [] [] (fun W M=>sH (bY.of EX) _) (fun W M=>(B8.at M)) HN fun h0 HR=>?_;subst h0;refine Fx.part 1 [] [(53,aC (!v21))] [] ?_;refine Fx.splitB (fun I7=>?_) (fun I7=>?_)
    ·skip
     replace HR:=bY.pos HR (by simpa using I7);obtain ⟨_,k22,EX,HN⟩:=ak HR;refine Fx.bS dK [1] 54 [] [] (fun W M=>dF (bY.of EX) _) (fun W M=>(B8.at M)) HN fun h0 HR=>?_;subst h0;exact absurd (show (280:Int)=0 from congrArg Prod.snd EX) zd
    ·skip
     replace HR:=bY.neg HR (by simpa using I7);obtain ⟨v23,k23,EX,HN⟩:=ak HR;refine Fx.call [2,4] 57 [] [] (fun W M=>mZ EX _) ?_;refine Fx.bS dK [] 60 [] [] (fun W M=>gu (v:=v23) _) (fun W M=>(B8.at M)) HN fun h0 HR=>?_;subst h0;refine Fx.part 1 [] [(61,aC (decide (v23≤0)))] [] ?_;refine Fx.splitB (fun I6=>?_) (fun I6=>?_)
     ·skip
      replace HR:=bY.pos HR (of_decide_eq_true I6);obtain ⟨_,k25,EX,HN⟩:=ak HR;refine Fx.bS dK [0,0,0,0,1] 74 [] [] (fun W M=>dF (bY.of EX) _) (fun W M=>(B8.at M)) HN fun h0 HR=>?_;subst h0;exact absurd (show (280:Int)=0 from congrArg Prod.snd EX) zd
     ·skip
      replace HR:=bY.neg HR (of_decide_eq_false I6);obtain ⟨v26,k26,EX,HN⟩:=ak HR;refine Fx.call [4,4] 68 [(62,aC false)] [] (fun W M=>M9 EX _) ?_;refine Fx.bS dK [] 71 [] [] (fun W M=>gu (v:=v26) _) (fun W M=>(B8.at M)) HN fun h0 HR=>?_;subst h0
      skip
      refine Fx.part 1 [] [(72,aC (decide (0<v26)))] [] ?_;refine Fx.splitB (fun I5=>?_) (fun I5=>?_)
      ·skip
       replace HR:=bY.pos HR (of_decide_eq_true I5);obtain ⟨_,k28,EX,HN⟩:=ak HR;refine Fx.bS dK [1] 74 [] [] (fun W M=>dF (bY.of EX) _) (fun W M=>(B8.at M)) HN fun h0 HR=>?_;subst h0;exact absurd (show (280:Int)=0 from congrArg Prod.snd EX) zd
      ·skip
       replace HR:=bY.neg HR (of_decide_eq_false I5);obtain ⟨hk,hv⟩:=HR;cases hk
       exact Fx.mU (cs:=#[Z I 800,Z I 800,Z I 525,Z I 1,Z I 1,O a1,O a2,O a3,O a4,O a5,O a6,O l1,O l2,O y1,O y2,Z I 3,O pJ,O pI,O pG,O pF,O pE,O pz]) 2 mM [2,4,4,2,4,3,6,6,5] [(2,#[Z I 800,Z I 800,Z I 525,Z I 1,Z I 1,O a1,O a2,O a3,O a4,O a5,O a6,O l1,O l2,O y1,O y2,Z I 3,O pJ,O pI,O pG,O pF,O pE,O pz]),(3,#[Z I 800,Z I 800,Z I 525,Z I 1,Z I 1,O a1,O a2,O a3,O a4,O a5,O a6,O l1,O l2,O y1,O y2,Z I 3,O pJ,O pI,O pG,O pF,O pE,O pz])] (fun W M=>⟨(B8.at M),.inl ⟨rfl,by cases hv rfl;rfl⟩⟩)
end Go.Proofs.view
