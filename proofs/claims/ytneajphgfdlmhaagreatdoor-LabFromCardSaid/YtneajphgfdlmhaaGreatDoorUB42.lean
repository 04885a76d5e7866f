/- Lemmas for the proof. No condition. -/
import Derived.Test.YtneajphgfdlmhaaGreatDoorUB41
import Derived.Defers
import Derived.Recover
import Derived.Tactics2
set_option linter.unusedVariables false
set_option linter.unusedSimpArgs false
set_option maxRecDepth 100000
set_option maxHeartbeats 16000000
open Go.Ending renaming returned → ah
open Go.IntKind renaming i64 → I
open Go.Value renaming agg → au, bool → ak, int → Z, pointer → aA, string → O, tuple → aD
open List renaming cons_append → dx, length_cons → bg, range → dF, set_cons_succ → aN, set_cons_zero → aM
open Nat renaming le_refl → aC
namespace Go.Proofs.lab
open Go Go.RowKit Go.SW Go.Num Go.Mem Go.Proofs Go.gB Go.Fx
def DZ (t w:light.iC):light.iC × Int :=
 bL t0 (nk 16 1) fun h=>bL t0 (tY t.x h) fun s=>bL t0 (nk 116 1) fun d=>bL t0 (oN s d) fun y =>
 bL t0 (nk 500 1) fun d1=>bL t0 (oN t.y d1) fun a=>bL t0 (tY y a) fun x =>
 bL t0 (nk 200 1) fun d2=>bL t0 (oN t.z d2) fun b=>bL t0 (rT y b) fun z =>
 bL t0 (gJ x) fun p=>bL t0 (kM p w.x) fun o1=>bL t0 (gJ y) fun q=>bL t0 (kM q w.y) fun o2=>bL t0 (gJ z) fun r=>bL t0 (kM r w.z) fun o3 =>
 bL t0 (iK o1) fun c1=>if c1<0 then (t0,9) else bL t0 (iK o2) fun c2=>if c2<0 then (t0,9) else bL t0 (iK o3) fun c3=>if c3<0 then (t0,9) else qx ⟨o1,o2,o3⟩
theorem Nw {a1 a2 a3 a4 a5 a6 b1 b2 b3 b4 b5 b6 y1 y2 y3 y4 y5 y6:ByteArray} {k:Int} {p q:Nat} (hx:gq (DZ ⟨⟨a1,a2⟩,⟨a3,a4⟩,⟨a5,a6⟩⟩ ⟨⟨b1,b2⟩,⟨b3,b4⟩,⟨b5,b6⟩⟩) ⟨⟨y1,y2⟩,⟨y3,y4⟩,⟨y5,y6⟩⟩ k) (w:World)
  (hp:aB w p #[O a1,O a2,O a3,O a4,O a5,O a6] 34) (hq:aB w q #[O b1,O b2,O b3,O b4,O b5,O b6] 34) (ht:jN.Pow w) :
  Calls Tryz.prog 102 #[aA (some ⟨p,0,none⟩),aA (some ⟨q,0,none⟩)] w (Try w (au #[O y1,O y2,O y3,O y4,O y5,O y6]) k):=by
 unfold DZ at hx;refine Fx.door Tryz.func102 rfl (.ro hp (.ro hq (.nil w []))) ?_;have HR:=hx;refine Fx.aV [] 2 34 [] [] fun fT=>?_;refine Fx.draw [] (dF 8) [] [] [] ?_;obtain ⟨⟨s2,t2⟩,_,EX,HN⟩:=aK HR;refine Fx.cO jc [3] 13 [(12,au #[O a1,O a2])] [] (fun W M=>mg (gq.of EX) _ (ht.later M.below)) HN fun _ HR=>?_;obtain ⟨⟨s3,t3⟩,_,EX,HN⟩:=aK HR;refine Fx.cO jc [] 14 [] [] (fun W M=>Qb (gq.of EX) _ (ht.later M.below)) HN fun _ HR=>?_;obtain ⟨⟨s4,t4⟩,_,EX,HN⟩:=aK HR;refine Fx.cO jc [] 15 [] [] (fun W M=>mg (gq.of EX) _ (ht.later M.below)) HN fun _ HR=>?_;obtain ⟨⟨s5,t5⟩,_,EX,HN⟩:=aK HR;refine Fx.cO jc [] 16 [] [] (fun W M=>AX (gq.of EX) _ (ht.later M.below)) HN fun _ HR=>?_;refine Fx.qA [] 3 32 [] [] fun P9=>?_;refine Fx.draw [6] (dF 8) [] [] [(3,#[O s5,O t5])] ?_
 obtain ⟨⟨s7,t7⟩,_,EX,HN⟩:=aK HR;refine Fx.cO jc [6,3] 20 [(17,au #[O s5,O t5]),(19,au #[O a3,O a4])] [] (fun W M=>mg (gq.of EX) _ (ht.later M.below)) HN fun _ HR=>?_;obtain ⟨⟨s8,t8⟩,_,EX,HN⟩:=aK HR;refine Fx.cO jc [] 21 [] [] (fun W M=>AX (gq.of EX) _ (ht.later M.below)) HN fun _ HR=>?_;obtain ⟨⟨s9,t9⟩,_,EX,HN⟩:=aK HR;refine Fx.cO jc [] 22 [] [] (fun W M=>Qb (gq.of EX) _ (ht.later M.below)) HN fun _ HR=>?_;refine Fx.qA [] 4 32 [] [] fun NJ=>?_;refine Fx.draw [7] (dF 8) [] [] [(4,#[O s9,O t9])] ?_;obtain ⟨⟨s11,t11⟩,_,EX,HN⟩:=aK HR;refine Fx.cO jc [6,3] 26 [(23,au #[O s5,O t5]),(25,au #[O a5,O a6])] [] (fun W M=>mg (gq.of EX) _ (ht.later M.below)) HN fun _ HR=>?_;obtain ⟨⟨s12,t12⟩,_,EX,HN⟩:=aK HR
 refine Fx.cO jc [] 27 [] [] (fun W M=>AX (gq.of EX) _ (ht.later M.below)) HN fun _ HR=>?_;obtain ⟨⟨s13,t13⟩,_,EX,HN⟩:=aK HR;refine Fx.cO jc [] 28 [] [] (fun W M=>ab6 (gq.of EX) _ (ht.later M.below)) HN fun _ HR=>?_;refine Fx.qA [] 5 32 [] [] fun an5=>?_;refine Fx.aV [8] 6 34 [] [(5,#[O s13,O t13])] fun K8=>?_;refine Fx.aV [7,6,8,1] 8 32 [(32,au #[O s9,O t9,O s5,O t5,O s13,O t13]),(33,Z I 0),(35,Z I 0),(36,au #[O s9,O t9])] [] fun aB1=>?_;refine Fx.draw [10] [0,3,5,6,7,1,2,4,8,9,10] [] [(7,Z I 0)] [(7,#[O s9,O t9])] ?_;refine Fx.call [10,4] 38 [(37,Z I 0),(40,au #[O s9,O t9]),(44,au #[O b1,O b2])] [] (fun W M=>AZ _) ?_;obtain ⟨⟨s18,t18⟩,_,EX,HN⟩:=aK HR
 refine Fx.cO jc [] 41 [] [] (fun W M=>rZ (gq.of EX) _ (ht.later M.below)) HN fun _ HR=>?_;obtain ⟨⟨s19,t19⟩,_,EX,HN⟩:=aK HR;refine Fx.cO jc [] 45 [] [] (fun W M=>JX (gq.of EX) _ (ht.later M.below)) HN fun _ HR=>?_;refine Fx.aV [9,1] 8 32 [(33,Z I 1),(35,Z I 1),(36,au #[O s5,O t5])] [(6,#[O s19,O t19,O ⟨#[]⟩,O ⟨#[]⟩,O ⟨#[]⟩,O ⟨#[]⟩])] fun aM2=>?_;refine Fx.draw [11] [0,3,5,6,7,1,2,4,8,9,10] [] [(7,Z I 1)] [(8,#[O s5,O t5])] ?_;refine Fx.call [11,4] 38 [(37,Z I 1),(40,au #[O s5,O t5]),(44,au #[O b3,O b4])] [] (fun W M=>AZ _) ?_;obtain ⟨⟨s22,t22⟩,_,EX,HN⟩:=aK HR;refine Fx.cO jc [] 41 [] [] (fun W M=>rZ (gq.of EX) _ (ht.later M.below)) HN fun _ HR=>?_;obtain ⟨⟨s23,t23⟩,_,EX,HN⟩:=aK HR
 refine Fx.cO jc [] 45 [] [] (fun W M=>JX (gq.of EX) _ (ht.later M.below)) HN fun _ HR=>?_;refine Fx.aV [9,1] 8 32 [(33,Z I 2),(35,Z I 2),(36,au #[O s13,O t13])] [(6,#[O s19,O t19,O s23,O t23,O ⟨#[]⟩,O ⟨#[]⟩])] fun aM0=>?_;refine Fx.draw [12] [0,3,5,6,7,1,2,4,8,9,10] [] [(7,Z I 2)] [(9,#[O s13,O t13])] ?_;refine Fx.call [12,4] 38 [(37,Z I 2),(40,au #[O s13,O t13]),(44,au #[O b5,O b6])] [] (fun W M=>AZ _) ?_;obtain ⟨⟨s26,t26⟩,_,EX,HN⟩:=aK HR;refine Fx.cO jc [] 41 [] [] (fun W M=>rZ (gq.of EX) _ (ht.later M.below)) HN fun _ HR=>?_;obtain ⟨⟨s27,t27⟩,_,EX,HN⟩:=aK HR;refine Fx.cO jc [] 45 [] [] (fun W M=>JX (gq.of EX) _ (ht.later M.below)) HN fun _ HR=>?_
 refine Fx.aV [9,2,9,1] 10 32 [(33,Z I 3),(48,au #[O s19,O t19,O s23,O t23,O s27,O t27]),(49,Z I 0),(51,au #[O s19,O t19])] [(6,#[O s19,O t19,O s23,O t23,O s27,O t27])] fun aL8=>?_;obtain ⟨v29,k29,EX,HN⟩:=aK HR;refine Fx.call [13,13] 53 [] [(10,#[O s19,O t19])] (fun W M=>Xe EX _) ?_;refine Fx.cO jc [] 56 [] [] (fun W M=>BG (v:=v29) _) HN fun _ HR=>?_;refine Fx.part 1 [] [(57,ak (decide (v29<0)))] [] ?_;refine Fx.splitB (fun hf1=>?_) (fun hf1=>?_)
 ·skip
  replace HR:=gq.pos HR (of_decide_eq_true hf1);refine Fx.panics (v:=.iface 43 (Z I 9)) 5 [1] [] (fun W M=>?_);have HB:=M.below;obtain ⟨hk, -⟩:=HR;cases hk;exact ⟨HB,.inr ⟨by decide,rfl⟩⟩
 ·skip
  replace HR:=gq.neg HR (of_decide_eq_false hf1);refine Fx.aV [2,1] 10 32 [(49,Z I 1),(51,au #[O s23,O t23])] [] fun aL7=>?_;obtain ⟨v32,k32,EX,HN⟩:=aK HR;refine Fx.call [14,14] 53 [] [(11,#[O s23,O t23])] (fun W M=>Xe EX _) ?_;refine Fx.cO jc [] 56 [] [] (fun W M=>BG (v:=v32) _) HN fun _ HR=>?_;refine Fx.part 1 [] [(57,ak (decide (v32<0)))] [] ?_;refine Fx.splitB (fun hf2=>?_) (fun hf2=>?_)
  ·skip
   replace HR:=gq.pos HR (of_decide_eq_true hf2);refine Fx.panics (v:=.iface 43 (Z I 9)) 5 [1] [] (fun W M=>?_);have HB:=M.below;obtain ⟨hk, -⟩:=HR;cases hk;exact ⟨HB,.inr ⟨by decide,rfl⟩⟩
  ·skip
   replace HR:=gq.neg HR (of_decide_eq_false hf2);refine Fx.aV [2,1] 10 32 [(49,Z I 2),(51,au #[O s27,O t27])] [] fun ba8=>?_;obtain ⟨v35,k35,EX,HN⟩:=aK HR;refine Fx.call [15,15] 53 [] [(12,#[O s27,O t27])] (fun W M=>Xe EX _) ?_;refine Fx.cO jc [] 56 [] [] (fun W M=>BG (v:=v35) _) HN fun _ HR=>?_;refine Fx.part 1 [] [(57,ak (decide (v35<0)))] [] ?_;refine Fx.splitB (fun hf3=>?_) (fun hf3=>?_)
   ·skip
    replace HR:=gq.pos HR (of_decide_eq_true hf3);refine Fx.panics (v:=.iface 43 (Z I 9)) 5 [1] [] (fun W M=>?_);have HB:=M.below;obtain ⟨hk, -⟩:=HR;cases hk;exact ⟨HB,.inr ⟨by decide,rfl⟩⟩
   ·skip
    replace HR:=gq.neg HR (of_decide_eq_false hf3);obtain ⟨hk,hv⟩:=HR;cases hk
    exact Fx.iy (cs:=#[O s19,O t19,O s23,O t23,O s27,O t27]) 2 fT [2,2,9,5] [(2,#[O s19,O t19,O s23,O t23,O s27,O t27])] (fun W M=>⟨M.below,.inl ⟨rfl,by cases hv rfl;rfl⟩⟩)
def La (l0 l1 l2:Int × Int) (w:light.iC):((Int × Int) × (Int × Int) × (Int × Int)) × Int :=
 bL z3 (aW.Ut (16*1000000000000)) fun p=>bL z3 (aW.kH l0 p) fun s=>bL z3 (aW.qw s 1 116) fun y =>
 bL z3 (aW.qw l1 1 500) fun a=>bL z3 (aW.kH y a) fun x=>bL z3 (aW.qw l2 1 200) fun b=>bL z3 (aW.wH y b) fun z =>
 bL z3 (J7 x) fun p1=>bL z3 (aW.eF w.x) fun q1=>bL z3 (aW.uR p1 q1) fun o1 =>
 bL z3 (J7 y) fun p2=>bL z3 (aW.eF w.y) fun q2=>bL z3 (aW.uR p2 q2) fun o2 =>
 bL z3 (J7 z) fun p3=>bL z3 (aW.eF w.z) fun q3=>bL z3 (aW.uR p3 q3) fun o3=>qx (o1,o2,o3)
theorem ZN {l1 l2 l3 l4 l5 l6:Int} {b1 b2 b3 b4 b5 b6:ByteArray} {x1 x2 x3 x4 x5 x6 k:Int} {p q:Nat} (hx:gq (La (l1,l2) (l3,l4) (l5,l6) ⟨⟨b1,b2⟩,⟨b3,b4⟩,⟨b5,b6⟩⟩) ((x1,x2),(x3,x4),(x5,x6)) k) (w:World)
  (hp:aB w p #[Z I l1,Z I l2,Z I l3,Z I l4,Z I l5,Z I l6] 42) (hq:aB w q #[O b1,O b2,O b3,O b4,O b5,O b6] 34) (ht:jN.Pow w) (he:whole.Er w) :
  Calls Tryz.prog 108 #[aA (some ⟨p,0,none⟩),aA (some ⟨q,0,none⟩)] w (Try w (au #[Z I x1,Z I x2,Z I x3,Z I x4,Z I x5,Z I x6]) k):=by
 unfold La at hx;refine Fx.door Tryz.func108 rfl (.ro hp (.ro hq (.nil w []))) ?_;have HR:=hx;refine Fx.aV [] 2 42 [] [] fun fT=>?_;refine Fx.draw [] (dF 10) [] [] [] ?_;obtain ⟨⟨x2,y2⟩,k2,EX,HN⟩:=aK HR;refine Fx.cO jc [3] 11 [(10,au #[Z I l1,Z I l2])] [] (fun W M=>BD (gq.of EX) _) HN fun h0 HR=>?_;subst h0;obtain ⟨⟨x3,y3⟩,k3,EX,HN⟩:=aK HR;refine Fx.call [] 12 [] [] (fun W M=>ad3 EX _) ?_;refine Fx.cO jc [] 15 [] [] (fun W M=>jA (x:=x3) (y:=y3) _) HN fun h0 HR=>?_;subst h0;obtain ⟨⟨x5,y5⟩,k5,EX,HN⟩:=aK HR;refine Fx.cO jc [] 16 [] [] (fun W M=>vR (gq.of EX) _) HN fun h0 HR=>?_;subst h0;have VY:=aW.O5 EX;refine Fx.qA [] 3 40 [] [] fun P9=>?_;refine Fx.draw [6] (dF 10) [] [] [(3,#[Z I x5,Z I y5])] ?_;obtain ⟨⟨x7,y7⟩,k7,EX,HN⟩:=aK HR
 refine Fx.cO jc [6,3] 20 [(17,au #[Z I x5,Z I y5])] [] (fun W M=>vR (gq.of EX) _) HN fun h0 HR=>?_;subst h0;obtain ⟨⟨x8,y8⟩,k8,EX,HN⟩:=aK HR;refine Fx.call [] 21 [] [] (fun W M=>ad3 EX _) ?_;have VX:=aW.Qc EX;refine Fx.cO jc [] 24 [] [] (fun W M=>jA (x:=x8) (y:=y8) _) HN fun h0 HR=>?_;subst h0;refine Fx.qA [] 4 40 [] [] fun NJ=>?_;refine Fx.draw [7] (dF 10) [] [] [(4,#[Z I x8,Z I y8])] ?_;obtain ⟨⟨x11,y11⟩,k11,EX,HN⟩:=aK HR;refine Fx.cO jc [6,3] 28 [(25,au #[Z I x5,Z I y5])] [] (fun W M=>vR (gq.of EX) _) HN fun h0 HR=>?_;subst h0;obtain ⟨⟨UE,UD⟩,k12,EX,HN⟩:=aK HR;refine Fx.call [] 29 [] [] (fun W M=>P7 EX _) ?_;have VZ:=aW.OV EX;refine Fx.cO jc [] 32 [] [] (fun W M=>jA (x:=UE) (y:=UD) _) HN fun h0 HR=>?_;subst h0
 refine Fx.qA [] 5 40 [] [] fun an5=>?_;refine Fx.aV [8] 6 42 [] [(5,#[Z I UE,Z I UD])] fun K8=>?_;refine Fx.aV [7,6,8,1] 8 40 [(36,au #[Z I x8,Z I y8,Z I x5,Z I y5,Z I UE,Z I UD]),(37,Z I 0),(39,Z I 0),(40,au #[Z I x8,Z I y8])] [] fun aB1=>?_;refine Fx.draw [10] [0,1,3,4,5,2,6,7,8,9,10,11,12] [] [(7,Z I 0)] [(7,#[Z I x8,Z I y8])] ?_;obtain ⟨⟨x17,y17⟩,k17,EX,HN⟩:=aK HR;refine Fx.cO jc [10,4] 43 [(41,Z I 0),(46,au #[O b1,O b2])] [] (fun W M=>uV (gq.of EX) _ (ht.later M.below) (he.later M.below) (VX (by trivial))) HN fun h0 HR=>?_;subst h0;obtain ⟨⟨x18,y18⟩,k18,EX,HN⟩:=aK HR;refine Fx.cO jc [] 47 [] [] (fun W M=>qI (gq.of EX) _ (ht.later M.below) (he.later M.below)) HN fun h0 HR=>?_;subst h0
 obtain ⟨⟨x19,y19⟩,k19,EX,HN⟩:=aK HR;refine Fx.call [] 48 [] [] (fun W M=>Xg EX _) ?_;refine Fx.cO jc [] 51 [] [] (fun W M=>jA (x:=x19) (y:=y19) _) HN fun h0 HR=>?_;subst h0;refine Fx.aV [9,1] 8 40 [(37,Z I 1),(39,Z I 1),(40,au #[Z I x5,Z I y5])] [(6,#[Z I x19,Z I y19,Z I 0,Z I 0,Z I 0,Z I 0])] fun aM1=>?_;refine Fx.draw [11] [0,1,3,4,5,2,6,7,8,9,10,11,12] [] [(7,Z I 1)] [(8,#[Z I x5,Z I y5])] ?_;obtain ⟨⟨x22,y22⟩,k22,EX,HN⟩:=aK HR;refine Fx.cO jc [11,4] 43 [(41,Z I 1),(46,au #[O b3,O b4])] [] (fun W M=>uV (gq.of EX) _ (ht.later M.below) (he.later M.below) (VY (by trivial))) HN fun h0 HR=>?_;subst h0;obtain ⟨⟨x23,y23⟩,k23,EX,HN⟩:=aK HR
 refine Fx.cO jc [] 47 [] [] (fun W M=>qI (gq.of EX) _ (ht.later M.below) (he.later M.below)) HN fun h0 HR=>?_;subst h0;obtain ⟨⟨x24,y24⟩,k24,EX,HN⟩:=aK HR;refine Fx.call [] 48 [] [] (fun W M=>Xg EX _) ?_;refine Fx.cO jc [] 51 [] [] (fun W M=>jA (x:=x24) (y:=y24) _) HN fun h0 HR=>?_;subst h0;refine Fx.aV [9,1] 8 40 [(37,Z I 2),(39,Z I 2),(40,au #[Z I UE,Z I UD])] [(6,#[Z I x19,Z I y19,Z I x24,Z I y24,Z I 0,Z I 0])] fun aL9=>?_;refine Fx.draw [12] [0,1,3,4,5,2,6,7,8,9,10,11,12] [] [(7,Z I 2)] [(9,#[Z I UE,Z I UD])] ?_;obtain ⟨⟨x27,y27⟩,k27,EX,HN⟩:=aK HR;refine Fx.cO jc [12,4] 43 [(41,Z I 2),(46,au #[O b5,O b6])] [] (fun W M=>uV (gq.of EX) _ (ht.later M.below) (he.later M.below) (VZ (by trivial))) HN fun h0 HR=>?_;subst h0
 obtain ⟨⟨x28,y28⟩,k28,EX,HN⟩:=aK HR;refine Fx.cO jc [] 47 [] [] (fun W M=>qI (gq.of EX) _ (ht.later M.below) (he.later M.below)) HN fun h0 HR=>?_;subst h0;obtain ⟨⟨x29,y29⟩,k29,EX,HN⟩:=aK HR;refine Fx.call [] 48 [] [] (fun W M=>Xg EX _) ?_;refine Fx.cO jc [] 51 [] [] (fun W M=>jA (x:=x29) (y:=y29) _) HN fun h0 HR=>?_;subst h0;obtain ⟨hk,hv⟩:=HR;cases hk
 exact Fx.iy (cs:=#[Z I x19,Z I y19,Z I x24,Z I y24,Z I x29,Z I y29]) 2 fT [9,2,9,5] [(2,#[Z I x19,Z I y19,Z I x24,Z I y24,Z I x29,Z I y29]),(6,#[Z I x19,Z I y19,Z I x24,Z I y24,Z I x29,Z I y29])] (fun W M=>⟨M.below,.inl ⟨rfl,by cases hv rfl;rfl⟩⟩)
def Ph (b c:Int × Int):(Int × Int) × Int:=bL (0,0) (aW.WV b c) fun q=>bL (0,0) (aW.WY q (-1000000000000) 1000000000000) qx
theorem Ih {u v c d x y k:Int} {p:Nat} (hx:gq (Ph (u,v) (c,d)) (x,y) k) (w:World) (hp:aB w p #[Z I c,Z I d] 40) :
  Calls Tryz.prog 72 #[au #[Z I u,Z I v],aA (some ⟨p,0,none⟩)] w (Try w (au #[Z I x,Z I y]) k):=by
 unfold Ph at hx;refine Fx.door Tryz.func72 rfl (.ro hp (.nil w [])) ?_;have HR:=hx;refine Fx.new [] 2 #[Z I u,Z I v] 40 [] [] fun fT=>?_;refine Fx.aV [] 3 40 [] [] fun fJ=>?_;obtain ⟨⟨x3,y3⟩,k3,EX,HN⟩:=aK HR;refine Fx.call [4,3] 6 [] [] (fun W M=>aB0 EX _) ?_;refine Fx.cO jc [] 9 [] [] (fun W M=>jA (x:=x3) (y:=y3) _) HN fun _ HR=>?_;obtain ⟨⟨x5,y5⟩,k5,EX,HN⟩:=aK HR;refine Fx.call [] 10 [] [] (fun W M=>ZJ EX _) ?_;refine Fx.cO jc [] 13 [] [] (fun W M=>jA (x:=x5) (y:=y5) _) HN fun _ HR=>?_;obtain ⟨hk,hv⟩:=HR;cases hk
 exact Fx.iy (cs:=#[Z I x5,Z I y5]) 2 fJ [5] [(2,#[Z I x5,Z I y5])] (fun W M=>⟨M.below,.inl ⟨rfl,by cases hv rfl;rfl⟩⟩)
end Go.Proofs.lab
namespace Go.Proofs.lab
open Go Go.RowKit Go.SW Go.Num Go.Mem Go.Proofs Go.Dec Go.gB
theorem Aj (er:Int) (w:World):(Instr.typeAssert (.iface 43 (Z I er)) 20 43 true).run Tryz.prog w= .ok (aD #[Z I er,ak true]) w:=by kernel_rfl
theorem kG {w:World} {b:Nat} {cs cs':Array Value} {T:TypeId} (h:aB w b cs T) (e:cs=cs'):aB w b cs' T:=e ▸ h
def caught (er:Int) (rec:Bool):FrameMode:=.panicking [{ v:=.iface 43 (Z I er),recovered:=rec }]
theorem K5 (p q:Addr) (w:World) :
  CallsD Tryz.prog 121 #[aA (some p),aA (some q)] .returning w fun e u' w'=>e= ah (aD #[])∧u'= .returning∧w'=w:=by
 refine callsD_of_wpS Tryz.func121 rfl fun c₀ cs hu=>?_;simp only [Tryz.ntmps121,List.size_toArray,bg,List.length_nil,Nat.reduceAdd,Nat.reduceSub,Array.replicate_succ,Array.replicate_zero,List.push_toArray,List.append_toArray,List.nil_append,dx];refine wpS_seq (wpS_region ?_);generalize hQ:Exit.thenS _ _=Q;simp [wpOpsS,go_sem,recoverD,hu]
 rw [← hQ];clear hQ;refine wpS_of_wp ?_;go_wp2_with fail
 cases c₀
 simp_all [bodyPostS,results,Tryz.results121]
theorem am9 (b c:Nat) (s1 s2 s3 s4 s5 s6:Int) (z er:Int) (w:World) (hb:aB w b #[Z I s1,Z I s2,Z I s3,Z I s4,Z I s5,Z I s6] 42) (hc:aB w c #[Z I z] 43) :
  CallsD Tryz.prog 121 #[aA (some ⟨b,0,none⟩),aA (some ⟨c,0,none⟩)] (caught er false) w fun e u' w' =>
   e= ah (aD #[])∧u'=caught er true∧aB w' b #[Z I 0,Z I 0,Z I 0,Z I 0,Z I 0,Z I 0] 42∧aB w' c #[Z I er] 43∧∀ w0:World,w0.heap.size≤b→w0.heap.size≤c→Below w0.heap.size w0 w→Below w0.heap.size w0 w':=by
 unfold caught;refine callsD_of_wpS Tryz.func121 rfl fun c₀ cs hu=>?_;simp only [Tryz.ntmps121,List.size_toArray,bg,List.length_nil,Nat.reduceAdd,Nat.reduceSub,Array.replicate_succ,Array.replicate_zero,List.push_toArray,List.append_toArray,List.nil_append,dx];refine wpS_seq (wpS_region ?_);generalize hQ:Exit.thenS _ _=Q;simp [wpOpsS,go_sem,recoverD,hu]
 rw [← hQ];clear hQ;refine wpS_of_wp ?_;have cb:=hb.cell;have fb:=hb.free;have cc:=hc.cell;have fc:=hc.free;have lb:=hb.lt;have lc:=hc.lt;have hne:b≠c:=hb.ne hc zd;have hne2:c≠b:=fun e=>hne e.symm;have hta:=Aj er;obtain ⟨R,HR⟩:∃ R:Ending→FrameMode→World→Prop,Hid (R=fun e u' w'=>e= ah (aD #[])∧u'= .panicking [{ v:=.iface 43 (Z I er),recovered:=true }]∧aB w' b #[Z I 0,Z I 0,Z I 0,Z I 0,Z I 0,Z I 0] 42∧aB w' c #[Z I er] 43∧∀ w0:World,w0.heap.size≤b→w0.heap.size≤c→Below w0.heap.size w0 w→Below w0.heap.size w0 w'):=⟨_,zh rfl⟩
 rw [← HR.out];go_wp2_with fail
 simp only [bodyPostS];refine ⟨trivial,_,rfl,_,results_none rfl _ _ _,?_⟩;rw [HR.out];refine ⟨rfl,rfl,?_,?_,fun w0 h1 h2 h3=>?_⟩
 ·apply kG
  ·exact bI
  ·simp only [List.setIfInBounds_toArray,aM,aN]
 ·apply kG
  ·exact bI
  ·simp only [List.setIfInBounds_toArray,aM,aN]
 ·exact aJ
theorem KX (p q:Addr) (w:World) :
  CallsD Tryz.prog 167 #[aA (some p),aA (some q)] .returning w fun e u' w'=>e= ah (aD #[])∧u'= .returning∧w'=w:=by
 refine callsD_of_wpS Tryz.func167 rfl fun c₀ cs hu=>?_;simp only [Tryz.ntmps167,List.size_toArray,bg,List.length_nil,Nat.reduceAdd,Nat.reduceSub,Array.replicate_succ,Array.replicate_zero,List.push_toArray,List.append_toArray,List.nil_append,dx];refine wpS_seq (wpS_region ?_);generalize hQ:Exit.thenS _ _=Q;simp [wpOpsS,go_sem,recoverD,hu]
 rw [← hQ];clear hQ;refine wpS_of_wp ?_;go_wp2_with fail
 cases c₀
 simp_all [bodyPostS,results,Tryz.results167]
theorem am8 (b c:Nat) (s1 s2 s3 s4 s5 s6:ByteArray) (z er:Int) (w:World) (hb:aB w b #[O s1,O s2,O s3,O s4,O s5,O s6] 34) (hc:aB w c #[Z I z] 43) :
  CallsD Tryz.prog 167 #[aA (some ⟨b,0,none⟩),aA (some ⟨c,0,none⟩)] (caught er false) w fun e u' w' =>
   e= ah (aD #[])∧u'=caught er true∧aB w' b #[O ⟨#[]⟩,O ⟨#[]⟩,O ⟨#[]⟩,O ⟨#[]⟩,O ⟨#[]⟩,O ⟨#[]⟩] 34∧aB w' c #[Z I er] 43∧∀ w0:World,w0.heap.size≤b→w0.heap.size≤c→Below w0.heap.size w0 w→Below w0.heap.size w0 w':=by
 unfold caught;refine callsD_of_wpS Tryz.func167 rfl fun c₀ cs hu=>?_;simp only [Tryz.ntmps167,List.size_toArray,bg,List.length_nil,Nat.reduceAdd,Nat.reduceSub,Array.replicate_succ,Array.replicate_zero,List.push_toArray,List.append_toArray,List.nil_append,dx];refine wpS_seq (wpS_region ?_);generalize hQ:Exit.thenS _ _=Q;simp [wpOpsS,go_sem,recoverD,hu]
 rw [← hQ];clear hQ;refine wpS_of_wp ?_;have cb:=hb.cell;have fb:=hb.free;have cc:=hc.cell;have fc:=hc.free;have lb:=hb.lt;have lc:=hc.lt;have hne:b≠c:=hb.ne hc zd;have hne2:c≠b:=fun e=>hne e.symm;have hta:=Aj er;obtain ⟨R,HR⟩:∃ R:Ending→FrameMode→World→Prop,Hid (R=fun e u' w'=>e= ah (aD #[])∧u'= .panicking [{ v:=.iface 43 (Z I er),recovered:=true }]∧aB w' b #[O ⟨#[]⟩,O ⟨#[]⟩,O ⟨#[]⟩,O ⟨#[]⟩,O ⟨#[]⟩,O ⟨#[]⟩] 34∧aB w' c #[Z I er] 43∧∀ w0:World,w0.heap.size≤b→w0.heap.size≤c→Below w0.heap.size w0 w→Below w0.heap.size w0 w'):=⟨_,zh rfl⟩
 rw [← HR.out];go_wp2_with fail
 simp only [bodyPostS];refine ⟨trivial,_,rfl,_,results_none rfl _ _ _,?_⟩;rw [HR.out];refine ⟨rfl,rfl,?_,?_,fun w0 h1 h2 h3=>?_⟩
 ·apply kG
  ·exact bI
  ·simp only [List.setIfInBounds_toArray,aM,aN]
 ·apply kG
  ·exact bI
  ·simp only [List.setIfInBounds_toArray,aM,aN]
 ·exact aJ
theorem K6 (p q:Addr) (w:World) :
  CallsD Tryz.prog 152 #[aA (some p),aA (some q)] .returning w fun e u' w'=>e= ah (aD #[])∧u'= .returning∧w'=w:=by
 refine callsD_of_wpS Tryz.func152 rfl fun c₀ cs hu=>?_;simp only [Tryz.ntmps152,List.size_toArray,bg,List.length_nil,Nat.reduceAdd,Nat.reduceSub,Array.replicate_succ,Array.replicate_zero,List.push_toArray,List.append_toArray,List.nil_append,dx];refine wpS_seq (wpS_region ?_);generalize hQ:Exit.thenS _ _=Q;simp [wpOpsS,go_sem,recoverD,hu]
 rw [← hQ];clear hQ;refine wpS_of_wp ?_;go_wp2_with fail
 cases c₀
 simp_all [bodyPostS,results,Tryz.results152]
theorem an0 (b c:Nat) (s1 s2 s3 s4 s5 s6:Int) (z er:Int) (w:World) (hb:aB w b #[Z I s1,Z I s2,Z I s3,Z I s4,Z I s5,Z I s6] 118) (hc:aB w c #[Z I z] 43) :
  CallsD Tryz.prog 152 #[aA (some ⟨b,0,none⟩),aA (some ⟨c,0,none⟩)] (caught er false) w fun e u' w' =>
   e= ah (aD #[])∧u'=caught er true∧aB w' b #[Z I 0,Z I 0,Z I 0,Z I 0,Z I 0,Z I 0] 118∧aB w' c #[Z I er] 43∧∀ w0:World,w0.heap.size≤b→w0.heap.size≤c→Below w0.heap.size w0 w→Below w0.heap.size w0 w':=by
 unfold caught;refine callsD_of_wpS Tryz.func152 rfl fun c₀ cs hu=>?_;simp only [Tryz.ntmps152,List.size_toArray,bg,List.length_nil,Nat.reduceAdd,Nat.reduceSub,Array.replicate_succ,Array.replicate_zero,List.push_toArray,List.append_toArray,List.nil_append,dx];refine wpS_seq (wpS_region ?_);generalize hQ:Exit.thenS _ _=Q;simp [wpOpsS,go_sem,recoverD,hu]
 rw [← hQ];clear hQ;refine wpS_of_wp ?_;have cb:=hb.cell;have fb:=hb.free;have cc:=hc.cell;have fc:=hc.free;have lb:=hb.lt;have lc:=hc.lt;have hne:b≠c:=hb.ne hc zd;have hne2:c≠b:=fun e=>hne e.symm;have hta:=Aj er;obtain ⟨R,HR⟩:∃ R:Ending→FrameMode→World→Prop,Hid (R=fun e u' w'=>e= ah (aD #[])∧u'= .panicking [{ v:=.iface 43 (Z I er),recovered:=true }]∧aB w' b #[Z I 0,Z I 0,Z I 0,Z I 0,Z I 0,Z I 0] 118∧aB w' c #[Z I er] 43∧∀ w0:World,w0.heap.size≤b→w0.heap.size≤c→Below w0.heap.size w0 w→Below w0.heap.size w0 w'):=⟨_,zh rfl⟩
 rw [← HR.out];go_wp2_with fail
 simp only [bodyPostS];refine ⟨trivial,_,rfl,_,results_none rfl _ _ _,?_⟩;rw [HR.out];refine ⟨rfl,rfl,?_,?_,fun w0 h1 h2 h3=>?_⟩
 ·apply kG
  ·exact bI
  ·simp only [List.setIfInBounds_toArray,aM,aN]
 ·apply kG
  ·exact bI
  ·simp only [List.setIfInBounds_toArray,aM,aN]
 ·exact aJ
theorem iV {P:Program} {fn:Func} {w:World} {tmps:Array Value} {p q:Tmp} {ty Bf:TypeId} {g g2:Nat} {x y:Value} (h:fn.results=#[.cell p ty,.cell q Bf])
  (hp:tmps.getD p undef= aA (some ⟨g,0,none⟩)) (hq:tmps.getD q undef= aA (some ⟨g2,0,none⟩)) (h1:(loadVar ty ⟨g,0,none⟩).run P w= .ok x w) (h2:(loadVar Bf ⟨g2,0,none⟩).run P w= .ok y w) :
  (results fn tmps).run P w= .ok (aD #[x,y]) w:=by
 have hp':tmps[p]?.getD undef= aA (some ⟨g,0,none⟩):=by simpa using hp
 have hq':tmps[q]?.getD undef= aA (some ⟨g2,0,none⟩):=by simpa using hq
 simp [results,h,hp',hq',asAddr,h1,h2]
theorem oh {w:World} {c:Nat} {z:Int} (h:aB w c #[Z I z] 43):(loadVar 43 ⟨c,0,none⟩).run Tryz.prog w= .ok (Z I z) w:=by
 have hc:=h.cell 0;simp [go_sem,hc]
theorem VT {w:World} {b:Nat} {s1 s2 s3 s4 s5 s6:Int} (h:aB w b #[Z I s1,Z I s2,Z I s3,Z I s4,Z I s5,Z I s6] 42):(loadVar 42 ⟨b,0,none⟩).run Tryz.prog w= .ok (au #[Z I s1,Z I s2,Z I s3,Z I s4,Z I s5,Z I s6]) w :=
 run_loadVar_row w b 42 42 _ (0,0) _ h Tryz.underlying42 rfl zk
theorem Dz {f:FuncId} {caps:Array Value} {k:Int} {s1 s2 s3 s4 s5 s6:Int} (w:World) (HC:∀ W,Below w.heap.size w W→Calls Tryz.prog f caps W (Try W (au #[Z I s1,Z I s2,Z I s3,Z I s4,Z I s5,Z I s6]) k))
  (hf:∀ args W,(callFunc f args).run Tryz.prog W= .ok (.enter f args) W) :
  Calls Tryz.prog 44 #[.func (.func f) #[] caps] w (EU w (au #[Z I s1,Z I s2,Z I s3,Z I s4,Z I s5,Z I s6]) (au #[Z I 0,Z I 0,Z I 0,Z I 0,Z I 0,Z I 0]) k):=by
 have hmf:∀ (fn:Fn) (first cap:Array Value) (w:World),(Instr.makeFunc fn first cap).run Tryz.prog w= .ok (.func fn first cap) w:=fun _ _ _ _=>rfl;have HCH:=zh HC;clear HC;have hb0:Below w.heap.size w ((w.alloc (.cells #[Z I 0,Z I 0,Z I 0,Z I 0,Z I 0,Z I 0] 42)).alloc (.cells #[Z I 0] 43)):=aJ;obtain ⟨w0,Qn⟩:∃ y,(w.alloc (.cells #[Z I 0,Z I 0,Z I 0,Z I 0,Z I 0,Z I 0] 42)).alloc (.cells #[Z I 0] 43)=y:=⟨_,rfl⟩;have hx1:aB w0 w.heap.size #[Z I 0,Z I 0,Z I 0,Z I 0,Z I 0,Z I 0] 42:=by rw [← Qn];exact bI
 have hx2:aB w0 (w.heap.size+1) #[Z I 0] 43:=by rw [← Qn];exact bI
 rw [Qn] at hb0
 go_enter_defers Tryz.func44,Tryz.ntmps44
 go_wp2_with fail
 refine (HCH.out _ hb0).mono ?_;rintro e w1 ⟨hb1,⟨rfl,rfl⟩|⟨h,rfl⟩⟩
 ·replace hx1:=hx1.later hb1;replace hx2:=hx2.later hb1;have c1:=hx1.cell;have f1:=hx1.free;have c2:=hx2.cell;have f2:=hx2.free;have hne:w.heap.size≠w.heap.size+1:=by omega
  have hx3:aB (((((((w1.setCell ⟨w.heap.size,0,none⟩ (Z I s1)).setCell ⟨w.heap.size,1,none⟩ (Z I s2)).setCell ⟨w.heap.size,2,none⟩ (Z I s3)).setCell ⟨w.heap.size,3,none⟩ (Z I s4)).setCell ⟨w.heap.size,4,none⟩ (Z I s5)).setCell ⟨w.heap.size,5,none⟩ (Z I s6)).setCell ⟨w.heap.size+1,0,none⟩ (Z I 0)) w.heap.size #[Z I s1,Z I s2,Z I s3,Z I s4,Z I s5,Z I s6] 42:=by
   apply kG
   ·exact bI
   ·simp only [List.setIfInBounds_toArray,aM,aN]
  have hx4:aB (((((((w1.setCell ⟨w.heap.size,0,none⟩ (Z I s1)).setCell ⟨w.heap.size,1,none⟩ (Z I s2)).setCell ⟨w.heap.size,2,none⟩ (Z I s3)).setCell ⟨w.heap.size,3,none⟩ (Z I s4)).setCell ⟨w.heap.size,4,none⟩ (Z I s5)).setCell ⟨w.heap.size,5,none⟩ (Z I s6)).setCell ⟨w.heap.size+1,0,none⟩ (Z I 0)) (w.heap.size+1) #[Z I 0] 43:=by
   apply kG
   ·exact bI
   ·simp only [List.setIfInBounds_toArray,aM,aN]
  have hbw:Below w.heap.size w (((((((w1.setCell ⟨w.heap.size,0,none⟩ (Z I s1)).setCell ⟨w.heap.size,1,none⟩ (Z I s2)).setCell ⟨w.heap.size,2,none⟩ (Z I s3)).setCell ⟨w.heap.size,3,none⟩ (Z I s4)).setCell ⟨w.heap.size,4,none⟩ (Z I s5)).setCell ⟨w.heap.size,5,none⟩ (Z I s6)).setCell ⟨w.heap.size+1,0,none⟩ (Z I 0)):=by
   have:=Bt hb0 hb1;exact aJ
  have X7:=zh hx3;have HX4:=zh hx4;have HBW:=zh hbw;clear hx3 hx4 hbw Qn hx1 hx2 hb0 hb1;go_wp2_with fail
  refine leaves_cons (f:=121) (args:=#[aA (some ⟨w.heap.size,0,none⟩),aA (some ⟨w.heap.size+1,0,none⟩)]) zi (by simp [go_sem]) ?_;refine (K5 _ _ _).mono ?_;rintro e u' w'' ⟨rfl,rfl,rfl⟩;exact ⟨_,iV rfl rfl rfl (VT X7.out) (oh HX4.out),HBW.out,.inl ⟨rfl,rfl⟩⟩
 ·replace hx1:=hx1.later hb1;replace hx2:=hx2.later hb1
  change bodyPostD _ _ _ (Exit.panic [{ v:=.iface 43 (Z I k),recovered:=false }]) _ _
  refine leaves_cons (f:=121) (args:=#[aA (some ⟨w.heap.size,0,none⟩),aA (some ⟨w.heap.size+1,0,none⟩)]) zi (by simp [go_sem]) ?_;refine (am9 w.heap.size (w.heap.size+1) _ _ _ _ _ _ _ k _ hx1 hx2).mono ?_;rintro e u' w'' ⟨rfl,rfl,hy1,hy2,hbb⟩;exact ⟨_,iV rfl rfl rfl (VT hy1) (oh hy2),hbb w (aC _) zo (Bt hb0 hb1),.inr ⟨h,rfl⟩⟩
theorem VR {w:World} {b:Nat} {s1 s2 s3 s4 s5 s6:ByteArray} (h:aB w b #[O s1,O s2,O s3,O s4,O s5,O s6] 34):(loadVar 34 ⟨b,0,none⟩).run Tryz.prog w= .ok (au #[O s1,O s2,O s3,O s4,O s5,O s6]) w :=
 run_loadVar_row w b 34 34 _ (0,0) _ h Tryz.underlying34 rfl zk
theorem Dy {f:FuncId} {caps:Array Value} {k:Int} {s1 s2 s3 s4 s5 s6:ByteArray} (w:World) (HC:∀ W,Below w.heap.size w W→Calls Tryz.prog f caps W (Try W (au #[O s1,O s2,O s3,O s4,O s5,O s6]) k))
  (hf:∀ args W,(callFunc f args).run Tryz.prog W= .ok (.enter f args) W) :
  Calls Tryz.prog 80 #[.func (.func f) #[] caps] w (EU w (au #[O s1,O s2,O s3,O s4,O s5,O s6]) (au #[O ⟨#[]⟩,O ⟨#[]⟩,O ⟨#[]⟩,O ⟨#[]⟩,O ⟨#[]⟩,O ⟨#[]⟩]) k):=by
 have hmf:∀ (fn:Fn) (first cap:Array Value) (w:World),(Instr.makeFunc fn first cap).run Tryz.prog w= .ok (.func fn first cap) w:=fun _ _ _ _=>rfl;have HCH:=zh HC;clear HC;have hb0:Below w.heap.size w ((w.alloc (.cells #[O ⟨#[]⟩,O ⟨#[]⟩,O ⟨#[]⟩,O ⟨#[]⟩,O ⟨#[]⟩,O ⟨#[]⟩] 34)).alloc (.cells #[Z I 0] 43)):=aJ;obtain ⟨w0,Qn⟩:∃ y,(w.alloc (.cells #[O ⟨#[]⟩,O ⟨#[]⟩,O ⟨#[]⟩,O ⟨#[]⟩,O ⟨#[]⟩,O ⟨#[]⟩] 34)).alloc (.cells #[Z I 0] 43)=y:=⟨_,rfl⟩;have hx1:aB w0 w.heap.size #[O ⟨#[]⟩,O ⟨#[]⟩,O ⟨#[]⟩,O ⟨#[]⟩,O ⟨#[]⟩,O ⟨#[]⟩] 34:=by rw [← Qn];exact bI
 have hx2:aB w0 (w.heap.size+1) #[Z I 0] 43:=by rw [← Qn];exact bI
 rw [Qn] at hb0
 go_enter_defers Tryz.func80,Tryz.ntmps80
 go_wp2_with fail
 refine (HCH.out _ hb0).mono ?_;rintro e w1 ⟨hb1,⟨rfl,rfl⟩|⟨h,rfl⟩⟩
 ·replace hx1:=hx1.later hb1;replace hx2:=hx2.later hb1;have c1:=hx1.cell;have f1:=hx1.free;have c2:=hx2.cell;have f2:=hx2.free;have hne:w.heap.size≠w.heap.size+1:=by omega
  have hx3:aB (((((((w1.setCell ⟨w.heap.size,0,none⟩ (O s1)).setCell ⟨w.heap.size,1,none⟩ (O s2)).setCell ⟨w.heap.size,2,none⟩ (O s3)).setCell ⟨w.heap.size,3,none⟩ (O s4)).setCell ⟨w.heap.size,4,none⟩ (O s5)).setCell ⟨w.heap.size,5,none⟩ (O s6)).setCell ⟨w.heap.size+1,0,none⟩ (Z I 0)) w.heap.size #[O s1,O s2,O s3,O s4,O s5,O s6] 34:=by
   apply kG
   ·exact bI
   ·simp only [List.setIfInBounds_toArray,aM,aN]
  have hx4:aB (((((((w1.setCell ⟨w.heap.size,0,none⟩ (O s1)).setCell ⟨w.heap.size,1,none⟩ (O s2)).setCell ⟨w.heap.size,2,none⟩ (O s3)).setCell ⟨w.heap.size,3,none⟩ (O s4)).setCell ⟨w.heap.size,4,none⟩ (O s5)).setCell ⟨w.heap.size,5,none⟩ (O s6)).setCell ⟨w.heap.size+1,0,none⟩ (Z I 0)) (w.heap.size+1) #[Z I 0] 43:=by
   apply kG
   ·exact bI
   ·simp only [List.setIfInBounds_toArray,aM,aN]
  have hbw:Below w.heap.size w (((((((w1.setCell ⟨w.heap.size,0,none⟩ (O s1)).setCell ⟨w.heap.size,1,none⟩ (O s2)).setCell ⟨w.heap.size,2,none⟩ (O s3)).setCell ⟨w.heap.size,3,none⟩ (O s4)).setCell ⟨w.heap.size,4,none⟩ (O s5)).setCell ⟨w.heap.size,5,none⟩ (O s6)).setCell ⟨w.heap.size+1,0,none⟩ (Z I 0)):=by
   have:=Bt hb0 hb1;exact aJ
  have X7:=zh hx3;have HX4:=zh hx4;have HBW:=zh hbw;clear hx3 hx4 hbw Qn hx1 hx2 hb0 hb1;go_wp2_with fail
  refine leaves_cons (f:=167) (args:=#[aA (some ⟨w.heap.size,0,none⟩),aA (some ⟨w.heap.size+1,0,none⟩)]) zi (by simp [go_sem]) ?_;refine (KX _ _ _).mono ?_;rintro e u' w'' ⟨rfl,rfl,rfl⟩;exact ⟨_,iV rfl rfl rfl (VR X7.out) (oh HX4.out),HBW.out,.inl ⟨rfl,rfl⟩⟩
 ·replace hx1:=hx1.later hb1;replace hx2:=hx2.later hb1
  change bodyPostD _ _ _ (Exit.panic [{ v:=.iface 43 (Z I k),recovered:=false }]) _ _
  refine leaves_cons (f:=167) (args:=#[aA (some ⟨w.heap.size,0,none⟩),aA (some ⟨w.heap.size+1,0,none⟩)]) zi (by simp [go_sem]) ?_;refine (am8 w.heap.size (w.heap.size+1) _ _ _ _ _ _ _ k _ hx1 hx2).mono ?_;rintro e u' w'' ⟨rfl,rfl,hy1,hy2,hbb⟩;exact ⟨_,iV rfl rfl rfl (VR hy1) (oh hy2),hbb w (aC _) zo (Bt hb0 hb1),.inr ⟨h,rfl⟩⟩
theorem VU {w:World} {b:Nat} {s1 s2 s3 s4 s5 s6:Int} (h:aB w b #[Z I s1,Z I s2,Z I s3,Z I s4,Z I s5,Z I s6] 118):(loadVar 118 ⟨b,0,none⟩).run Tryz.prog w= .ok (au #[Z I s1,Z I s2,Z I s3,Z I s4,Z I s5,Z I s6]) w :=
 run_loadVar_row w b 118 118 _ (0,0) _ h Tryz.underlying118 rfl zk
theorem DC {f:FuncId} {caps:Array Value} {k:Int} {s1 s2 s3 s4 s5 s6:Int} (w:World) (HC:∀ W,Below w.heap.size w W→Calls Tryz.prog f caps W (Try W (au #[Z I s1,Z I s2,Z I s3,Z I s4,Z I s5,Z I s6]) k))
  (hf:∀ args W,(callFunc f args).run Tryz.prog W= .ok (.enter f args) W) :
  Calls Tryz.prog 69 #[.func (.func f) #[] caps] w (EU w (au #[Z I s1,Z I s2,Z I s3,Z I s4,Z I s5,Z I s6]) (au #[Z I 0,Z I 0,Z I 0,Z I 0,Z I 0,Z I 0]) k):=by
 have hmf:∀ (fn:Fn) (first cap:Array Value) (w:World),(Instr.makeFunc fn first cap).run Tryz.prog w= .ok (.func fn first cap) w:=fun _ _ _ _=>rfl;have HCH:=zh HC;clear HC;have hb0:Below w.heap.size w ((w.alloc (.cells #[Z I 0,Z I 0,Z I 0,Z I 0,Z I 0,Z I 0] 118)).alloc (.cells #[Z I 0] 43)):=aJ;obtain ⟨w0,Qn⟩:∃ y,(w.alloc (.cells #[Z I 0,Z I 0,Z I 0,Z I 0,Z I 0,Z I 0] 118)).alloc (.cells #[Z I 0] 43)=y:=⟨_,rfl⟩;have hx1:aB w0 w.heap.size #[Z I 0,Z I 0,Z I 0,Z I 0,Z I 0,Z I 0] 118:=by rw [← Qn];exact bI
 have hx2:aB w0 (w.heap.size+1) #[Z I 0] 43:=by rw [← Qn];exact bI
 rw [Qn] at hb0
 go_enter_defers Tryz.func69,Tryz.ntmps69
 go_wp2_with fail
 refine (HCH.out _ hb0).mono ?_;rintro e w1 ⟨hb1,⟨rfl,rfl⟩|⟨h,rfl⟩⟩
 ·replace hx1:=hx1.later hb1;replace hx2:=hx2.later hb1;have c1:=hx1.cell;have f1:=hx1.free;have c2:=hx2.cell;have f2:=hx2.free;have hne:w.heap.size≠w.heap.size+1:=by omega
  have hx3:aB (((((((w1.setCell ⟨w.heap.size,0,none⟩ (Z I s1)).setCell ⟨w.heap.size,1,none⟩ (Z I s2)).setCell ⟨w.heap.size,2,none⟩ (Z I s3)).setCell ⟨w.heap.size,3,none⟩ (Z I s4)).setCell ⟨w.heap.size,4,none⟩ (Z I s5)).setCell ⟨w.heap.size,5,none⟩ (Z I s6)).setCell ⟨w.heap.size+1,0,none⟩ (Z I 0)) w.heap.size #[Z I s1,Z I s2,Z I s3,Z I s4,Z I s5,Z I s6] 118:=by
   apply kG
   ·exact bI
   ·simp only [List.setIfInBounds_toArray,aM,aN]
  have hx4:aB (((((((w1.setCell ⟨w.heap.size,0,none⟩ (Z I s1)).setCell ⟨w.heap.size,1,none⟩ (Z I s2)).setCell ⟨w.heap.size,2,none⟩ (Z I s3)).setCell ⟨w.heap.size,3,none⟩ (Z I s4)).setCell ⟨w.heap.size,4,none⟩ (Z I s5)).setCell ⟨w.heap.size,5,none⟩ (Z I s6)).setCell ⟨w.heap.size+1,0,none⟩ (Z I 0)) (w.heap.size+1) #[Z I 0] 43:=by
   apply kG
   ·exact bI
   ·simp only [List.setIfInBounds_toArray,aM,aN]
  have hbw:Below w.heap.size w (((((((w1.setCell ⟨w.heap.size,0,none⟩ (Z I s1)).setCell ⟨w.heap.size,1,none⟩ (Z I s2)).setCell ⟨w.heap.size,2,none⟩ (Z I s3)).setCell ⟨w.heap.size,3,none⟩ (Z I s4)).setCell ⟨w.heap.size,4,none⟩ (Z I s5)).setCell ⟨w.heap.size,5,none⟩ (Z I s6)).setCell ⟨w.heap.size+1,0,none⟩ (Z I 0)):=by
   have:=Bt hb0 hb1;exact aJ
  have X7:=zh hx3;have HX4:=zh hx4;have HBW:=zh hbw;clear hx3 hx4 hbw Qn hx1 hx2 hb0 hb1;go_wp2_with fail
  refine leaves_cons (f:=152) (args:=#[aA (some ⟨w.heap.size,0,none⟩),aA (some ⟨w.heap.size+1,0,none⟩)]) zi (by simp [go_sem]) ?_;refine (K6 _ _ _).mono ?_;rintro e u' w'' ⟨rfl,rfl,rfl⟩;exact ⟨_,iV rfl rfl rfl (VU X7.out) (oh HX4.out),HBW.out,.inl ⟨rfl,rfl⟩⟩
 ·replace hx1:=hx1.later hb1;replace hx2:=hx2.later hb1
  change bodyPostD _ _ _ (Exit.panic [{ v:=.iface 43 (Z I k),recovered:=false }]) _ _
  refine leaves_cons (f:=152) (args:=#[aA (some ⟨w.heap.size,0,none⟩),aA (some ⟨w.heap.size+1,0,none⟩)]) zi (by simp [go_sem]) ?_;refine (an0 w.heap.size (w.heap.size+1) _ _ _ _ _ _ _ k _ hx1 hx2).mono ?_;rintro e u' w'' ⟨rfl,rfl,hy1,hy2,hbb⟩;exact ⟨_,iV rfl rfl rfl (VU hy1) (oh hy2),hbb w (aC _) zo (Bt hb0 hb1),.inr ⟨h,rfl⟩⟩
end Go.Proofs.lab
