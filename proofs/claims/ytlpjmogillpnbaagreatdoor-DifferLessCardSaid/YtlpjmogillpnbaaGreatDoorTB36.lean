/- Lemmas for the proof. No condition. -/
import Derived.Test.YtlpjmogillpnbaaGreatDoorTB35
set_option linter.unusedVariables false
set_option linter.unusedSimpArgs false
set_option maxRecDepth 100000
set_option maxHeartbeats 16000000
open Go.IntKind renaming i64 → I
open Go.Value renaming agg → au, bool → ay, int → Z, string → O
open List renaming range → bO
namespace Go.Proofs.differ
open Go Go.RowKit Go.SW Go.Num Go.Mem Go.Proofs Go.gW Go.Fx
def plE (f g:Int × Int):B5 × Int :=
 aP kW (aQ.jo (45000000000,45000000000) f) fun t =>
 aP kW (aQ.gU (1000000000000,1000000000000) t) fun c =>
 aP kW (aQ.jo (15000000000,15000000000) f) fun s =>
 aP kW (aQ.gU (1000000000000,1000000000000) s) fun h =>
 lC ((f,g),(1000000000000,1000000000000),c,h)
theorem P7 {f1 f2 g1 g2 l1 l2 m1 m2 n1 n2:Int} {a1 a2 a3 a4 a5 a6:ByteArray} {b1 b2 b3 b4 b5 b6:ByteArray} {y1 y2 y3 y4 y5 y6 y7 y8 y9 y0 k:Int} (hx:bI (plE (f1,f2) (g1,g2)) (((y1,y2),(y3,y4)),(y5,y6),(y7,y8),(y9,y0)) k) (w:World) (ht:gJ.Pow w) (he:whole.Er w):Calls Tryz.prog 68 #[au #[Z I f1,Z I f2,Z I g1,Z I g2,O a1,O a2,O a3,O a4,O a5,O a6,O b1,O b2,O b3,O b4,O b5,O b6,Z I l1,Z I l2,Z I m1,Z I m2,Z I n1,Z I n2]] w (Try w (au #[Z I y1,Z I y2,Z I y3,Z I y4,Z I y5,Z I y6,Z I y7,Z I y8,Z I y9,Z I y0]) k):=by
 unfold plE at hx;refine Fx.door Tryz.func68 rfl (.nil w []) ?_;have HR:=hx;refine Fx.new [] 1 #[Z I f1,Z I f2,Z I g1,Z I g2,O a1,O a2,O a3,O a4,O a5,O a6,O b1,O b2,O b3,O b4,O b5,O b6,Z I l1,Z I l2,Z I m1,Z I m2,Z I n1,Z I n2] 106 [] [] fun gV=>?_;refine Fx.bq [] 2 115 [] [] fun iD=>?_;refine Fx.draw [] [0,1,4,5,6,10,11,12,2,3,7,8,9,13,14,15,16] [] [] [] ?_;refine Fx.call [3,3,3] 5 [(4,au #[Z I f1,Z I f2,Z I g1,Z I g2]),(9,au #[Z I f1,Z I f2]),(15,au #[Z I f1,Z I f2])] [] (fun W M=>dX (s:=⟨#[49]⟩) (n:=1000000000000) _ (ht.later M.below) (he.later M.below)) ?_;refine Fx.call [] 6 [] [] (fun W M=>dX (s:=⟨#[49]⟩) (n:=1000000000000) _ (ht.later M.below) (he.later M.below)) ?_
 obtain ⟨⟨x5,y5⟩,_,EX,HN⟩:=ak HR;refine Fx.aM bR [] 10 [] [] (fun W M=>fH (s:=⟨#[48,46,48,52,53]⟩) (bI.of EX) _ (ht.later M.below) (he.later M.below)) HN fun _ HR=>?_;obtain ⟨⟨x6,y6⟩,_,EX,HN⟩:=ak HR;refine Fx.aM bR [] 11 [] [] (fun W M=>iO (bI.of EX) _) HN fun _ HR=>?_;refine Fx.call [] 12 [] [] (fun W M=>dX (s:=⟨#[49]⟩) (n:=1000000000000) _ (ht.later M.below) (he.later M.below)) ?_;obtain ⟨⟨x8,y8⟩,_,EX,HN⟩:=ak HR;refine Fx.aM bR [] 16 [] [] (fun W M=>fH (s:=⟨#[48,46,48,49,53]⟩) (bI.of EX) _ (ht.later M.below) (he.later M.below)) HN fun _ HR=>?_;obtain ⟨⟨x9,y9⟩,_,EX,HN⟩:=ak HR;refine Fx.aM bR [] 17 [] [] (fun W M=>iO (bI.of EX) _) HN fun _ HR=>?_;obtain ⟨hk,hv⟩:=HR;cases hk
 exact Fx.iC (cs:=#[Z I f1,Z I f2,Z I g1,Z I g2,Z I 1000000000000,Z I 1000000000000,Z I x6,Z I y6,Z I x9,Z I y9]) 1 iD [4] [(1,#[Z I f1,Z I f2,Z I g1,Z I g2,Z I 1000000000000,Z I 1000000000000,Z I x6,Z I y6,Z I x9,Z I y9])] (fun W M=>⟨M.below,.inl ⟨rfl,by cases hv rfl;rfl⟩⟩)
def Ox (x y:Int × Int):(Int × Int) × Int :=
 aP (0,0) (aQ.jo (819152044300,819152044300) x) fun a =>
 aP (0,0) (aQ.jo (573576436400,573576436400) y) fun b =>
 aP (0,0) (aQ.pU a b) fun c =>
 aP (0,0) (aQ.xH c 4 10) fun d =>
 aP (0,0) (aQ.nT d.1 d.2) fun e =>
 aP (0,0) (aQ.gU (360000000000,360000000000) e) fun near =>
 aP (0,0) (aQ.jo ((-978147600700),(-978147600700)) x) fun a =>
 aP (0,0) (aQ.jo (207911690800,207911690800) y) fun b =>
 aP (0,0) (aQ.pU a b) fun c =>
 aP (0,0) (aQ.xH c 2 10) fun d =>
 aP (0,0) (aQ.nT d.1 d.2) fun e =>
 aP (0,0) (aQ.gU (560000000000,560000000000) e) fun far =>
 aP (0,0) (aQ.jo (965925826300,965925826300) y) fun a =>
 aP (0,0) (aQ.jo (258819045100,258819045100) x) fun b =>
 aP (0,0) (aQ.gU a b) fun p =>
 aP (0,0) (aQ.jo (275637355800,275637355800) x) fun a =>
 aP (0,0) (aQ.jo (961261695900,961261695900) y) fun b =>
 aP (0,0) (aQ.gU a b) fun q =>
 if 0<p.1∧0<q.1 then lC near else if p.2≤0∨q.2≤0 then lC far else aP (0,0) (aQ.Dw near far) lC
theorem Ow {x1 x2 y1 y2 x y k:Int} (hx:bI (Ox (x1,x2) (y1,y2)) (x,y) k) (w:World) (ht:gJ.Pow w) (he:whole.Er w):Calls Tryz.prog 117 #[au #[Z I x1,Z I x2],au #[Z I y1,Z I y2]] w (Try w (au #[Z I x,Z I y]) k):=by
 unfold Ox at hx;refine Fx.door Tryz.func117 rfl (.nil w []) ?_;have HR:=hx;refine Fx.new [] 2 #[Z I x1,Z I x2] 35 [] [] fun gV=>?_;refine Fx.new [] 3 #[Z I y1,Z I y2] 35 [] [] fun iD=>?_;refine Fx.bq [] 4 35 [] [] fun iL=>?_;refine Fx.draw [] [0,2,1,3,4,5,6] [] [] [] ?_;obtain ⟨⟨x4,y4⟩,_,EX,HN⟩:=ak HR;refine Fx.aM bR [3,4] 10 [(11,au #[Z I y1,Z I y2])] [] (fun W M=>fH (s:=⟨#[48,46,56,49,57,49,53,50,48,52,52,51]⟩) (bI.of EX) _ (ht.later M.below) (he.later M.below)) HN fun _ HR=>?_;obtain ⟨⟨x5,y5⟩,_,EX,HN⟩:=ak HR;refine Fx.aM bR [] 12 [] [] (fun W M=>fH (s:=⟨#[48,46,53,55,51,53,55,54,52,51,54,52]⟩) (bI.of EX) _ (ht.later M.below) (he.later M.below)) HN fun _ HR=>?_;obtain ⟨⟨x6,y6⟩,_,EX,HN⟩:=ak HR;refine Fx.aM bR [] 13 [] [] (fun W M=>kR (bI.of EX) _) HN fun _ HR=>?_
 refine Fx.cK [] 5 35 [] [] fun Aq=>?_;refine Fx.draw [6] [1,0,2,3,4,5,6,7,8] [] [] [(3,#[Z I x6,Z I y6])] ?_;refine Fx.call [6] 14 [(15,au #[Z I x6,Z I y6])] [] (fun W M=>dX (s:=⟨#[48,46,51,54]⟩) (n:=360000000000) _ (ht.later M.below) (he.later M.below)) ?_;obtain ⟨⟨x9,y9⟩,_,EX,HN⟩:=ak HR;refine Fx.aM bR [] 16 [] [] (fun W M=>o7 (bI.of EX) _) HN fun _ HR=>?_;obtain ⟨⟨x10,Jh⟩,k10,EX,HN⟩:=ak HR;refine Fx.call [] 17 [] [] (fun W M=>Sy EX _) ?_;refine Fx.aM bR [] 20 [] [] (fun W M=>fM (x:=x10) (y:=Jh) _) HN fun _ HR=>?_;obtain ⟨⟨Ci,Cg⟩,_,EX,HN⟩:=ak HR;refine Fx.aM bR [] 21 [] [] (fun W M=>iO (bI.of EX) _) HN fun _ HR=>?_;refine Fx.draw [6] [0,2,1,3,4,5,6] [] [] [(3,#[Z I Ci,Z I Cg])] ?_;obtain ⟨⟨La,y13⟩,_,EX,HN⟩:=ak HR
 refine Fx.aM bR [3,4] 23 [(24,au #[Z I y1,Z I y2])] [] (fun W M=>fH (s:=⟨#[45,48,46,57,55,56,49,52,55,54,48,48,55]⟩) (bI.of EX) _ (ht.later M.below) (he.later M.below)) HN fun _ HR=>?_;obtain ⟨⟨VR,VL⟩,_,EX,HN⟩:=ak HR;refine Fx.aM bR [] 25 [] [] (fun W M=>fH (s:=⟨#[48,46,50,48,55,57,49,49,54,57,48,56]⟩) (bI.of EX) _ (ht.later M.below) (he.later M.below)) HN fun _ HR=>?_;obtain ⟨⟨VQ,VK⟩,_,EX,HN⟩:=ak HR;refine Fx.aM bR [] 26 [] [] (fun W M=>kR (bI.of EX) _) HN fun _ HR=>?_;refine Fx.cK [] 6 35 [] [] fun UL=>?_;refine Fx.draw [7] [1,0,2,3,4,5,6,7,8] [] [] [(4,#[Z I VQ,Z I VK])] ?_;refine Fx.call [7] 27 [(28,au #[Z I VQ,Z I VK])] [] (fun W M=>dX (s:=⟨#[48,46,53,54]⟩) (n:=560000000000) _ (ht.later M.below) (he.later M.below)) ?_;obtain ⟨⟨x18,He⟩,_,EX,HN⟩:=ak HR
 refine Fx.aM bR [] 29 [] [] (fun W M=>o7 (bI.of EX) _) HN fun _ HR=>?_;obtain ⟨⟨Z9,Z7⟩,k19,EX,HN⟩:=ak HR;refine Fx.call [] 30 [] [] (fun W M=>Sy EX _) ?_;refine Fx.aM bR [] 33 [] [] (fun W M=>fM (x:=Z9) (y:=Z7) _) HN fun _ HR=>?_;obtain ⟨⟨x21,y21⟩,_,EX,HN⟩:=ak HR;refine Fx.aM bR [] 34 [] [] (fun W M=>iO (bI.of EX) _) HN fun _ HR=>?_;refine Fx.draw [7] [0,2,1,3,4,5,6] [] [] [(4,#[Z I x21,Z I y21])] ?_;obtain ⟨⟨Zq,y22⟩,_,EX,HN⟩:=ak HR;refine Fx.aM bR [4,3] 36 [(37,au #[Z I x1,Z I x2])] [] (fun W M=>fH (s:=⟨#[48,46,57,54,53,57,50,53,56,50,54,51]⟩) (bI.of EX) _ (ht.later M.below) (he.later M.below)) HN fun _ HR=>?_;obtain ⟨⟨x23,y23⟩,_,EX,HN⟩:=ak HR
 refine Fx.aM bR [] 38 [] [] (fun W M=>fH (s:=⟨#[48,46,50,53,56,56,49,57,48,52,53,49]⟩) (bI.of EX) _ (ht.later M.below) (he.later M.below)) HN fun _ HR=>?_;obtain ⟨⟨x24,y24⟩,_,EX,HN⟩:=ak HR;refine Fx.aM bR [] 39 [] [] (fun W M=>iO (bI.of EX) _) HN fun _ HR=>?_;refine Fx.cK [] 7 35 [] [] fun Q6=>?_;refine Fx.draw [8] [0,2,1,3,4,5,6] [] [] [(5,#[Z I x24,Z I y24])] ?_;obtain ⟨⟨Pp,Po⟩,_,EX,HN⟩:=ak HR;refine Fx.aM bR [3,4] 41 [(42,au #[Z I y1,Z I y2])] [] (fun W M=>fH (s:=⟨#[48,46,50,55,53,54,51,55,51,53,53,56]⟩) (bI.of EX) _ (ht.later M.below) (he.later M.below)) HN fun _ HR=>?_;obtain ⟨⟨x27,y27⟩,_,EX,HN⟩:=ak HR;refine Fx.aM bR [] 43 [] [] (fun W M=>fH (s:=⟨#[48,46,57,54,49,50,54,49,54,57,53,57]⟩) (bI.of EX) _ (ht.later M.below) (he.later M.below)) HN fun _ HR=>?_
 obtain ⟨⟨x28,y28⟩,_,EX,HN⟩:=ak HR;refine Fx.aM bR [] 44 [] [] (fun W M=>iO (bI.of EX) _) HN fun _ HR=>?_;refine Fx.cK [] 8 35 [] [] fun UK=>?_;refine Fx.part 11 [9,8] [(48,ay (decide (0<x24)))] [(6,#[Z I x28,Z I y28])] ?_;refine Fx.splitB (fun hf1=>?_) (fun hf1=>?_)
 ·skip
  have h1:=hf1;refine Fx.part 4 [9] [(52,ay (decide (0<x28))),(49,ay true)] [] ?_;refine Fx.splitB (fun hf2=>?_) (fun hf2=>?_)
  ·skip
   replace HR:=bI.pos HR (by have h:=hf2;simp at h h1;omega);obtain ⟨hk,hv⟩:=HR;cases hk
   exact Fx.iC (cs:=#[Z I Ci,Z I Cg]) 2 iL [1,6,5] [(2,#[Z I Ci,Z I Cg])] (fun W M=>⟨M.below,.inl ⟨rfl,by cases hv rfl;rfl⟩⟩)
  ·skip
   replace HR:=bI.neg HR (by have h:=hf2;simp at h;omega);refine Fx.part 10 [2,8] [(58,ay (decide (y24≤0)))] [] ?_;refine Fx.splitB (fun hf3=>?_) (fun hf3=>?_)
   ·skip
    replace HR:=bI.pos HR (by have h:=hf3;simp at h;omega);obtain ⟨hk,hv⟩:=HR;cases hk
    exact Fx.iC (cs:=#[Z I x21,Z I y21]) 2 iL [0,1,7,5] [(2,#[Z I x21,Z I y21])] (fun W M=>⟨M.below,.inl ⟨rfl,by cases hv rfl;rfl⟩⟩)
   ·skip
    have h2:=hf3;refine Fx.part 4 [9] [(62,ay (decide (y28≤0))),(59,ay false)] [] ?_;refine Fx.splitB (fun hf4=>?_) (fun hf4=>?_)
    ·skip
     replace HR:=bI.pos HR (by have h:=hf4;simp at h;omega);obtain ⟨hk,hv⟩:=HR;cases hk
     exact Fx.iC (cs:=#[Z I x21,Z I y21]) 2 iL [1,7,5] [(2,#[Z I x21,Z I y21])] (fun W M=>⟨M.below,.inl ⟨rfl,by cases hv rfl;rfl⟩⟩)
    ·skip
     replace HR:=bI.neg HR (by have h:=hf4;simp at h h2;omega);obtain ⟨⟨x30,K9⟩,k30,EX,HN⟩:=ak HR;refine Fx.call [2,6,7] 67 [] [] (fun W M=>Oo EX _) ?_;refine Fx.aM bR [] 70 [] [] (fun W M=>fM (x:=x30) (y:=K9) _) HN fun _ HR=>?_;obtain ⟨hk,hv⟩:=HR;cases hk
     exact Fx.iC (cs:=#[Z I x30,Z I K9]) 2 iL [5] [(2,#[Z I x30,Z I K9])] (fun W M=>⟨M.below,.inl ⟨rfl,by cases hv rfl;rfl⟩⟩)
 ·skip
  replace HR:=bI.neg HR (by have h:=hf1;simp at h;omega);refine Fx.part 14 [0,2,8] [(58,ay (decide (y24≤0)))] [] ?_;refine Fx.splitB (fun hf2=>?_) (fun hf2=>?_)
  ·skip
   replace HR:=bI.pos HR (by have h:=hf2;simp at h;omega);obtain ⟨hk,hv⟩:=HR;cases hk
   exact Fx.iC (cs:=#[Z I x21,Z I y21]) 2 iL [0,1,7,5] [(2,#[Z I x21,Z I y21])] (fun W M=>⟨M.below,.inl ⟨rfl,by cases hv rfl;rfl⟩⟩)
  ·skip
   have h2:=hf2;refine Fx.part 4 [9] [(62,ay (decide (y28≤0))),(59,ay false)] [] ?_;refine Fx.splitB (fun hf3=>?_) (fun hf3=>?_)
   ·skip
    replace HR:=bI.pos HR (by have h:=hf3;simp at h;omega);obtain ⟨hk,hv⟩:=HR;cases hk
    exact Fx.iC (cs:=#[Z I x21,Z I y21]) 2 iL [1,7,5] [(2,#[Z I x21,Z I y21])] (fun W M=>⟨M.below,.inl ⟨rfl,by cases hv rfl;rfl⟩⟩)
   ·skip
    replace HR:=bI.neg HR (by have h:=hf3;simp at h h2;omega);obtain ⟨⟨x32,y32⟩,k32,EX,HN⟩:=ak HR;refine Fx.call [2,6,7] 67 [] [] (fun W M=>Oo EX _) ?_;refine Fx.aM bR [] 70 [] [] (fun W M=>fM (x:=x32) (y:=y32) _) HN fun _ HR=>?_;obtain ⟨hk,hv⟩:=HR;cases hk
    exact Fx.iC (cs:=#[Z I x32,Z I y32]) 2 iL [5] [(2,#[Z I x32,Z I y32])] (fun W M=>⟨M.below,.inl ⟨rfl,by cases hv rfl;rfl⟩⟩)
def Zw (l f g:Int × Int) (A:light.uF):B5 × Int :=
 aP kW (aQ.jo (63800000000,63800000000) f) fun a =>
 aP kW (aQ.jo (13100000000,13100000000) f) fun b =>
 aP kW (aQ.gU (1000000000000,1000000000000) b) fun d =>
 aP kW (aQ.vg a d) fun p =>
 aP kW (aQ.gU p (638000000000,638000000000)) fun c =>
 aP kW (aQ.xH f 1 10) fun s =>
 aP kW (aQ.qY s) fun s2 =>
 aP kW (aQ.qY s2) fun q =>
 aP kW (aQ.gU q (190000000000,190000000000)) fun d =>
 aP kW (aQ.vg q d) fun e =>
 aP kW (power.O5 e.1 e.2 1 2) fun r =>
 aP kW (aQ.zO r 0 1000000000000) fun v =>
 aP kW (Nq A.x A.y A.z) fun u =>
 aP kW (Ox u.1 u.2) fun t =>
 aP kW (aQ.jo v t) fun m =>
 aP kW (aQ.gU m (1000000000000,1000000000000)) fun n =>
 aP kW (aQ.pU n v) fun o =>
 aP kW (aQ.jo c o) fun h =>
 lC ((f,g),l,c,h)
def txE (f g:Int × Int) (a:light.uF):B5 × Int :=
 aP kW (tH 16 1) fun r=>aP kW (wh a.x r) fun c=>if c<0 then Zw (511000000000,511000000000) f g a else
 aP kW (dD.JL ⟨#[48,46,48,52,48,57,55,53]⟩) fun k1 =>
 aP kW (MR k1 a.x) fun above =>
 aP kW (dD.JL ⟨#[48,46,48,49,55,54,53]⟩) fun k2 =>
 aP kW (MR k2 a.x) fun below =>
 aP kW (tH 1 1) fun o =>
 aP kW (Q9 o below) fun below =>
 aP kW (QH above below) fun v =>
 aP kW (aQ.jE v) fun l =>
 Zw l f g a
theorem Jp {f1 f2 g1 g2 l1 l2 m1 m2 n1 n2:Int} {a1 a2 a3 a4 a5 a6:ByteArray} {b1 b2 b3 b4 b5 b6:ByteArray} {y1 y2 y3 y4 y5 y6 y7 y8 y9 y0 k:Int} (hx:bI (txE (f1,f2) (g1,g2) ⟨⟨a1,a2⟩,⟨a3,a4⟩,⟨a5,a6⟩⟩) (((y1,y2),(y3,y4)),(y5,y6),(y7,y8),(y9,y0)) k) (w:World) (ht:gJ.Pow w) (he:whole.Er w):Calls Tryz.prog 69 #[au #[Z I f1,Z I f2,Z I g1,Z I g2,O a1,O a2,O a3,O a4,O a5,O a6,O b1,O b2,O b3,O b4,O b5,O b6,Z I l1,Z I l2,Z I m1,Z I m2,Z I n1,Z I n2]] w (Try w (au #[Z I y1,Z I y2,Z I y3,Z I y4,Z I y5,Z I y6,Z I y7,Z I y8,Z I y9,Z I y0]) k):=by
 unfold txE at hx;refine Fx.door Tryz.func69 rfl (.nil w []) ?_;have HR:=hx;refine Fx.new [] 1 #[Z I f1,Z I f2,Z I g1,Z I g2,O a1,O a2,O a3,O a4,O a5,O a6,O b1,O b2,O b3,O b4,O b5,O b6,Z I l1,Z I l2,Z I m1,Z I m2,Z I n1,Z I n2] 106 [] [] fun gV=>?_;refine Fx.bq [] 2 115 [] [] fun iD=>?_;refine Fx.bq [3] 3 115 [(13,au #[Z I f1,Z I f2,Z I g1,Z I g2,Z I 0,Z I 0,Z I 0,Z I 0,Z I 0,Z I 0])] [] fun iL=>?_;refine Fx.bq [5,3] 4 29 [(16,au #[O a1,O a2])] [(2,#[Z I f1,Z I f2,Z I g1,Z I g2,Z I 0,Z I 0,Z I 0,Z I 0,Z I 0,Z I 0])] fun vo=>?_;refine Fx.draw [6] (bO 10) [] [] [(3,#[O a1,O a2])] ?_
 obtain ⟨⟨s5,t5⟩,k5,EX,HN⟩:=ak HR;refine Fx.call [6] 18 [(17,au #[O a1,O a2])] [] (fun W M=>cOf EX _ (ht.later M.below)) ?_;refine Fx.aM bR [] 21 [] [] (fun W M=>jD (s:=s5) (t:=t5) _) HN fun _ HR=>?_;obtain ⟨v7,k7,EX,HN⟩:=ak HR;refine Fx.call [] 22 [] [] (fun W M=>UJ EX _) ?_;refine Fx.aM bR [] 25 [] [] (fun W M=>wJ (v:=v7) _) HN fun _ HR=>?_;refine Fx.part 1 [] [(26,ay (decide (v7<0)))] [] ?_;refine Fx.splitB (fun hf1=>?_) (fun hf1=>?_)
 ·skip
  replace HR:=bI.pos HR (of_decide_eq_true hf1);unfold Zw at HR;refine Fx.call [1] 27 [] [] (fun W M=>dX (s:=⟨#[48,46,53,49,49]⟩) (n:=511000000000) _ (ht.later M.below) (he.later M.below)) ?_;refine Fx.draw [5] [0,1,2,5,6,7,3,4,8,9,10,11,12] [] [] [(2,#[Z I f1,Z I f2,Z I g1,Z I g2,Z I 511000000000,Z I 511000000000,Z I 0,Z I 0,Z I 0,Z I 0])] ?_;obtain ⟨⟨x10,Jh⟩,_,EX,HN⟩:=ak HR;refine Fx.aM bR [3,3] 67 [(71,au #[Z I f1,Z I f2])] [] (fun W M=>fH (s:=⟨#[48,46,48,54,51,56]⟩) (bI.of EX) _ (ht.later M.below) (he.later M.below)) HN fun _ HR=>?_;refine Fx.call [] 68 [] [] (fun W M=>dX (s:=⟨#[49]⟩) (n:=1000000000000) _ (ht.later M.below) (he.later M.below)) ?_;obtain ⟨⟨Ci,Cg⟩,_,EX,HN⟩:=ak HR
  refine Fx.aM bR [] 72 [] [] (fun W M=>fH (s:=⟨#[48,46,48,49,51,49]⟩) (bI.of EX) _ (ht.later M.below) (he.later M.below)) HN fun _ HR=>?_;obtain ⟨⟨La,y13⟩,_,EX,HN⟩:=ak HR;refine Fx.aM bR [] 73 [] [] (fun W M=>iO (bI.of EX) _) HN fun _ HR=>?_;obtain ⟨⟨VR,VL⟩,_,EX,HN⟩:=ak HR;refine Fx.aM bR [] 74 [] [] (fun W M=>ni (bI.of EX) _) HN fun _ HR=>?_;refine Fx.cK [] 7 35 [] [] fun EF=>?_;refine Fx.draw [7] (bO 5) [] [] [(4,#[Z I VR,Z I VL])] ?_;refine Fx.call [7] 76 [(75,au #[Z I VR,Z I VL])] [] (fun W M=>dX (s:=⟨#[48,46,54,51,56]⟩) (n:=638000000000) _ (ht.later M.below) (he.later M.below)) ?_;obtain ⟨⟨Ch,Ce⟩,_,EX,HN⟩:=ak HR;refine Fx.aM bR [] 77 [] [] (fun W M=>iO (bI.of EX) _) HN fun _ HR=>?_;obtain ⟨⟨x18,He⟩,_,EX,HN⟩:=ak HR
  refine Fx.aM bR [5,3] 82 [] [(2,#[Z I f1,Z I f2,Z I g1,Z I g2,Z I 511000000000,Z I 511000000000,Z I Ch,Z I Ce,Z I 0,Z I 0])] (fun W M=>o7 (bI.of EX) _) HN fun _ HR=>?_;obtain ⟨⟨Z9,Z7⟩,_,EX,HN⟩:=ak HR;refine Fx.aM bR [] 83 [] [] (fun W M=>je (bI.of EX) _) HN fun _ HR=>?_;obtain ⟨⟨x20,y20⟩,_,EX,HN⟩:=ak HR;refine Fx.aM bR [] 84 [] [] (fun W M=>je (bI.of EX) _) HN fun _ HR=>?_;refine Fx.bq [] 8 35 [] [] fun Q7=>?_;refine Fx.draw [8] (bO 11) [] [] [(5,#[Z I x20,Z I y20])] ?_;refine Fx.call [8,8] 87 [(85,au #[Z I x20,Z I y20]),(86,au #[Z I x20,Z I y20])] [] (fun W M=>dX (s:=⟨#[48,46,49,57]⟩) (n:=190000000000) _ (ht.later M.below) (he.later M.below)) ?_;obtain ⟨⟨x23,y23⟩,_,EX,HN⟩:=ak HR
  refine Fx.aM bR [] 88 [] [] (fun W M=>iO (bI.of EX) _) HN fun _ HR=>?_;obtain ⟨⟨x24,y24⟩,_,EX,HN⟩:=ak HR;refine Fx.aM bR [] 89 [] [] (fun W M=>ni (bI.of EX) _) HN fun _ HR=>?_;obtain ⟨⟨x25,y25⟩,k25,EX,HN⟩:=ak HR;refine Fx.call [] 90 [] [] (fun W M=>ED EX _ (ht.later M.below) (he.later M.below)) ?_;refine Fx.aM bR [] 93 [] [] (fun W M=>fM (x:=x25) (y:=y25) _) HN fun _ HR=>?_;refine Fx.cK [] 9 35 [] [] fun Oq=>?_;obtain ⟨⟨x28,y28⟩,_,EX,HN⟩:=ak HR;refine Fx.aM bR [9,9] 95 [] [(6,#[Z I x25,Z I y25])] (fun W M=>uo (bI.of EX) _) HN fun _ HR=>?_;obtain ⟨⟨⟨al5,al0⟩,⟨ak9,ak8⟩⟩,_,EX,HN⟩:=ak HR;refine Fx.aM bR [9,3] 98 [] [(6,#[Z I x28,Z I y28])] (fun W M=>IW (bI.of EX) _ (ht.later M.below) (he.later M.below)) HN fun _ HR=>?_;obtain ⟨⟨x30,K9⟩,_,EX,HN⟩:=ak HR
  refine Fx.aM bR [] 101 [] [] (fun W M=>Ow (bI.of EX) _ (ht.later M.below) (he.later M.below)) HN fun _ HR=>?_;refine Fx.bq [] 10 35 [] [] fun YJ=>?_;refine Fx.draw [10] [0,1,2,3,7,4,5,6,8,9,10,11] [] [] [(7,#[Z I x30,Z I K9])] ?_;obtain ⟨⟨x32,y32⟩,_,EX,HN⟩:=ak HR;refine Fx.aM bR [5,9,10,9] 106 [(103,au #[Z I Ch,Z I Ce]),(109,au #[Z I x28,Z I y28])] [] (fun W M=>kJ (bI.of EX) _) HN fun _ HR=>?_;refine Fx.call [] 107 [] [] (fun W M=>dX (s:=⟨#[49]⟩) (n:=1000000000000) _ (ht.later M.below) (he.later M.below)) ?_;obtain ⟨⟨x34,y34⟩,_,EX,HN⟩:=ak HR;refine Fx.aM bR [] 108 [] [] (fun W M=>iO (bI.of EX) _) HN fun _ HR=>?_;obtain ⟨⟨SX,SV⟩,_,EX,HN⟩:=ak HR;refine Fx.aM bR [] 110 [] [] (fun W M=>kR (bI.of EX) _) HN fun _ HR=>?_;obtain ⟨⟨Zp,Zo⟩,_,EX,HN⟩:=ak HR
  refine Fx.aM bR [] 111 [] [] (fun W M=>kJ (bI.of EX) _) HN fun _ HR=>?_;obtain ⟨hk,hv⟩:=HR;cases hk
  exact Fx.iC (cs:=#[Z I f1,Z I f2,Z I g1,Z I g2,Z I 511000000000,Z I 511000000000,Z I Ch,Z I Ce,Z I Zp,Z I Zo]) 1 iD [5,5,4] [(1,#[Z I f1,Z I f2,Z I g1,Z I g2,Z I 511000000000,Z I 511000000000,Z I Ch,Z I Ce,Z I Zp,Z I Zo]),(2,#[Z I f1,Z I f2,Z I g1,Z I g2,Z I 511000000000,Z I 511000000000,Z I Ch,Z I Ce,Z I Zp,Z I Zo])] (fun W M=>⟨M.below,.inl ⟨rfl,by cases hv rfl;rfl⟩⟩)
 ·skip
  replace HR:=bI.neg HR (of_decide_eq_false hf1);unfold Zw at HR;refine Fx.draw [2] [4,0,1,2,3,5,6,7,8,9,10] [] [] [] ?_;obtain ⟨⟨s37,t37⟩,k37,EX,HN⟩:=ak HR;refine Fx.call [6] 29 [(33,au #[O a1,O a2])] [] (fun W M=>Gx (s:=⟨#[48,46,48,52,48,57,55,53]⟩) EX _ (ht.later M.below)) ?_;refine Fx.aM bR [] 32 [] [] (fun W M=>jD (s:=s37) (t:=t37) _) HN fun _ HR=>?_;obtain ⟨⟨s39,t39⟩,k39,EX,HN⟩:=ak HR;refine Fx.call [] 34 [] [] (fun W M=>YD EX _ (ht.later M.below)) ?_;refine Fx.aM bR [] 37 [] [] (fun W M=>jD (s:=s39) (t:=t39) _) HN fun _ HR=>?_;refine Fx.cK [] 5 29 [] [] fun av2=>?_;refine Fx.draw [7] [4,0,1,2,3,5,6,7,8,9,10] [] [] [(4,#[O s39,O t39])] ?_;obtain ⟨⟨s42,t42⟩,k42,EX,HN⟩:=ak HR
  refine Fx.call [6] 38 [(42,au #[O a1,O a2])] [] (fun W M=>Gx (s:=⟨#[48,46,48,49,55,54,53]⟩) EX _ (ht.later M.below)) ?_;refine Fx.aM bR [] 41 [] [] (fun W M=>jD (s:=s42) (t:=t42) _) HN fun _ HR=>?_;obtain ⟨⟨s44,t44⟩,k44,EX,HN⟩:=ak HR;refine Fx.call [] 43 [] [] (fun W M=>YD EX _ (ht.later M.below)) ?_;refine Fx.aM bR [] 46 [] [] (fun W M=>jD (s:=s44) (t:=t44) _) HN fun _ HR=>?_;refine Fx.cK [] 6 29 [] [] fun au9=>?_;refine Fx.draw [8] [4,0,1,2,3,5,6,7,8,9] [] [] [(5,#[O s44,O t44])] ?_;obtain ⟨⟨s47,t47⟩,k47,EX,HN⟩:=ak HR;refine Fx.call [8] 47 [(51,au #[O s44,O t44])] [] (fun W M=>cOf EX _ (ht.later M.below)) ?_;refine Fx.aM bR [] 50 [] [] (fun W M=>jD (s:=s47) (t:=t47) _) HN fun _ HR=>?_;obtain ⟨⟨s49,t49⟩,k49,EX,HN⟩:=ak HR
  refine Fx.call [] 52 [] [] (fun W M=>af9 EX _ (ht.later M.below)) ?_;refine Fx.aM bR [] 55 [] [] (fun W M=>jD (s:=s49) (t:=t49) _) HN fun _ HR=>?_;obtain ⟨⟨s51,t51⟩,k51,EX,HN⟩:=ak HR;refine Fx.call [8,7,8] 58 [] [(5,#[O s49,O t49])] (fun W M=>af8 EX _ (ht.later M.below)) ?_;refine Fx.aM bR [] 61 [] [] (fun W M=>jD (s:=s51) (t:=t51) _) HN fun _ HR=>?_;obtain ⟨⟨Xp,Xn⟩,_,EX,HN⟩:=ak HR;refine Fx.aM bR [] 62 [] [] (fun W M=>gT (bI.of EX) _ (ht.later M.below) (he.later M.below)) HN fun _ HR=>?_;refine Fx.draw [5] [0,1,2,5,6,7,3,4,8,9,10,11,12] [] [] [(2,#[Z I f1,Z I f2,Z I g1,Z I g2,Z I Xp,Z I Xn,Z I 0,Z I 0,Z I 0,Z I 0])] ?_;obtain ⟨⟨x54,y54⟩,_,EX,HN⟩:=ak HR
  refine Fx.aM bR [3,3] 67 [(71,au #[Z I f1,Z I f2])] [] (fun W M=>fH (s:=⟨#[48,46,48,54,51,56]⟩) (bI.of EX) _ (ht.later M.below) (he.later M.below)) HN fun _ HR=>?_;refine Fx.call [] 68 [] [] (fun W M=>dX (s:=⟨#[49]⟩) (n:=1000000000000) _ (ht.later M.below) (he.later M.below)) ?_;obtain ⟨⟨x56,y56⟩,_,EX,HN⟩:=ak HR;refine Fx.aM bR [] 72 [] [] (fun W M=>fH (s:=⟨#[48,46,48,49,51,49]⟩) (bI.of EX) _ (ht.later M.below) (he.later M.below)) HN fun _ HR=>?_;obtain ⟨⟨x57,y57⟩,_,EX,HN⟩:=ak HR;refine Fx.aM bR [] 73 [] [] (fun W M=>iO (bI.of EX) _) HN fun _ HR=>?_;obtain ⟨⟨x58,y58⟩,_,EX,HN⟩:=ak HR;refine Fx.aM bR [] 74 [] [] (fun W M=>ni (bI.of EX) _) HN fun _ HR=>?_;refine Fx.cK [] 7 35 [] [] fun au8=>?_;refine Fx.draw [9] (bO 5) [] [] [(6,#[Z I x58,Z I y58])] ?_
  refine Fx.call [9] 76 [(75,au #[Z I x58,Z I y58])] [] (fun W M=>dX (s:=⟨#[48,46,54,51,56]⟩) (n:=638000000000) _ (ht.later M.below) (he.later M.below)) ?_;obtain ⟨⟨Xo,Xm⟩,_,EX,HN⟩:=ak HR;refine Fx.aM bR [] 77 [] [] (fun W M=>iO (bI.of EX) _) HN fun _ HR=>?_;obtain ⟨⟨x62,y62⟩,_,EX,HN⟩:=ak HR;refine Fx.aM bR [5,3] 82 [] [(2,#[Z I f1,Z I f2,Z I g1,Z I g2,Z I Xp,Z I Xn,Z I Xo,Z I Xm,Z I 0,Z I 0])] (fun W M=>o7 (bI.of EX) _) HN fun _ HR=>?_;obtain ⟨⟨x63,y63⟩,_,EX,HN⟩:=ak HR;refine Fx.aM bR [] 83 [] [] (fun W M=>je (bI.of EX) _) HN fun _ HR=>?_;obtain ⟨⟨Z8,VG⟩,_,EX,HN⟩:=ak HR;refine Fx.aM bR [] 84 [] [] (fun W M=>je (bI.of EX) _) HN fun _ HR=>?_;refine Fx.bq [] 8 35 [] [] fun au7=>?_
  refine Fx.draw [10] (bO 11) [] [] [(7,#[Z I Z8,Z I VG])] ?_;refine Fx.call [10,10] 87 [(85,au #[Z I Z8,Z I VG]),(86,au #[Z I Z8,Z I VG])] [] (fun W M=>dX (s:=⟨#[48,46,49,57]⟩) (n:=190000000000) _ (ht.later M.below) (he.later M.below)) ?_;obtain ⟨⟨x67,y67⟩,_,EX,HN⟩:=ak HR;refine Fx.aM bR [] 88 [] [] (fun W M=>iO (bI.of EX) _) HN fun _ HR=>?_;obtain ⟨⟨x68,y68⟩,_,EX,HN⟩:=ak HR;refine Fx.aM bR [] 89 [] [] (fun W M=>ni (bI.of EX) _) HN fun _ HR=>?_;obtain ⟨⟨x69,y69⟩,k69,EX,HN⟩:=ak HR;refine Fx.call [] 90 [] [] (fun W M=>ED EX _ (ht.later M.below) (he.later M.below)) ?_;refine Fx.aM bR [] 93 [] [] (fun W M=>fM (x:=x69) (y:=y69) _) HN fun _ HR=>?_;refine Fx.cK [] 9 35 [] [] fun au6=>?_;obtain ⟨⟨x72,y72⟩,_,EX,HN⟩:=ak HR
  refine Fx.aM bR [11,11] 95 [] [(8,#[Z I x69,Z I y69])] (fun W M=>uo (bI.of EX) _) HN fun _ HR=>?_;obtain ⟨⟨⟨ak7,ak6⟩,⟨ak5,ak4⟩⟩,_,EX,HN⟩:=ak HR;refine Fx.aM bR [11,3] 98 [] [(8,#[Z I x72,Z I y72])] (fun W M=>IW (bI.of EX) _ (ht.later M.below) (he.later M.below)) HN fun _ HR=>?_;obtain ⟨⟨x74,y74⟩,_,EX,HN⟩:=ak HR;refine Fx.aM bR [] 101 [] [] (fun W M=>Ow (bI.of EX) _ (ht.later M.below) (he.later M.below)) HN fun _ HR=>?_;refine Fx.bq [] 10 35 [] [] fun au5=>?_;refine Fx.draw [12] [0,1,2,3,7,4,5,6,8,9,10,11] [] [] [(9,#[Z I x74,Z I y74])] ?_;obtain ⟨⟨x76,y76⟩,_,EX,HN⟩:=ak HR;refine Fx.aM bR [5,11,12,11] 106 [(103,au #[Z I Xo,Z I Xm]),(109,au #[Z I x72,Z I y72])] [] (fun W M=>kJ (bI.of EX) _) HN fun _ HR=>?_
  refine Fx.call [] 107 [] [] (fun W M=>dX (s:=⟨#[49]⟩) (n:=1000000000000) _ (ht.later M.below) (he.later M.below)) ?_;obtain ⟨⟨x78,y78⟩,_,EX,HN⟩:=ak HR;refine Fx.aM bR [] 108 [] [] (fun W M=>iO (bI.of EX) _) HN fun _ HR=>?_;obtain ⟨⟨x79,y79⟩,_,EX,HN⟩:=ak HR;refine Fx.aM bR [] 110 [] [] (fun W M=>kR (bI.of EX) _) HN fun _ HR=>?_;obtain ⟨⟨x80,Z6⟩,_,EX,HN⟩:=ak HR;refine Fx.aM bR [] 111 [] [] (fun W M=>kJ (bI.of EX) _) HN fun _ HR=>?_;obtain ⟨hk,hv⟩:=HR;cases hk
  exact Fx.iC (cs:=#[Z I f1,Z I f2,Z I g1,Z I g2,Z I Xp,Z I Xn,Z I Xo,Z I Xm,Z I x80,Z I Z6]) 1 iD [5,5,4] [(1,#[Z I f1,Z I f2,Z I g1,Z I g2,Z I Xp,Z I Xn,Z I Xo,Z I Xm,Z I x80,Z I Z6]),(2,#[Z I f1,Z I f2,Z I g1,Z I g2,Z I Xp,Z I Xn,Z I Xo,Z I Xm,Z I x80,Z I Z6])] (fun W M=>⟨M.below,.inl ⟨rfl,by cases hv rfl;rfl⟩⟩)
end Go.Proofs.differ
