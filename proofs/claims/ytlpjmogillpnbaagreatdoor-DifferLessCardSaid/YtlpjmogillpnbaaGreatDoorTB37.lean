/- Lemmas for the proof. No condition. -/
import Derived.Test.YtlpjmogillpnbaaGreatDoorTB36
set_option linter.unusedVariables false
set_option linter.unusedSimpArgs false
set_option maxRecDepth 100000
set_option maxHeartbeats 16000000
open Go.IntKind renaming i64 → I
open Go.Value renaming agg → au, bool → ay, int → Z, string → O
open List renaming range → bO
namespace Go.Proofs.differ
open Go Go.RowKit Go.SW Go.Num Go.Mem Go.Proofs Go.gW Go.Fx
def LD (x y:Int × Int):(Int × Int) × Int :=
 aP (0,0) (aQ.qY x) fun xx =>
 aP (0,0) (aQ.qY y) fun yy =>
 aP (0,0) (aQ.pU xx yy) fun c2 =>
 aP (0,0) (aQ.jo x y) fun xy =>
 aP (0,0) (aQ.xH xy 2 1) fun s2 =>
 aP (0,0) (aQ.jo x c2) fun a =>
 aP (0,0) (aQ.jo y s2) fun b =>
 aP (0,0) (aQ.pU a b) fun c3 =>
 aP (0,0) (aQ.jo y c2) fun a =>
 aP (0,0) (aQ.jo x s2) fun b =>
 aP (0,0) (aQ.gU a b) fun s3 =>
 aP (0,0) (aQ.qY c2) fun a =>
 aP (0,0) (aQ.qY s2) fun b =>
 aP (0,0) (aQ.pU a b) fun c4 =>
 aP (0,0) (aQ.jo c2 s2) fun a =>
 aP (0,0) (aQ.xH a 2 1) fun s4 =>
 aP (0,0) (aQ.jo (147224318600,147224318600) x) fun a =>
 aP (0,0) (aQ.pU (1000000000000,1000000000000) a) fun t =>
 aP (0,0) (aQ.jo (85000000000,85000000000) y) fun a =>
 aP (0,0) (aQ.pU t a) fun t =>
 aP (0,0) (aQ.jo (240000000000,240000000000) c2) fun a =>
 aP (0,0) (aQ.gU t a) fun t =>
 aP (0,0) (aQ.jo (318247006500,318247006500) c3) fun a =>
 aP (0,0) (aQ.gU t a) fun t =>
 aP (0,0) (aQ.jo (33449108200,33449108200) s3) fun a =>
 aP (0,0) (aQ.pU t a) fun t =>
 aP (0,0) (aQ.jo (90798099950,90798099950) c4) fun a =>
 aP (0,0) (aQ.pU t a) fun t =>
 aP (0,0) (aQ.jo (178201304800,178201304800) s4) fun a =>
 aP (0,0) (aQ.pU t a) fun t =>
 aP (0,0) (aQ.zO t 70000000000 1930000000000) fun r =>
 lC r
theorem LC {x1 x2 y1 y2 x y k:Int} (hx:bI (LD (x1,x2) (y1,y2)) (x,y) k) (w:World) (ht:gJ.Pow w) (he:whole.Er w):Calls Tryz.prog 119 #[au #[Z I x1,Z I x2],au #[Z I y1,Z I y2]] w (Try w (au #[Z I x,Z I y]) k):=by
 unfold LD at hx;refine Fx.door Tryz.func119 rfl (.nil w []) ?_;have HR:=hx;refine Fx.new [] 2 #[Z I x1,Z I x2] 35 [] [] fun gV=>?_;refine Fx.new [] 3 #[Z I y1,Z I y2] 35 [] [] fun iD=>?_;refine Fx.bq [] 4 35 [] [] fun iL=>?_;refine Fx.draw [] [0,2,1,3,4,5,6] [] [] [] ?_;obtain ⟨⟨x4,y4⟩,_,EX,HN⟩:=ak HR;refine Fx.aM bR [3,4] 13 [(14,au #[Z I y1,Z I y2])] [] (fun W M=>je (bI.of EX) _) HN fun _ HR=>?_;obtain ⟨⟨x5,y5⟩,_,EX,HN⟩:=ak HR;refine Fx.aM bR [] 15 [] [] (fun W M=>je (bI.of EX) _) HN fun _ HR=>?_;obtain ⟨⟨x6,y6⟩,_,EX,HN⟩:=ak HR;refine Fx.aM bR [] 16 [] [] (fun W M=>kR (bI.of EX) _) HN fun _ HR=>?_;refine Fx.cK [] 5 35 [] [] fun Aq=>?_;obtain ⟨⟨x8,y8⟩,_,EX,HN⟩:=ak HR;refine Fx.aM bR [6,3,4] 19 [] [(3,#[Z I x6,Z I y6])] (fun W M=>kJ (bI.of EX) _) HN fun _ HR=>?_
 obtain ⟨⟨x9,y9⟩,_,EX,HN⟩:=ak HR;refine Fx.aM bR [] 20 [] [] (fun W M=>o7 (bI.of EX) _) HN fun _ HR=>?_;refine Fx.bq [] 6 35 [] [] fun Ov=>?_;refine Fx.draw [7] [0,1,3,4,2,5,6,7,8] [] [] [(4,#[Z I x9,Z I y9])] ?_;obtain ⟨⟨x11,y11⟩,_,EX,HN⟩:=ak HR;refine Fx.aM bR [3,6,4,7] 23 [(24,au #[Z I y1,Z I y2]),(25,au #[Z I x9,Z I y9])] [] (fun W M=>kJ (bI.of EX) _) HN fun _ HR=>?_;obtain ⟨⟨Ci,Cg⟩,_,EX,HN⟩:=ak HR;refine Fx.aM bR [] 26 [] [] (fun W M=>kJ (bI.of EX) _) HN fun _ HR=>?_;obtain ⟨⟨La,y13⟩,_,EX,HN⟩:=ak HR;refine Fx.aM bR [] 27 [] [] (fun W M=>kR (bI.of EX) _) HN fun _ HR=>?_;refine Fx.cK [] 7 35 [] [] fun UM=>?_;refine Fx.draw [8] [0,1,3,4,2,5,6,7,8] [] [] [(5,#[Z I La,Z I y13])] ?_;obtain ⟨⟨VQ,VK⟩,_,EX,HN⟩:=ak HR
 refine Fx.aM bR [4,6,3,7] 30 [(31,au #[Z I x1,Z I x2]),(32,au #[Z I x9,Z I y9])] [] (fun W M=>kJ (bI.of EX) _) HN fun _ HR=>?_;obtain ⟨⟨VP,VJ⟩,_,EX,HN⟩:=ak HR;refine Fx.aM bR [] 33 [] [] (fun W M=>kJ (bI.of EX) _) HN fun _ HR=>?_;obtain ⟨⟨Ch,Ce⟩,_,EX,HN⟩:=ak HR;refine Fx.aM bR [] 34 [] [] (fun W M=>iO (bI.of EX) _) HN fun _ HR=>?_;refine Fx.cK [] 8 35 [] [] fun YN=>?_;refine Fx.draw [9] [0,2,1,3,4,5,6] [] [] [(6,#[Z I Ch,Z I Ce])] ?_;obtain ⟨⟨Z9,Z7⟩,_,EX,HN⟩:=ak HR;refine Fx.aM bR [6,7] 36 [(37,au #[Z I x9,Z I y9])] [] (fun W M=>je (bI.of EX) _) HN fun _ HR=>?_;obtain ⟨⟨x20,y20⟩,_,EX,HN⟩:=ak HR;refine Fx.aM bR [] 38 [] [] (fun W M=>je (bI.of EX) _) HN fun _ HR=>?_;obtain ⟨⟨x21,y21⟩,_,EX,HN⟩:=ak HR
 refine Fx.aM bR [] 39 [] [] (fun W M=>kR (bI.of EX) _) HN fun _ HR=>?_;refine Fx.cK [] 9 35 [] [] fun Ot=>?_;obtain ⟨⟨x23,y23⟩,_,EX,HN⟩:=ak HR;refine Fx.aM bR [10,6,7] 42 [] [(7,#[Z I x21,Z I y21])] (fun W M=>kJ (bI.of EX) _) HN fun _ HR=>?_;obtain ⟨⟨x24,y24⟩,_,EX,HN⟩:=ak HR;refine Fx.aM bR [] 43 [] [] (fun W M=>o7 (bI.of EX) _) HN fun _ HR=>?_;refine Fx.bq [] 10 35 [] [] fun Q6=>?_;refine Fx.draw [11] [1,0,2,3,4,5] [] [] [(8,#[Z I x24,Z I y24])] ?_;refine Fx.call [3] 44 [(45,au #[Z I x1,Z I x2])] [] (fun W M=>dX (s:=⟨#[49]⟩) (n:=1000000000000) _ (ht.later M.below) (he.later M.below)) ?_;obtain ⟨⟨x27,y27⟩,_,EX,HN⟩:=ak HR;refine Fx.aM bR [] 46 [] [] (fun W M=>fH (s:=⟨#[48,46,49,52,55,50,50,52,51,49,56,54]⟩) (bI.of EX) _ (ht.later M.below) (he.later M.below)) HN fun _ HR=>?_
 obtain ⟨⟨x28,y28⟩,_,EX,HN⟩:=ak HR;refine Fx.aM bR [] 47 [] [] (fun W M=>kR (bI.of EX) _) HN fun _ HR=>?_;refine Fx.cK [] 11 35 [] [] fun UK=>?_;refine Fx.draw [12] (bO 5) [] [] [(9,#[Z I x28,Z I y28])] ?_;obtain ⟨⟨x30,K9⟩,_,EX,HN⟩:=ak HR;refine Fx.aM bR [12,4] 50 [(48,au #[Z I x28,Z I y28])] [] (fun W M=>fH (s:=⟨#[48,46,48,56,53]⟩) (bI.of EX) _ (ht.later M.below) (he.later M.below)) HN fun _ HR=>?_;obtain ⟨⟨x31,y31⟩,_,EX,HN⟩:=ak HR;refine Fx.aM bR [] 51 [] [] (fun W M=>kR (bI.of EX) _) HN fun _ HR=>?_;refine Fx.draw [12] (bO 5) [] [] [(9,#[Z I x31,Z I y31])] ?_;obtain ⟨⟨x32,y32⟩,_,EX,HN⟩:=ak HR
 refine Fx.aM bR [12,6] 54 [(52,au #[Z I x31,Z I y31])] [] (fun W M=>fH (s:=⟨#[48,46,50,52]⟩) (bI.of EX) _ (ht.later M.below) (he.later M.below)) HN fun _ HR=>?_;obtain ⟨⟨VO,VI⟩,_,EX,HN⟩:=ak HR;refine Fx.aM bR [] 55 [] [] (fun W M=>iO (bI.of EX) _) HN fun _ HR=>?_;refine Fx.draw [12] (bO 5) [] [] [(9,#[Z I VO,Z I VI])] ?_;obtain ⟨⟨x34,y34⟩,_,EX,HN⟩:=ak HR;refine Fx.aM bR [12,8] 58 [(56,au #[Z I VO,Z I VI])] [] (fun W M=>fH (s:=⟨#[48,46,51,49,56,50,52,55,48,48,54,53]⟩) (bI.of EX) _ (ht.later M.below) (he.later M.below)) HN fun _ HR=>?_;obtain ⟨⟨SX,SV⟩,_,EX,HN⟩:=ak HR;refine Fx.aM bR [] 59 [] [] (fun W M=>iO (bI.of EX) _) HN fun _ HR=>?_;refine Fx.draw [12] (bO 5) [] [] [(9,#[Z I SX,Z I SV])] ?_;obtain ⟨⟨Zp,Zo⟩,_,EX,HN⟩:=ak HR
 refine Fx.aM bR [12,9] 62 [(60,au #[Z I SX,Z I SV])] [] (fun W M=>fH (s:=⟨#[48,46,48,51,51,52,52,57,49,48,56,50]⟩) (bI.of EX) _ (ht.later M.below) (he.later M.below)) HN fun _ HR=>?_;obtain ⟨⟨VN,VH⟩,_,EX,HN⟩:=ak HR;refine Fx.aM bR [] 63 [] [] (fun W M=>kR (bI.of EX) _) HN fun _ HR=>?_;refine Fx.draw [12] (bO 5) [] [] [(9,#[Z I VN,Z I VH])] ?_;obtain ⟨⟨x38,y38⟩,_,EX,HN⟩:=ak HR;refine Fx.aM bR [12,10] 66 [(64,au #[Z I VN,Z I VH])] [] (fun W M=>fH (s:=⟨#[48,46,48,57,48,55,57,56,48,57,57,57,53]⟩) (bI.of EX) _ (ht.later M.below) (he.later M.below)) HN fun _ HR=>?_;obtain ⟨⟨x39,y39⟩,_,EX,HN⟩:=ak HR;refine Fx.aM bR [] 67 [] [] (fun W M=>kR (bI.of EX) _) HN fun _ HR=>?_;refine Fx.draw [12] (bO 5) [] [] [(9,#[Z I x39,Z I y39])] ?_
 obtain ⟨⟨x40,Zn⟩,_,EX,HN⟩:=ak HR;refine Fx.aM bR [12,11] 70 [(68,au #[Z I x39,Z I y39])] [] (fun W M=>fH (s:=⟨#[48,46,49,55,56,50,48,49,51,48,52,56]⟩) (bI.of EX) _ (ht.later M.below) (he.later M.below)) HN fun _ HR=>?_;obtain ⟨⟨x41,y41⟩,_,EX,HN⟩:=ak HR;refine Fx.aM bR [] 71 [] [] (fun W M=>kR (bI.of EX) _) HN fun _ HR=>?_;obtain ⟨⟨x42,y42⟩,_,EX,HN⟩:=ak HR;refine Fx.aM bR [12,12] 73 [] [(9,#[Z I x41,Z I y41])] (fun W M=>uo (bI.of EX) _) HN fun _ HR=>?_;obtain ⟨hk,hv⟩:=HR;cases hk
 exact Fx.iC (cs:=#[Z I x42,Z I y42]) 2 iL [5] [(2,#[Z I x42,Z I y42])] (fun W M=>⟨M.below,.inl ⟨rfl,by cases hv rfl;rfl⟩⟩)
def mdR (x y mean f g c:Int × Int):B5 × Int :=
 aP kW (aQ.jo (15000000000,15000000000) mean) fun s =>
 aP kW (LD x y) fun v =>
 aP kW (aQ.jo s v) fun a =>
 aP kW (aQ.gU (1000000000000,1000000000000) a) fun h =>
 lC ((f,g),(1000000000000,1000000000000),c,h)
def mdE (f g:Int × Int) (A B:light.uF):B5 × Int :=
 aP kW (aQ.gU f g) fun s =>
 aP kW (aQ.xH s 1 2) fun mean =>
 aP kW (aQ.jo (45000000000,45000000000) mean) fun a =>
 aP kW (aQ.gU (1000000000000,1000000000000) a) fun c =>
 aP kW (Nq A.x A.y A.z) fun u =>
 aP kW (Nq B.x B.y B.z) fun v =>
 aP kW (aQ.gU u.1 v.1) fun s =>
 aP kW (aQ.gU u.2 v.2) fun t =>
 aP kW (power.zG [s,t]) fun n =>
 if n.1=0 then mdR opn opn mean f g c else aP kW (aQ.vg s n) fun a=>aP kW (aQ.zO a (-1000000000000) 1000000000000) fun x=>aP kW (aQ.vg t n) fun b=>aP kW (aQ.zO b (-1000000000000) 1000000000000) fun y=>mdR x y mean f g c
theorem MS {f1 f2 g1 g2 l1 l2 m1 m2 n1 n2:Int} {a1 a2 a3 a4 a5 a6:ByteArray} {b1 b2 b3 b4 b5 b6:ByteArray} {y1 y2 y3 y4 y5 y6 y7 y8 y9 y0 k:Int} (hx:bI (mdE (f1,f2) (g1,g2) ⟨⟨a1,a2⟩,⟨a3,a4⟩,⟨a5,a6⟩⟩ ⟨⟨b1,b2⟩,⟨b3,b4⟩,⟨b5,b6⟩⟩) (((y1,y2),(y3,y4)),(y5,y6),(y7,y8),(y9,y0)) k) (w:World) (ht:gJ.Pow w) (he:whole.Er w):Calls Tryz.prog 70 #[au #[Z I f1,Z I f2,Z I g1,Z I g2,O a1,O a2,O a3,O a4,O a5,O a6,O b1,O b2,O b3,O b4,O b5,O b6,Z I l1,Z I l2,Z I m1,Z I m2,Z I n1,Z I n2]] w (Try w (au #[Z I y1,Z I y2,Z I y3,Z I y4,Z I y5,Z I y6,Z I y7,Z I y8,Z I y9,Z I y0]) k):=by
 unfold mdE mdR opn at hx;refine Fx.door Tryz.func70 rfl (.nil w []) ?_;have HR:=hx;refine Fx.new [] 1 #[Z I f1,Z I f2,Z I g1,Z I g2,O a1,O a2,O a3,O a4,O a5,O a6,O b1,O b2,O b3,O b4,O b5,O b6,Z I l1,Z I l2,Z I m1,Z I m2,Z I n1,Z I n2] 106 [] [] fun gV=>?_;refine Fx.bq [] 2 115 [] [] fun iD=>?_;obtain ⟨⟨x3,y3⟩,_,EX,HN⟩:=ak HR;refine Fx.aM bR [3,3] 20 [] [] (fun W M=>iO (bI.of EX) _) HN fun _ HR=>?_;obtain ⟨⟨x4,y4⟩,_,EX,HN⟩:=ak HR;refine Fx.aM bR [] 21 [] [] (fun W M=>o7 (bI.of EX) _) HN fun _ HR=>?_;refine Fx.bq [] 3 35 [] [] fun rz=>?_;refine Fx.draw [5] (bO 6) [] [] [(2,#[Z I x4,Z I y4])] ?_
 refine Fx.call [3] 24 [(23,au #[Z I f1,Z I f2,Z I g1,Z I g2])] [] (fun W M=>dX (s:=⟨#[49]⟩) (n:=1000000000000) _ (ht.later M.below) (he.later M.below)) ?_;refine Fx.cK [] 4 115 [(25,au #[Z I f1,Z I f2,Z I g1,Z I g2,Z I 1000000000000,Z I 1000000000000,Z I 0,Z I 0,Z I 0,Z I 0])] [] fun Aq=>?_;refine Fx.draw [6] [1,0,2,3,4,5] [] [] [(3,#[Z I f1,Z I f2,Z I g1,Z I g2,Z I 1000000000000,Z I 1000000000000,Z I 0,Z I 0,Z I 0,Z I 0])] ?_;refine Fx.call [5] 26 [(27,au #[Z I x4,Z I y4])] [] (fun W M=>dX (s:=⟨#[49]⟩) (n:=1000000000000) _ (ht.later M.below) (he.later M.below)) ?_;obtain ⟨⟨x9,y9⟩,_,EX,HN⟩:=ak HR
 refine Fx.aM bR [] 28 [] [] (fun W M=>fH (s:=⟨#[48,46,48,52,53]⟩) (bI.of EX) _ (ht.later M.below) (he.later M.below)) HN fun _ HR=>?_;obtain ⟨⟨x10,Jh⟩,_,EX,HN⟩:=ak HR;refine Fx.aM bR [] 29 [] [] (fun W M=>iO (bI.of EX) _) HN fun _ HR=>?_;obtain ⟨⟨⟨Xu,Xt⟩,⟨Tc,Ta⟩⟩,_,EX,HN⟩:=ak HR;refine Fx.aM bR [6,3] 34 [] [(3,#[Z I f1,Z I f2,Z I g1,Z I g2,Z I 1000000000000,Z I 1000000000000,Z I x10,Z I Jh,Z I 0,Z I 0])] (fun W M=>IW (bI.of EX) _ (ht.later M.below) (he.later M.below)) HN fun _ HR=>?_;refine Fx.bq [] 5 35 [(35,au #[Z I Xu,Z I Xt]),(36,au #[Z I Tc,Z I Ta])] [] fun Kj=>?_;refine Fx.bq [] 6 35 [] [] fun Gy=>?_;obtain ⟨⟨⟨Xr,Xq⟩,⟨S9,SY⟩⟩,_,EX,HN⟩:=ak HR
 refine Fx.aM bR [7,8,3] 40 [] [(4,#[Z I Xu,Z I Xt]),(5,#[Z I Tc,Z I Ta])] (fun W M=>IW (bI.of EX) _ (ht.later M.below) (he.later M.below)) HN fun _ HR=>?_;refine Fx.bq [] 7 35 [(41,au #[Z I Xr,Z I Xq]),(42,au #[Z I S9,Z I SY])] [] fun EF=>?_;refine Fx.bq [] 8 35 [] [] fun UL=>?_;refine Fx.draw [9,10] [0,1,3,4,2,5,6,7,8,9] [] [] [(6,#[Z I Xr,Z I Xq]),(7,#[Z I S9,Z I SY])] ?_;obtain ⟨⟨Ch,Ce⟩,_,EX,HN⟩:=ak HR;refine Fx.aM bR [7,9,8,10] 45 [(46,au #[Z I Tc,Z I Ta]),(47,au #[Z I S9,Z I SY])] [] (fun W M=>iO (bI.of EX) _) HN fun _ HR=>?_;obtain ⟨⟨x18,He⟩,_,EX,HN⟩:=ak HR;refine Fx.aM bR [] 48 [] [] (fun W M=>iO (bI.of EX) _) HN fun _ HR=>?_;refine Fx.cK [] 9 35 [] [] fun Ou=>?_
 refine Fx.cK [] 10 35 [] [] fun YM=>?_;refine Fx.newS [11,12,11,12] 51 2 2 #[Z I Ch,Z I Ce,Z I x18,Z I He] 35 [] [(8,#[Z I Ch,Z I Ce]),(9,#[Z I x18,Z I He])] fun Q7=>?_;obtain ⟨⟨Zq,y22⟩,k22,EX,HN⟩:=ak HR;refine Fx.call [] 52 [] [] (fun W M=>Bv EX _ (M.box (b:=Q7) (cs:=#[Z I Ch,Z I Ce,Z I x18,Z I He]) 10) (ht.later M.below) (he.later M.below)) ?_;refine Fx.aM bR [] 55 [] [] (fun W M=>fM (x:=Zq) (y:=y22) _) HN fun _ HR=>?_;refine Fx.bq [] 11 35 [] [] fun YL=>?_;refine Fx.bq [14] 12 35 [(56,au #[Z I (-1000000000000),Z I 1000000000000])] [(11,#[Z I Zq,Z I y22])] fun Q6=>?_;refine Fx.bq [15,15] 13 35 [(57,au #[Z I (-1000000000000),Z I 1000000000000])] [(12,#[Z I (-1000000000000),Z I 1000000000000])] fun YK=>?_
 refine Fx.part 9 [16,14] [(60,ay (!(Zq == 0)))] [(13,#[Z I (-1000000000000),Z I 1000000000000])] ?_;refine Fx.splitB (fun hf1=>?_) (fun hf1=>?_)
 ·skip
  replace HR:=bI.neg HR (by have h:=hf1;simpa using h);obtain ⟨⟨x27,y27⟩,_,EX,HN⟩:=ak HR;refine Fx.aM bR [1,11,14] 63 [] [] (fun W M=>ni (bI.of EX) _) HN fun _ HR=>?_;obtain ⟨⟨x28,y28⟩,_,EX,HN⟩:=ak HR;refine Fx.aM bR [] 64 [] [] (fun W M=>uo (bI.of EX) _) HN fun _ HR=>?_;obtain ⟨⟨x29,y29⟩,_,EX,HN⟩:=ak HR;refine Fx.aM bR [15,12,14] 67 [] [(12,#[Z I x28,Z I y28])] (fun W M=>ni (bI.of EX) _) HN fun _ HR=>?_;obtain ⟨⟨x30,K9⟩,_,EX,HN⟩:=ak HR;refine Fx.aM bR [] 68 [] [] (fun W M=>uo (bI.of EX) _) HN fun _ HR=>?_;refine Fx.draw [16] [1,3,4,0,2,5,6,7,8,9] [] [] [(13,#[Z I x30,Z I K9])] ?_
  refine Fx.call [5,15,16] 69 [(70,au #[Z I x4,Z I y4]),(72,au #[Z I x28,Z I y28]),(73,au #[Z I x30,Z I K9])] [] (fun W M=>dX (s:=⟨#[49]⟩) (n:=1000000000000) _ (ht.later M.below) (he.later M.below)) ?_;obtain ⟨⟨x32,y32⟩,_,EX,HN⟩:=ak HR;refine Fx.aM bR [] 71 [] [] (fun W M=>fH (s:=⟨#[48,46,48,49,53]⟩) (bI.of EX) _ (ht.later M.below) (he.later M.below)) HN fun _ HR=>?_;obtain ⟨⟨VO,VI⟩,_,EX,HN⟩:=ak HR;refine Fx.aM bR [] 74 [] [] (fun W M=>LC (bI.of EX) _ (ht.later M.below) (he.later M.below)) HN fun _ HR=>?_;obtain ⟨⟨x34,y34⟩,_,EX,HN⟩:=ak HR;refine Fx.aM bR [] 75 [] [] (fun W M=>kJ (bI.of EX) _) HN fun _ HR=>?_;obtain ⟨⟨SX,SV⟩,_,EX,HN⟩:=ak HR;refine Fx.aM bR [] 76 [] [] (fun W M=>iO (bI.of EX) _) HN fun _ HR=>?_;obtain ⟨hk,hv⟩:=HR;cases hk
  exact Fx.iC (cs:=#[Z I f1,Z I f2,Z I g1,Z I g2,Z I 1000000000000,Z I 1000000000000,Z I x10,Z I Jh,Z I SX,Z I SV]) 1 iD [6,6,4] [(1,#[Z I f1,Z I f2,Z I g1,Z I g2,Z I 1000000000000,Z I 1000000000000,Z I x10,Z I Jh,Z I SX,Z I SV]),(3,#[Z I f1,Z I f2,Z I g1,Z I g2,Z I 1000000000000,Z I 1000000000000,Z I x10,Z I Jh,Z I SX,Z I SV])] (fun W M=>⟨M.below,.inl ⟨rfl,by cases hv rfl;rfl⟩⟩)
 ·skip
  replace HR:=bI.pos HR (by have h:=hf1;simpa using h);refine Fx.draw [2] [1,3,4,0,2,5,6,7,8,9] [] [] [] ?_;refine Fx.call [5,15,16] 69 [(70,au #[Z I x4,Z I y4]),(72,au #[Z I (-1000000000000),Z I 1000000000000]),(73,au #[Z I (-1000000000000),Z I 1000000000000])] [] (fun W M=>dX (s:=⟨#[49]⟩) (n:=1000000000000) _ (ht.later M.below) (he.later M.below)) ?_;obtain ⟨⟨VN,VH⟩,_,EX,HN⟩:=ak HR;refine Fx.aM bR [] 71 [] [] (fun W M=>fH (s:=⟨#[48,46,48,49,53]⟩) (bI.of EX) _ (ht.later M.below) (he.later M.below)) HN fun _ HR=>?_;obtain ⟨⟨x38,y38⟩,_,EX,HN⟩:=ak HR;refine Fx.aM bR [] 74 [] [] (fun W M=>LC (bI.of EX) _ (ht.later M.below) (he.later M.below)) HN fun _ HR=>?_;obtain ⟨⟨x39,y39⟩,_,EX,HN⟩:=ak HR;refine Fx.aM bR [] 75 [] [] (fun W M=>kJ (bI.of EX) _) HN fun _ HR=>?_
  obtain ⟨⟨x40,Zn⟩,_,EX,HN⟩:=ak HR;refine Fx.aM bR [] 76 [] [] (fun W M=>iO (bI.of EX) _) HN fun _ HR=>?_;obtain ⟨hk,hv⟩:=HR;cases hk
  exact Fx.iC (cs:=#[Z I f1,Z I f2,Z I g1,Z I g2,Z I 1000000000000,Z I 1000000000000,Z I x10,Z I Jh,Z I x40,Z I Zn]) 1 iD [6,6,4] [(1,#[Z I f1,Z I f2,Z I g1,Z I g2,Z I 1000000000000,Z I 1000000000000,Z I x10,Z I Jh,Z I x40,Z I Zn]),(3,#[Z I f1,Z I f2,Z I g1,Z I g2,Z I 1000000000000,Z I 1000000000000,Z I x10,Z I Jh,Z I x40,Z I Zn])] (fun W M=>⟨M.below,.inl ⟨rfl,by cases hv rfl;rfl⟩⟩)
end Go.Proofs.differ
