/- Lemmas for the proof. No condition. -/
import Derived.Test.YtlpjmogillpnbaaGreatDoorTB40
import Derived.ChangeVars
set_option linter.unusedVariables false
set_option linter.unusedSimpArgs false
set_option maxRecDepth 100000
set_option maxHeartbeats 16000000
open Go.Ending renaming returned → ah
open Go.IntKind renaming i64 → I
open Go.Value renaming agg → au, bool → ay, int → Z, string → O, tuple → aD
open Nat renaming le_trans → aB, mod_eq_of_lt → eZ
namespace Go.Mem
open Go Go.RowKit Go.SW Go.Num Go.Dec
structure Hd (p:Prop):Type where
 out:p
def hd {p:Prop} (h:p):Hd p:=⟨h⟩
def Hd.bl {w w':World} {b:Nat} {cs:Array Value} {T:TypeId} (h:Hd (aC w b cs T)) (hb:Below w.heap.size w w'):Hd (aC w' b cs T):=hd (h.out.later hb)
end Go.Mem
namespace Go.Proofs.dQ
open Go Go.RowKit Go.SW Go.Num Go.Mem Go.Proofs Go.Dec Go.Proofs.aV Go.gW
theorem qI (n d:Int) (h1: -9223372036854775808≤n) (h2:n≤9223372036854775807) (h3: -9223372036854775808≤d) (h4:d≤9223372036854775807) (w:World) :
  Calls Tryz.prog 63 #[Z I n,Z I d] w (OY w (tH n d)):=by
 unfold tH
 by_cases hd:d=0
 ·subst hd;rw [if_pos rfl];clear h1 h2 h3 h4;go_enter Tryz.func63,Tryz.ntmps63
  go_wp2_with fail
  refine aY rfl rfl bf Tryz.underlying29 rfl zk ?_;exact ⟨rfl,aN⟩
 ·rw [if_neg hd];have H1:=zh (fun W=>OE n d h1 h2 h3 h4 hd W);obtain ⟨l1,l2⟩:=M0 (n:=n) hd;have H2:=zh (fun x W hx=>BQ x ((n:Rat) / (d:Rat)) W hx (aB (gZ zo l1) (aB (AU h1 h2) zo)) (aB (gZ zo l2) (aB (AU h3 h4) zo)));clear l1 l2;generalize (n:Rat) / (d:Rat)=q at *;obtain ⟨⟨⟨s1,s2⟩,k⟩,E⟩:∃ y,wr q=y:=⟨_,rfl⟩;rw [E] at H2 ⊢;replace H2:Hid (∀ x W,Ra W x q→Calls Tryz.prog 100 #[x] W (fun e w'=>e= ah (aD #[au #[O s1,O s2],Z I k])∧Below W.heap.size W w')):=H2;clear E h1 h2 h3 h4;go_enter Tryz.func63,Tryz.ntmps63
  go_wp2_with fail
  obtain ⟨Te,EW,hz,X1⟩:=EP w #[O ⟨#[]⟩,O ⟨#[]⟩] 29;rw [EW];have hk2:=Bt (Below.refl _ _) hz;clear EW hz;refine (H1.out _).mono ?_;rintro e Co ⟨vq,rfl,hb3,hq⟩;replace X1:=X1.bl hb3;have hk5:=Bt hk2 hb3;clear hk2;have NQ:=zh hq;clear hb3 hq;go_wp2_with fail
  refine (H2.out _ _ NQ.out).mono ?_;rintro e Xw ⟨rfl,hb6⟩;replace X1:=X1.bl hb6;replace NQ:=zh (NQ.out.later hb6);have TU:=Bt hk5 hb6;clear hk5;clear hb6;obtain ⟨zq,zm,Fg⟩:=X1.clf;have hres:=X1.out;have Oe:=hres.cell;have NI:=hres.free;go_wp2_with fail
  refine aY rfl rfl bf Tryz.underlying29 rfl zk ?_;exact ⟨rfl,aN⟩
end Go.Proofs.dQ
namespace Go.Proofs.pY
open Go Go.RowKit Go.SW Go.Num Go.Mem Go.Proofs Go.Dec Go.gW
theorem qI (n d:Int) (h1: -9223372036854775808≤n) (h2:n≤9223372036854775807) (h3: -9223372036854775808≤d) (h4:d≤9223372036854775807) (w:World) :
  Calls Tryz.prog 27 #[Z I n,Z I d] w (fun e w'=>e= ah (tH n d).1.v∧Below w.heap.size w w'):=by
 have H1:=fun W=>dQ.qI n d h1 h2 h3 h4 W;obtain ⟨⟨⟨s1,s2⟩,k⟩,E⟩:∃ y,tH n d=y:=⟨_,rfl⟩;rw [E] at H1 ⊢;refine Fx.door Tryz.func27 rfl (.nil w []) ?_;refine Fx.bq [] 4 29 [] [] fun gV=>?_;refine Fx.fC [] 10 [] [] H1 ?_;refine Fx.bq [] 5 29 [(11,au #[O s1,O s2]),(12,Z I k)] [] fun iD=>?_;exact Fx.iC 0 gV [4,4,3] [(0,#[O s1,O s2]),(1,#[O s1,O s2])] (fun W M=>⟨rfl,M.below⟩)
end Go.Proofs.pY
namespace Go.Proofs.mO
open Go Go.RowKit Go.SW Go.Num Go.Mem Go.Proofs Go.gW Go.Fx
def qy (n:Int):Rat:=(n:Rat) / ((100:Int):Rat)
theorem Bl {n:Int} (h:n.natAbs≤12800):Hq 5 (qy n):=⟨n,100,by omega,by decide,aB h zd,rfl⟩
theorem Gm {m n:Int} (h:m≤n*100):qy m≤(n:Rat):=by
 have h1:(m:Rat)≤((n*100:Int):Rat):=Rat.intCast_le_intCast.2 h;rw [Rat.intCast_mul] at h1;have i:(0:Rat)<(((100:Int):Rat))⁻¹:=by decide+kernel
 have o:((100:Int):Rat)*(((100:Int):Rat))⁻¹=1:=by decide+kernel
 have h2:=Rat.mul_le_mul_of_nonneg_right h1 (Rat.le_of_lt i);rw [Rat.mul_assoc,o,Rat.mul_one] at h2;unfold qy;rw [Rat.div_def];exact h2
theorem Gh {m n:Int} (h:n*100≤m):(n:Rat)≤qy m:=by
 have h1:((n*100:Int):Rat)≤(m:Rat):=Rat.intCast_le_intCast.2 h;rw [Rat.intCast_mul] at h1;have i:(0:Rat)<(((100:Int):Rat))⁻¹:=by decide+kernel
 have o:((100:Int):Rat)*(((100:Int):Rat))⁻¹=1:=by decide+kernel
 have h2:=Rat.mul_le_mul_of_nonneg_right h1 (Rat.le_of_lt i);rw [Rat.mul_assoc,o,Rat.mul_one] at h2;unfold qy;rw [Rat.div_def];exact h2
theorem F4 {n:Int} (h:n.natAbs≤12800) (w:World):Calls Tryz.prog 27 #[Z I n,Z I 100] w (fun e w'=>e= ah (au #[O (Fr.of (qy n)).n,O (Fr.of (qy n)).d])∧Below w.heap.size w w'):=by
 have h1:=pY.qI n 100 zo zo zo zo w
 have e:(tH n 100).1=Fr.of (qy n):=by
  unfold tH wr;rw [if_neg zo];have hk:zF ((n:Rat) / ((100:Int):Rat))=true:=(Bl h).ok zo;rw [if_pos hk];rfl
 rw [e] at h1;exact h1
structure Vm (p a b:Rat):Prop where
 hp:Hq 5 p
 ha:Hq 5 a
 hb:Hq 5 b
 p0:0≤p
 p1:p≤100
 a0: -128≤a
 a1:a≤128
 b0: -128≤b
 b1:b≤128
theorem KF (L A B:Int) (hL:0≤L∧L≤65535) (hA: -32768≤A∧A≤32767) (hB: -32768≤B∧B≤32767) (w:World) :
  Calls Tryz.prog 10 #[au #[Z .u16 L,Z .i16 A,Z .i16 B]] w (fun e w'=>e= ah (au #[O (Fr.of (qy (Int.tmod L 10001))).n,O (Fr.of (qy (Int.tmod L 10001))).d,O (Fr.of (qy (Int.tmod A 12801))).n,O (Fr.of (qy (Int.tmod A 12801))).d,O (Fr.of (qy (Int.tmod B 12801))).n,O (Fr.of (qy (Int.tmod B 12801))).d])∧Below w.heap.size w w'):=by
 have l1:=Int.tmod_lt_of_pos L (show 0<10001 by omega);have l2:=Int.tmod_nonneg (10001:Int) hL.1;have m1:=Int.tmod_lt_of_pos A (show 0<12801 by omega);have m2:=Int.lt_tmod_of_pos A (show 0<12801 by omega);have n1:=Int.tmod_lt_of_pos B (show 0<12801 by omega);have n2:=Int.lt_tmod_of_pos B (show 0<12801 by omega);have C1:=fun W=>F4 (n:=Int.tmod L 10001) zo W;have C2:=fun W=>F4 (n:=Int.tmod A 12801) zo W;have C3:=fun W=>F4 (n:=Int.tmod B 12801) zo W;generalize Fr.of (qy (Int.tmod L 10001))=x at *;generalize Fr.of (qy (Int.tmod A 12801))=y at *;generalize Fr.of (qy (Int.tmod B 12801))=z at *;obtain ⟨x1,x2⟩:=x;obtain ⟨y1,y2⟩:=y;obtain ⟨z1,z2⟩:=z;obtain ⟨L1,L2⟩:=hL;obtain ⟨A1,A2⟩:=hA;obtain ⟨B1,B2⟩:=hB;simp only at *;refine Fx.door Tryz.func10 rfl (.nil w []) ?_;refine Fx.new [] 1 #[Z .u16 L,Z .i16 A,Z .i16 B] 25 [] [] fun gV=>?_
 refine Fx.bq [] 2 32 [] [] fun iD=>?_;refine Fx.draw [] [0,1,2,3,5,6,7,8,10,11,12,13,4,9,14,15,16] [] [] [] ?_;refine Fx.part 3 [3] [(5,Z I (I.wrap L))] [] ?_;refine Fx.uO (Z I (L)) (Fx.wrap_i64 zo zo) ?_;refine Fx.part 4 [3] [(10,Z I (I.wrap A)),(6,Z I (Int.tmod (L) 10001))] [] ?_;refine Fx.uO (Z I (A)) (Fx.wrap_i64 zo zo) ?_;refine Fx.part 4 [3] [(15,Z I (I.wrap B)),(11,Z I (Int.tmod (A) 12801))] [] ?_;refine Fx.uO (Z I (B)) (Fx.wrap_i64 zo zo) ?_;refine Fx.fC [] 7 [(16,Z I (Int.tmod (B) 12801))] [] C1 ?_;refine Fx.fC [] 12 [] [] C2 ?_;refine Fx.fC [] 17 [] [] C3 ?_;exact Fx.iC 1 iD [4] [(1,#[O x1,O x2,O y1,O y2,O z1,O z2])] (fun W M=>⟨rfl,M.below⟩)
theorem Ay (L A B:Int) (hL:0≤L∧L≤65535) (hA: -32768≤A∧A≤32767) (hB: -32768≤B∧B≤32767):∃ p a b:Rat,Vm p a b∧∀ w:World,
  Calls Tryz.prog 10 #[au #[Z .u16 L,Z .i16 A,Z .i16 B]] w (fun e w'=>e= ah (au #[O (Fr.of p).n,O (Fr.of p).d,O (Fr.of a).n,O (Fr.of a).d,O (Fr.of b).n,O (Fr.of b).d])∧Below w.heap.size w w'):=by
 have l1:=Int.tmod_lt_of_pos L (show 0<10001 by omega);have l2:=Int.tmod_nonneg (10001:Int) hL.1;have m1:=Int.tmod_lt_of_pos A (show 0<12801 by omega);have m2:=Int.lt_tmod_of_pos A (show 0<12801 by omega);have n1:=Int.tmod_lt_of_pos B (show 0<12801 by omega);have n2:=Int.lt_tmod_of_pos B (show 0<12801 by omega);exact ⟨_,_,_,⟨Bl zo,Bl zo,Bl zo,Gh (n:=0) zo,Gm (n:=100) zo,Gh (n:= -128) zo,Gm (n:=128) zo,Gh (n:= -128) zo,Gm (n:=128) zo⟩,KF L A B hL hA hB⟩
end Go.Proofs.mO
namespace Go.Proofs.verdigrislaw27
open Go Go.RowKit Go.SW Go.Num Go.Mem Go.Proofs Go.Dec Go.gW Go.Fx Go.Proofs.iR
theorem Js {la aa ba lb ab bb s kd ee:Int} {x1 x2 x3 x4 x5 x6 y1 y2 y3 y4 y5 y6 w1 w2:ByteArray} (hk:1+Int.tmod s 4=kd) (hs:0≤Int.tmod s 4∧Int.tmod s 4≤3) (h0:ee≠0)
  (Lg:Hd (∀ W,gJ.Pow W→whole.Er W→Calls Tryz.prog 9 #[Z I 1,Z I 1] W (fun e w'=>e= ah (au #[O w1,O w2])∧Below W.heap.size W w')))
  (R:Hd (∀ W,gJ.Pow W→whole.Er W→Calls Tryz.prog 10 #[au #[Z .u16 la,Z .i16 aa,Z .i16 ba]] W (fun e w'=>e= ah (au #[O x1,O x2,O x3,O x4,O x5,O x6])∧Below W.heap.size W w')))
  (V:Hd (∀ W,gJ.Pow W→whole.Er W→Calls Tryz.prog 10 #[au #[Z .u16 lb,Z .i16 ab,Z .i16 bb]] W (fun e w'=>e= ah (au #[O y1,O y2,O y3,O y4,O y5,O y6])∧Below W.heap.size W w')))
  (D:Hd (∀ W,gJ.Pow W→whole.Er W→Calls Tryz.prog 11 #[Z I kd,au #[O x1,O x2,O x3,O x4,O x5,O x6],au #[O y1,O y2,O y3,O y4,O y5,O y6],au #[O w1,O w2],au #[O w1,O w2]] W (fun e w'=>e= ah (aD #[au #[Z I 0,Z I 0],Z I ee])∧Below W.heap.size W w')))
  (F1:Hd (∀ W,gJ.Pow W→whole.Er W→Calls Tryz.prog 14 #[Z I kd,au #[O x1,O x2,O x3,O x4,O x5,O x6],au #[O y1,O y2,O y3,O y4,O y5,O y6],au #[O w1,O w2],au #[O w1,O w2],au #[O w1,O w2]] W (fun e w'=>e= ah (aD #[Z I 0,Z I ee])∧Below W.heap.size W w')))
  (w:World) (ht:gJ.Pow w) (he:whole.Er w) :
  Calls Tryz.prog 5 #[au #[Z .u16 la,Z .i16 aa,Z .i16 ba],au #[Z .u16 lb,Z .i16 ab,Z .i16 bb],Z .u8 s] w (fun e w'=>e= ah (ay true)∧Below w.heap.size w w'):=by
 have hs1:=hs.1;have hs2:=hs.2
 have hk1:Value.int .i64 (I.wrap (1+I.wrap (Int.tmod s 4)))= Z I kd:=by
  rw [show I.wrap (Int.tmod s 4)=Int.tmod s 4 by rw [IntKind.wrap_i64];omega,hk,show I.wrap kd=kd by rw [IntKind.wrap_i64];omega]
 refine Fx.door Tryz.func5 rfl (.nil w []) ?_;refine Fx.new [] 3 #[Z .u16 la,Z .i16 aa,Z .i16 ba] 25 [] [] fun gV=>?_;refine Fx.new [] 4 #[Z .u16 lb,Z .i16 ab,Z .i16 bb] 25 [] [] fun iD=>?_;refine Fx.call [] 27 [] [] (fun W M=>wV _ (ht.later M.below) (he.later M.below)) ?_;refine Fx.draw [2] [1,3,5,6,7,8,0,2,4,9,10,11,12,13,14,5015] [] [] [] ?_;refine Fx.part 6 [3,4] [(37,Z I (I.wrap (1+(I.wrap (Int.tmod s 4))))),(30,au #[Z .u16 la,Z .i16 aa,Z .i16 ba]),(32,au #[Z .u16 lb,Z .i16 ab,Z .i16 bb])] [] ?_;refine Fx.uO (Z I kd) (hk1) ?_;refine Fx.call [] 29 [] [] (fun W M=>Lg.out _ (ht.later M.below) (he.later M.below)) ?_;refine Fx.call [] 31 [] [] (fun W M=>R.out _ (ht.later M.below) (he.later M.below)) ?_;refine Fx.call [] 33 [] [] (fun W M=>V.out _ (ht.later M.below) (he.later M.below)) ?_
 refine Fx.cK [] 7 29 [] [] fun iL=>?_;refine Fx.cK [] 8 32 [] [] fun vo=>?_;refine Fx.cK [] 9 32 [] [] fun rz=>?_;refine Fx.call [5,6,7,6,7,5,5] 44 [(10,Z I kd)] [(2,#[O w1,O w2]),(3,#[O x1,O x2,O x3,O x4,O x5,O x6]),(4,#[O y1,O y2,O y3,O y4,O y5,O y6])] (fun W M=>D.out _ (ht.later M.below) (he.later M.below)) ?_;refine Fx.bq [] 11 35 [(45,au #[Z I 0,Z I 0]),(46,Z I ee)] [] fun Ja=>?_;refine Fx.part 9 [8] [(48,ay (!(ee == 0))),(12,Z I ee)] [(5,#[Z I 0,Z I 0])] ?_;refine Fx.PO true (by simp [h0]) ?_;refine Fx.call [1,6,7,5,5,5] 56 [] [] (fun W M=>F1.out _ (ht.later M.below) (he.later M.below)) ?_;refine Fx.part 12 [] [(61,ay (ee == ee))] [] ?_;refine Fx.uO (ay true) zi ?_;exact Fx.jU [] [] (fun W M=>⟨rfl,M.below⟩)
theorem Fv {la aa ba lb ab bb s kd d1 d2 qv c:Int} {x1 x2 x3 x4 x5 x6 y1 y2 y3 y4 y5 y6 w1 w2 g1 g2 h1 h2 m1 m2 n1 n2:ByteArray} (hk:1+Int.tmod s 4=kd) (hs:0≤Int.tmod s 4∧Int.tmod s 4≤3) (hq:qv=1↔d1=d2) (hq0:qv≠0)
  (Lg:Hd (∀ W,gJ.Pow W→whole.Er W→Calls Tryz.prog 9 #[Z I 1,Z I 1] W (fun e w'=>e= ah (au #[O w1,O w2])∧Below W.heap.size W w')))
  (R:Hd (∀ W,gJ.Pow W→whole.Er W→Calls Tryz.prog 10 #[au #[Z .u16 la,Z .i16 aa,Z .i16 ba]] W (fun e w'=>e= ah (au #[O x1,O x2,O x3,O x4,O x5,O x6])∧Below W.heap.size W w')))
  (V:Hd (∀ W,gJ.Pow W→whole.Er W→Calls Tryz.prog 10 #[au #[Z .u16 lb,Z .i16 ab,Z .i16 bb]] W (fun e w'=>e= ah (au #[O y1,O y2,O y3,O y4,O y5,O y6])∧Below W.heap.size W w')))
  (D:Hd (∀ W,gJ.Pow W→whole.Er W→Calls Tryz.prog 11 #[Z I kd,au #[O x1,O x2,O x3,O x4,O x5,O x6],au #[O y1,O y2,O y3,O y4,O y5,O y6],au #[O w1,O w2],au #[O w1,O w2]] W (fun e w'=>e= ah (aD #[au #[Z I d1,Z I d2],Z I 0])∧Below W.heap.size W w')))
  (LO:Hd (∀ W,gJ.Pow W→whole.Er W→Calls Tryz.prog 15 #[au #[Z I d1,Z I d2]] W (fun e w'=>e= ah (aD #[au #[O g1,O g2],Z I 0])∧Below W.heap.size W w')))
  (HI:Hd (∀ W,gJ.Pow W→whole.Er W→Calls Tryz.prog 16 #[au #[Z I d1,Z I d2]] W (fun e w'=>e= ah (aD #[au #[O h1,O h2],Z I 0])∧Below W.heap.size W w')))
  (F1:Hd (∀ W,gJ.Pow W→whole.Er W→Calls Tryz.prog 14 #[Z I kd,au #[O x1,O x2,O x3,O x4,O x5,O x6],au #[O y1,O y2,O y3,O y4,O y5,O y6],au #[O w1,O w2],au #[O w1,O w2],au #[O h1,O h2]] W (fun e w'=>e= ah (aD #[Z I 1,Z I 0])∧Below W.heap.size W w')))
  (F2:Hd (∀ W,gJ.Pow W→whole.Er W→Calls Tryz.prog 14 #[Z I kd,au #[O x1,O x2,O x3,O x4,O x5,O x6],au #[O y1,O y2,O y3,O y4,O y5,O y6],au #[O w1,O w2],au #[O w1,O w2],au #[O g1,O g2]] W (fun e w'=>e= ah (aD #[Z I qv,Z I 0])∧Below W.heap.size W w')))
  (O2:Hd (∀ W,gJ.Pow W→whole.Er W→Calls Tryz.prog 9 #[Z I 1,Z I 1000] W (fun e w'=>e= ah (au #[O m1,O m2])∧Below W.heap.size W w')))
  (SU:Hd (∀ W,gJ.Pow W→whole.Er W→Calls Tryz.prog 17 #[au #[O g1,O g2],au #[O m1,O m2]] W (fun e w'=>e= ah (aD #[au #[O n1,O n2],Z I 0])∧Below W.heap.size W w')))
  (SG:Hd (∀ W,gJ.Pow W→whole.Er W→Calls Tryz.prog 18 #[au #[O n1,O n2]] W (fun e w'=>e= ah (aD #[Z I c,Z I 0])∧Below W.heap.size W w')))
  (F3:Hd (¬ c<0→∀ W,gJ.Pow W→whole.Er W→Calls Tryz.prog 14 #[Z I kd,au #[O x1,O x2,O x3,O x4,O x5,O x6],au #[O y1,O y2,O y3,O y4,O y5,O y6],au #[O w1,O w2],au #[O w1,O w2],au #[O n1,O n2]] W (fun e w'=>e= ah (aD #[Z I 0,Z I 0])∧Below W.heap.size W w')))
  (w:World) (ht:gJ.Pow w) (he:whole.Er w) :
  Calls Tryz.prog 5 #[au #[Z .u16 la,Z .i16 aa,Z .i16 ba],au #[Z .u16 lb,Z .i16 ab,Z .i16 bb],Z .u8 s] w (fun e w'=>e= ah (ay true)∧Below w.heap.size w w'):=by
 have hs1:=hs.1;have hs2:=hs.2
 have hk1:Value.int .i64 (I.wrap (1+I.wrap (Int.tmod s 4)))= Z I kd:=by
  rw [show I.wrap (Int.tmod s 4)=Int.tmod s 4 by rw [IntKind.wrap_i64];omega,hk,show I.wrap kd=kd by rw [IntKind.wrap_i64];omega]
 refine Fx.door Tryz.func5 rfl (.nil w []) ?_;refine Fx.new [] 3 #[Z .u16 la,Z .i16 aa,Z .i16 ba] 25 [] [] fun gV=>?_;refine Fx.new [] 4 #[Z .u16 lb,Z .i16 ab,Z .i16 bb] 25 [] [] fun iD=>?_;refine Fx.call [] 27 [] [] (fun W M=>wV _ (ht.later M.below) (he.later M.below)) ?_;refine Fx.draw [2] [1,3,5,6,7,8,0,2,4,9,10,11,12,13,14,5015] [] [] [] ?_;refine Fx.part 6 [3,4] [(37,Z I (I.wrap (1+(I.wrap (Int.tmod s 4))))),(30,au #[Z .u16 la,Z .i16 aa,Z .i16 ba]),(32,au #[Z .u16 lb,Z .i16 ab,Z .i16 bb])] [] ?_;refine Fx.uO (Z I kd) (hk1) ?_;refine Fx.call [] 29 [] [] (fun W M=>Lg.out _ (ht.later M.below) (he.later M.below)) ?_;refine Fx.call [] 31 [] [] (fun W M=>R.out _ (ht.later M.below) (he.later M.below)) ?_;refine Fx.call [] 33 [] [] (fun W M=>V.out _ (ht.later M.below) (he.later M.below)) ?_
 refine Fx.cK [] 7 29 [] [] fun iL=>?_;refine Fx.cK [] 8 32 [] [] fun vo=>?_;refine Fx.cK [] 9 32 [] [] fun rz=>?_;refine Fx.call [5,6,7,6,7,5,5] 44 [(10,Z I kd)] [(2,#[O w1,O w2]),(3,#[O x1,O x2,O x3,O x4,O x5,O x6]),(4,#[O y1,O y2,O y3,O y4,O y5,O y6])] (fun W M=>D.out _ (ht.later M.below) (he.later M.below)) ?_;refine Fx.bq [] 11 35 [(45,au #[Z I d1,Z I d2]),(46,Z I 0)] [] fun Ja=>?_;refine Fx.call [8,2,8] 64 [] [(5,#[Z I d1,Z I d2])] (fun W M=>LO.out _ (ht.later M.below) (he.later M.below)) ?_;refine Fx.bq [] 15 29 [(65,au #[O g1,O g2]),(66,Z I 0)] [] fun Aq=>?_;refine Fx.call [9,8] 69 [(16,Z I 0)] [(6,#[O g1,O g2])] (fun W M=>HI.out _ (ht.later M.below) (he.later M.below)) ?_
 refine Fx.bq [] 17 29 [(70,au #[O h1,O h2]),(71,Z I 0)] [] fun Le=>?_;refine Fx.call [10,6,7,5,5,10] 79 [(18,Z I 0)] [(7,#[O h1,O h2])] (fun W M=>F1.out _ (ht.later M.below) (he.later M.below)) ?_;refine Fx.call [6,7,5,5,9] 89 [(19,Z I 1),(20,Z I 0)] [] (fun W M=>F2.out _ (ht.later M.below) (he.later M.below)) ?_;refine Fx.part 31 [] [(112,ay (qv == 1)),(21,Z I qv),(110,ay false)] [] ?_;refine Fx.uO (ay (decide (d1=d2))) (by rw [Bool.eq_iff_iff.2 (show ((qv == 1)=true↔decide (d1=d2)=true) by simpa using hq)]) ?_;refine Fx.part 5 [8,8] [(117,ay (d1 == d2))] [] ?_;refine Fx.uO (ay (decide (d1=d2))) (by rw [Bool.eq_iff_iff.2 (show ((d1 == d2)=true↔decide (d1=d2)=true) by simp)]) ?_;refine Fx.part 1 [] [(118,ay (!(((decide (d1=d2))) == ((decide (d1=d2))))))] [] ?_;refine Fx.uO (ay false) zi ?_
 refine Fx.part 4 [] [(122,ay (qv == 0)),(120,ay false)] [] ?_;refine Fx.uO (ay false) (by simp [hq0]) ?_;refine Fx.draw [2] [0,1,2,3,4,5,6,7,5008] [] [] [] ?_;refine Fx.call [9] 126 [(125,au #[O g1,O g2])] [] (fun W M=>O2.out _ (ht.later M.below) (he.later M.below)) ?_;refine Fx.call [] 127 [] [] (fun W M=>SU.out _ (ht.later M.below) (he.later M.below)) ?_;refine Fx.cK [] 23 29 [(128,au #[O n1,O n2]),(129,Z I 0)] [] fun YI=>?_;refine Fx.call [11,11] 132 [(16,Z I 0)] [(8,#[O n1,O n2])] (fun W M=>SG.out _ (ht.later M.below) (he.later M.below)) ?_;refine Fx.part 14 [] [(139,ay (decide (c<0))),(25,Z I 0),(137,ay false)] [] ?_;refine Fx.splitB (fun H1=>?_) (fun H1=>?_)
 ·skip
  exact Fx.jU [1] [] (fun W M=>⟨rfl,M.below⟩)
 ·skip
  refine Fx.call [2,6,7,5,5,11] 150 [] [] (fun W M=>F3.out (of_decide_eq_false H1) _ (ht.later M.below) (he.later M.below)) ?_;exact Fx.jU [] [] (fun W M=>⟨rfl,M.below⟩)
end Go.Proofs.verdigrislaw27
namespace Go.gW
open Go Go.Num Go.Proofs
section
variable {p q:Rat} {a b:Nat}
theorem XB (hp:Hq a p) (hq:Hq b q) (h:a+b+1<600):Jt (Fr.of p) (Fr.of q)=(Fr.of (p - q),0):=by
 unfold Jt bin wr;rw [xM (hp.ok zo),xM (hq.ok zo)];exact if_pos ((hp.sub hq).ok h)
theorem Sm (hp:Hq a p) (hq:Hq b q) (h:a<600) (h2:b<600):wh (Fr.of p) (Fr.of q)=(oo p q,0):=by
 unfold wh;rw [xM (hp.ok h),xM (hq.ok h2)]
theorem Ie {x:Rat} {k:Nat} (h:Hq k x) (hk:k<600):rT (Fr.of x)=(oo x 0,0):=by
 unfold rT;rw [xM (h.ok hk)]
theorem uq {x:Rat} {k:Nat} (h:Hq k x) (hk:k<600):q9 (Fr.of x)=0:=by
 unfold q9;rw [xM (h.ok hk)];rfl
theorem Qd {n d:Int} (hd:d≠0) (h:Hq a ((n:Rat) / (d:Rat))) (ha:a<600):tH n d=(Fr.of ((n:Rat) / (d:Rat)),0):=by
 unfold tH wr;rw [if_neg hd];exact if_pos (h.ok ha)
theorem Bu:oo p q<0↔p<q:=by
 unfold oo
 by_cases h:p<q
 ·simp [h]
 ·by_cases h2:q<p<;>simp [h,h2]
theorem wN:0<oo p q↔q<p:=by
 unfold oo
 by_cases h:p<q
 ·have:¬ q<p:=fun h2=>by grind
  simp [h,this]
 ·by_cases h2:q<p<;>simp [h,h2]
theorem I5:oo p q≤0↔p≤q:=by
 have:= @wN p q
 constructor
 ·intro h;have h2:¬ q<p:=fun h3=>by have:=this.2 h3;omega
  exact Rat.not_lt.1 h2
 ·intro h;have h2:¬ 0<oo p q:=fun h3=>Rat.not_lt.2 h (this.1 h3);omega
end
end Go.gW
namespace Go.Proofs.dQ
end Go.Proofs.dQ
namespace Go.Proofs.iq
open Go Go.Num Go.gW Go.Proofs.aQ Go.Proofs.dQ
def un (n:Int):Rat:=(n:Rat) / ((1000000000000:Int):Rat)
theorem SI:(0:Rat)<((1000000000000:Int):Rat):=by decide+kernel
theorem ai0:((1000000000000:Int):Rat)≠0:=by decide+kernel
theorem Xy (n:Int):un n*((1000000000000:Int):Rat)=(n:Rat):=by
 have:=ai0;unfold un;generalize ((1000000000000:Int):Rat)=E at *
 grind
end Go.Proofs.iq
namespace Go.Proofs.matrix
open Go Go.Num Go.gW Go.Proofs.aQ Go.Proofs.iq Go.Proofs.dQ
theorem Jo (z:Int) (q:Rat):un z≤q↔(z:Rat)≤q*((1000000000000:Int):Rat):=by
 rw [← Xy z]
 constructor
 ·exact fun h=>Rat.mul_le_mul_of_nonneg_right h (Rat.le_of_lt SI)
 ·exact fun h=>Rat.le_of_mul_le_mul_right h SI
theorem Cq {a b:Int}:un a≤un b↔a≤b:=by rw [Jo,Xy,Rat.intCast_le_intCast]
def In (b:Int × Int) (q:Rat) (M:Int):Prop:=un b.1≤q∧q≤un b.2∧ -M≤b.1∧b.2≤M
theorem In.le {b:Int × Int} {q:Rat} {M:Int} (h:In b q M):b.1≤b.2:=Cq.1 (Rat.le_trans h.1 h.2.1)
end Go.Proofs.matrix
namespace Go.Proofs.aQ
open Go Go.RowKit Go.SW Go.Num Go.Mem Go.Proofs Go.Dec Go.gW Go.Proofs.matrix Go.Proofs.iq
theorem wZ {n:Int} (h:n.natAbs≤1000000000000000000):Hq 18 (un n):=⟨n,1000000000000,by omega,by decide+kernel,aB h (by decide+kernel),rfl⟩
end Go.Proofs.aQ
namespace Go.Proofs.differ
open Go Go.RowKit Go.SW Go.Num Go.Mem Go.Proofs Go.gW Go.Proofs.mO Go.Proofs.iq
def lb (p a b:Rat):light.uF:=⟨Fr.of p,Fr.of a,Fr.of b⟩
structure Wt (q:Rat):Prop where
 h:∃ k,Hq k q∧k<300
 pos:0<q
theorem Ls:Wt 1:=⟨⟨0,Hq.one,by omega⟩,by decide⟩
theorem Wt.q9 {q:Rat} (h:Wt q):gW.q9 (Fr.of q)=0:=by
 obtain ⟨k,h1,h2⟩:=h.h;exact uq h1 zo
theorem Wt.qM {q:Rat} (h:Wt q):∃ c,rT (Fr.of q)=(c,0)∧¬ c≤0:=by
 obtain ⟨k,h1,h2⟩:=h.h;refine ⟨_,Ie h1 zo,?_⟩;have:=wN.2 h.pos;omega
theorem QS {kd:Int} (h1:1≤kd) (h4:kd≤4) {p a b p' a' b' u v:Rat} (h:Vm p a b) (h':Vm p' a' b') (hu:Wt u) (hv:Wt v):vk kd (lb p a b) (lb p' a' b') (Fr.of u) (Fr.of v)=0:=by
 obtain ⟨c,e1,e2⟩:=hu.qM;obtain ⟨d,f1,f2⟩:=hv.qM;unfold vk lb;simp only [uq h.hp zo,uq h.ha zo,uq h.hb zo,uq h'.hp zo,uq h'.ha zo,uq h'.hb zo,hu.q9,hv.q9,e1,f1];rw [if_neg zo,if_neg zo];simp [e2,f2]
theorem N9 {kd:Int} {a b:light.uF} {l c:Fr} (h:vk kd a b l c=0):Ob kd a b l c=aP (0,0) (dstE kd a b l c) lC:=by
 unfold Ob sM;rw [h];rfl
theorem Oa {kd:Int} {a b:light.uF} {l c:Fr} (h:vk kd a b l c=0) {d:Int × Int} {e:Int} (hd:dstE kd a b l c=(d,e)) (h0:e≠0):oh kd a b l c=((0,0),e):=by
 unfold oh cl;rw [N9 h,hd,wO (x:=(d,e)) h0];exact if_neg h0
theorem J6 {kd:Int} {a b:light.uF} {l c:Fr} (h:vk kd a b l c=0) {d:Int × Int} (hd:dstE kd a b l c=(d,0)):oh kd a b l c=(d,0):=by
 unfold oh cl;rw [N9 h,hd];exact if_pos rfl
theorem LA {kd:Int} {a b:light.uF} {l c:Fr} {m:Rat} {k:Nat} (h:vk kd a b l c=0) (hm:Hq k m) (hk:k<600) (m0:0≤m) {d:Int × Int} {e:Int} (hd:dstE kd a b l c=(d,e)) (h0:e≠0):vU kd a b l c (Fr.of m)=(0,e):=by
 unfold vU cl LB sM;have hs:¬ oo m 0<0:=fun h=>Rat.not_lt.2 m0 (Bu.1 h);rw [h,uq hm hk,Ie hm hk,hd];rw [jJ rfl,jJ rfl,jJ rfl,if_neg hs,wO (x:=(d,e)) h0];exact if_neg h0
theorem uJ {kd:Int} {a b:light.uF} {l c:Fr} {m:Rat} {k:Nat} (h:vk kd a b l c=0) (hm:Hq k m) (hk:k<600) (m0:0≤m) {x y:Int} (hd:dstE kd a b l c=((x,y),0)) :
  vU kd a b l c (Fr.of m)=(if un y≤m then 1 else if m<un x then 0 else 2,0):=by
 obtain ⟨hb,hx⟩:=Gu hd;obtain ⟨n1,n2, -⟩:=aQ.lK hb;have hs:¬ oo m 0<0:=fun h=>Rat.not_lt.2 m0 (Bu.1 h)
 have hl:aQ.Gb (x,y)=(Fr.of (un x),0):=by
  unfold aQ.Gb;rw [if_pos hb];exact Qd zo (aQ.wZ n1) zo
 have hh:aQ.yu (x,y)=(Fr.of (un y),0):=by
  unfold aQ.yu;rw [if_pos hb];exact Qd zo (aQ.wZ n2) zo
 have c1:=Sm (aQ.wZ n2) hm zo hk;have c2:=Sm (aQ.wZ n1) hm zo hk;unfold vU cl LB sM;rw [h,uq hm hk,Ie hm hk,hd];rw [jJ rfl,jJ rfl,jJ rfl,if_neg hs,jJ rfl,jJ hh,jJ c1]
 by_cases h1:un y≤m
 ·rw [if_pos (I5.2 h1),if_pos h1];rfl
 ·rw [if_neg (fun h=>h1 (I5.1 h)),if_neg h1,jJ hl,jJ c2]
  by_cases h2:m<un x
  ·rw [if_pos (wN.2 h2),if_pos h2];rfl
  ·rw [if_neg (fun h=>h2 (wN.1 h)),if_neg h2];rfl
end Go.Proofs.differ
namespace Go.Proofs.verdigrislaw27
open Go Go.RowKit Go.SW Go.Num Go.Mem Go.Proofs Go.gW Go.Proofs.mO Go.Proofs.iq Go.Proofs.iR Go.Proofs.differ Go.Proofs.matrix
theorem MH (W:World) (ht:gJ.Pow W):Calls Tryz.prog 9 #[Z I 1,Z I 1] W (fun e w'=>e= ah (au #[O (Fr.of 1).n,O (Fr.of 1).d])∧Below W.heap.size W w') :=
 nX (show Fr.of (q2 1 1)=⟨(Fr.of 1).n,(Fr.of 1).d⟩ by rw [show q2 1 1=1 by decide+kernel]) (by decide+kernel) W ht
theorem LM (la aa ba lb' ab bb s:Int) (hla:0≤la∧la≤65535) (haa: -32768≤aa∧aa≤32767) (hba: -32768≤ba∧ba≤32767) (hlb:0≤lb'∧lb'≤65535) (hab: -32768≤ab∧ab≤32767) (hbb: -32768≤bb∧bb≤32767) (hs:0≤s∧s≤255) (w:World) (ht:gJ.Pow w) (he:whole.Er w) :
  Calls Tryz.prog 5 #[au #[Z .u16 la,Z .i16 aa,Z .i16 ba],au #[Z .u16 lb',Z .i16 ab,Z .i16 bb],Z .u8 s] w (fun e w'=>e= ah (ay true)∧Below w.heap.size w w'):=by
 obtain ⟨p,a,b,Q,R⟩:=Ay la aa ba hla haa hba;obtain ⟨p',a',b',Q',R'⟩:=Ay lb' ab bb hlb hab hbb;have t1:=Int.tmod_nonneg (4:Int) hs.1;have t2:=Int.tmod_lt_of_pos s (show (0:Int)<4 by omega);have hc:=QS (kd:=1+Int.tmod s 4) zo zo Q Q' Ls Ls;generalize hk0:1+Int.tmod s 4=kd at *;obtain ⟨⟨⟨d1,d2⟩,k⟩,e⟩:∃ r,dstE kd (lb p a b) (lb p' a' b') (Fr.of 1) (Fr.of 1)=r:=⟨_,rfl⟩
 by_cases hk:k=0
 ·subst hk;obtain ⟨hb,hx⟩:=Gu e;obtain ⟨n1,n2,n3⟩:=aQ.lK hb
  have u1:0≤un d1:=by
   have:=(Cq (a:=0) (b:=d1)).2 hx
   rwa [show un 0=0 by decide+kernel] at this
  have u2:un d1≤un d2:=Cq.2 n3;have hq:=aQ.wZ n1;have hm:Hq 4 (q2 1 1000):=⟨1,1000,by omega,by decide+kernel,by decide+kernel,rfl⟩;have hn:=hq.sub hm;have hm0:(0:Rat)<q2 1 1000:=by decide+kernel
  have g1:=uJ hc (aQ.wZ n2) zo (Rat.le_trans u1 u2) e;rw [if_pos (Rat.le_refl)] at g1;have g2:=uJ hc hq zo u1 e;have g3:=fun h0=>uJ hc hn zo h0 e
  have hlow:aQ.Gb (d1,d2)=(Fr.of (un d1),0):=by
   unfold aQ.Gb;rw [if_pos hb];exact Qd zo hq zo
  have hhigh:aQ.yu (d1,d2)=(Fr.of (un d2),0):=by
   unfold aQ.yu;rw [if_pos hb];exact Qd zo (aQ.wZ n2) zo
  refine Fv hk0 ⟨t1,by omega⟩ (d1:=d1) (d2:=d2) (c:=oo (un d1 - q2 1 1000) 0) ?_ ?_ (hd fun W ht _=>MH W ht) (hd fun W _ _=>R W) (hd fun W _ _=>R' W) (hd fun W ht he=>dO (J6 hc e) W ht he)
   (hd fun W ht _=>YE hlow W ht hb) (hd fun W ht _=>Sv hhigh W ht hb) (hd fun W ht he=>iZ g1 W ht he) (hd fun W ht he=>iZ g2 W ht he)
   (hd fun W ht _=>nX (show Fr.of (q2 1 1000)=⟨(Fr.of (q2 1 1000)).n,(Fr.of (q2 1 1000)).d⟩ from rfl) (by decide+kernel) W ht) (hd fun W ht _=>QW (XB hq hm zo) W ht) (hd fun W _ _=>Sr (Ie hn zo) W)
   (hd fun h0 W ht he=>iZ ((g3 (Rat.not_lt.1 fun h=>h0 (Bu.2 h))).trans ?_) W ht he) w ht he
  ·by_cases h:un d2≤un d1
   ·rw [if_pos h];have:=Cq.1 h;exact ⟨fun _=>by omega,fun _=>rfl⟩
   ·rw [if_neg h,if_neg (Rat.not_lt.2 Rat.le_refl)];exact ⟨fun h=>absurd h zd,fun h2=>absurd (Cq.2 zo) h⟩
  ·by_cases h:un d2≤un d1
   ·rw [if_pos h];decide
   ·rw [if_neg h,if_neg (Rat.not_lt.2 Rat.le_refl)];decide
  ·have h1:un d1 - q2 1 1000<un d1:=by grind
   rw [if_neg (Rat.not_le.2 (Std.lt_of_lt_of_le h1 u2)),if_pos h1]
 ·exact Js hk0 ⟨t1,by omega⟩ hk (hd fun W ht _=>MH W ht) (hd fun W _ _=>R W) (hd fun W _ _=>R' W) (hd fun W ht he=>dO (Oa hc e hk) W ht he)
   (hd fun W ht he=>iZ (LA hc Hq.one zo zd e hk) W ht he) w ht he
end Go.Proofs.verdigrislaw27
namespace Go.Proofs.YtlpjmogillpnbaaGreatDoor
open Go Go.ChangeShapes Go.WideShapes Go.RowKit Go.Proofs
theorem oq {P:Program} {w:World} {r:Reach} {b:Nat} {u:TypeId} {k:IntKind} {v:Value} (hu:P.underlying u=some (.int k)) (h:Cell.okWide P w r b u v):∃ n,v= .int k n∧k.has n:=by
 unfold Cell.okWide at h;simp only [hu] at h;unfold Cell.ok at h;simp only [hu] at h;cases v<;>simp at h
 obtain ⟨rfl,h⟩:=h;exact ⟨_,rfl,h⟩
theorem RZ {α:Type} {l:List α} (h:l.length=3):∃ x0 x1 x2,l=[x0,x1,x2]:=by
 match l,h with
 | [x0,x1,x2],_=>exact ⟨x0,x1,x2,rfl⟩
theorem Ao {P:Program} {w:World} {r:Reach} {b:Nat} {T:TypeId} {d:TypeDesc} {ts:List TypeId} {v:Value} (hu:P.underlying T=some d) (hd:(match d with| .struct _| .array _ _=>true| _=>false)=true)
  {n:Nat} (hc:P.cellTypes P.depth T=some ts) (hn:P.cellsOf T=n) (hl:ts.length=n) (h:Value.okWide P w r b T v):∃ l:List Value,v= au ⟨l⟩∧l.length=n∧∀ (i:Nat) x u,l[i]? =some x→ts[i]? =some u→Cell.okWide P w r b u x:=by
 have h':∃ cs,v= au cs∧cs.size=P.cellsOf T∧Row.okWide P w r b T cs:=by
  unfold Value.okWide at h;rw [hu] at h;cases d<;>simp at hd<;>exact h
 obtain ⟨⟨l⟩,rfl,hs,ts',ht, -, hx⟩:=h';rw [hc] at ht;cases ht
 refine ⟨l,rfl,by rw [← hn];exact hs,fun i x u hi hui=>?_⟩;obtain ⟨u',h1,h2⟩:=hx i x (by simpa using hi);have hlt:i<ts.length:=(List.getElem?_eq_some_iff.1 hui).1;rw [eZ hlt,hui] at h1;cases h1
 exact h2
theorem IY {n:Int} (h:IntKind.u16.has n):0≤n∧n≤65535:=by
 simpa [IntKind.has,IntKind.min,IntKind.max,IntKind.signed,IntKind.bits] using h
theorem wL {n:Int} (h:IntKind.i16.has n):(-32768)≤n∧n≤32767:=by
 simpa [IntKind.has,IntKind.min,IntKind.max,IntKind.signed,IntKind.bits] using h
theorem Dl:laidOutB Tryz.prog=true:=by kernel_rfl
end Go.Proofs.YtlpjmogillpnbaaGreatDoor
