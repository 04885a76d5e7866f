/- Lemmas for the proof. No condition. -/
import Derived.Test.YtneajphgfdlmhaaGreatDoorQB17
import Derived.Test.YtneajphgfdlmhaaGreatDoorQB24
set_option linter.unusedVariables false
set_option linter.unusedSimpArgs false
set_option maxRecDepth 100000
set_option maxHeartbeats 16000000
open Bool renaming and_eq_true → aK
open Go.Ending renaming returned → aj
open Go.IntKind renaming i64 → I
open Go.Value renaming agg → au, bool → ak, int → Z, slice → ah, string → O, tuple → aG
open List renaming range → dz
open Nat renaming le_trans → ay, lt_or_ge → aO, mul_comm → aL, mul_le_mul → dP, mul_le_mul_left → aR, pow_add → fQ, pow_le_pow_right → bI, pow_succ → bN
namespace Go.Proofs.aH
open Go Go.RowKit Go.SW Go.Num Go.Mem Go.Proofs Go.Dec Go.Proofs.aC Go.gD Go.Fx
theorem o8 {a:Fr} {q:Rat} (h:rd a=some q):jw 67 q:=jJ (nT h).2
theorem jw.OW {q:Rat} (h:jw 1000 q):sz 10000 q.num.natAbs≤1073741824∧sz 10000 q.den≤1073741824:=by
 have h1:=BD h.1;have h2:=BD h.2;exact ⟨by omega,by omega⟩
theorem Wp {k:Nat} {p q:Rat} (h:jw k p) (i:jw k q):jw (2*k+1) (p - q):=by
 rw [Rat.sub_eq_add_neg];exact AX h (uN i)
theorem vP {a:Fr} {q:Rat} (h:rd a=some q) (W:World):Calls Tryz.prog 135 #[a.v] W (kS W q):=FW a.n a.d q W h
theorem Zh:((0:Int):Rat) / ((1:Int):Rat)=0:=by decide+kernel
theorem sG (a:Fr) (w:World) (hf:Fits a):Calls Tryz.prog 180 #[a.v] w (fun e w'=>e= aj (aG #[Z I (kF a).1,Z I (kF a).2])∧Below w.heap.size w w'):=by
 unfold kF;cases h:rd a with
 | none =>
  have R:=fun W=>je (b:=false) (by rw [h];rfl) hf W;refine Fx.door Tryz.func180 rfl (.nil w []) ?_;refine Fx.new [] 1 #[O a.n,O a.d] 32 [] [] fun gM=>?_;refine Fx.dD [3] 5 [] [] R ?_;exact Fx.am4 [1] [] (fun W M=>⟨rfl,M.below⟩)
 | some q =>
  have R:=fun W=>je (b:=true) (by rw [h];rfl) hf W;have bK:=fun W=>(vP h W).mono fun _ _ q=>qz q;have eZ:=fun W=>(rz 0 1 zo zo zo zo zo W).mono fun _ _ q=>qz q;rw [Zh] at eZ;have hq:=(o8 h).mono (show 67≤10000000000 by omega);have aj5:=fun x y W hx hy=>jS x y q 0 W hx hy hq ⟨by decide+kernel,by decide+kernel⟩
  dsimp only
  generalize oK q 0=cc at *;refine Fx.door Tryz.func180 rfl (.nil w []) ?_;refine Fx.new [] 1 #[O a.n,O a.d] 32 [] [] fun gM=>?_;refine Fx.dD [3] 5 [] [] R ?_;refine Fx.qd [2,3] 8 [] [] (fun W M=>bK _) ?_;rintro W wx2 e M ⟨n1,p1,l1,c1,m1,q1,j1,d1,rfl,B2,Q1⟩;refine ⟨B2,fun M2=>?_⟩;have M:=M2;have HZ2:=M.below;refine Fx.qd [] 9 [] [] (fun W M=>eZ _) ?_;rintro W wx3 e M ⟨n2,p2,l2,c2,m2,q2,j2,d2,rfl,B3,Q2⟩;refine ⟨B3,fun M3=>?_⟩;have M:=M3;replace Q1:=Q1.later M.below;have HZ3:=(Bt HZ2 M.below);refine Fx.call [] 10 [] [] (fun W M=>aj5 _ _ _ (Q1.later M.below) (Q2.later M.below)) ?_;exact Fx.am4 [] [] (fun W M=>⟨rfl,(Bt HZ3 M.below)⟩)
theorem PO {b:Fr} {q:Rat} (h:rd b=some q):(b.n.toList == [48])=decide (q=0):=by
 have e:b.n=⟨(Lib.itoa q.num).toArray⟩:=by rw [(nT h).1];rfl
 have z0:Lib.itoa 0=[48]:=by decide+kernel
 rw [e,ByteArray.toList_mk]
 by_cases h0:q=0
 ·rw [decide_eq_true h0,h0];show (Lib.itoa 0 == [48])=true;rw [z0];rfl
 ·rw [decide_eq_false h0,beq_eq_false_iff_ne];intro e;rw [← z0] at e;exact h0 (Rat.num_eq_zero.1 (xV e))
theorem zJ (a b:Fr) (w:World) (ha:Fits a) (hb:Fits b):Calls Tryz.prog 170 #[a.v,b.v] w (qK w (qJ a b)):=by
 unfold qK;cases h:rd a with
 | none =>
  rw [show qJ a b=(Fr.no,20) from ql h];have R:=fun W=>je (b:=false) (by rw [h];rfl) ha W;refine Fx.door Tryz.func170 rfl (.nil w []) ?_;refine Fx.new [] 2 #[O a.n,O a.d] 32 [] [] fun gM=>?_;refine Fx.new [] 3 #[O b.n,O b.d] 32 [] [] fun gI=>?_;refine Fx.aY [] 4 32 [] [] fun gH=>?_;refine Fx.dD [3] 7 [] [] R ?_;exact Fx.fU 2 gH [0,0,1,5] [(2,#[O ⟨#[]⟩,O ⟨#[]⟩])] (fun W M=>⟨rfl,M.below⟩)
 | some p =>
  have R:=fun W=>je (b:=true) (by rw [h];rfl) ha W;cases k:rd b with
  | none =>
   rw [show qJ a b=(Fr.no,20) from qj k];have R2:=fun W=>je (b:=false) (by rw [k];rfl) hb W;refine Fx.door Tryz.func170 rfl (.nil w []) ?_;refine Fx.new [] 2 #[O a.n,O a.d] 32 [] [] fun gM=>?_;refine Fx.new [] 3 #[O b.n,O b.d] 32 [] [] fun gI=>?_;refine Fx.aY [] 4 32 [] [] fun gH=>?_;refine Fx.dD [3] 7 [] [] R ?_;refine Fx.dD [4] 11 [(9,ak false)] [] R2 ?_;exact Fx.fU 2 gH [1,5] [(2,#[O ⟨#[]⟩,O ⟨#[]⟩])] (fun W M=>⟨rfl,M.below⟩)
  | some q =>
   have R2:=fun W=>je (b:=true) (by rw [k];rfl) hb W;rw [show qJ a b=wr (p+q) from mZ h k];have I1:=fun W=>(vP h W).mono fun _ _ q=>qz q;have I2:=fun W=>(vP k W).mono fun _ _ q=>qz q;have hp:=o8 h;have hq:=o8 k;have OP:=fun x y W hx hy=>(qm x y p q W hx hy (hp.mono zo) (hq.mono zo)).mono fun _ _ q=>qz q;have hs:jw 1000 (p+q):=(AX hp hq).mono zo;obtain ⟨f1,f2⟩:=jw.OW hs;have OU:=fun x W hx=>uI x (p+q) W hx f1 f2;generalize p+q=r at *;obtain ⟨⟨⟨s1,s2⟩,k1⟩,E⟩:∃ y,wr r=y:=⟨_,rfl⟩;rw [E] at OU ⊢;refine Fx.door Tryz.func170 rfl (.nil w []) ?_;refine Fx.new [] 2 #[O a.n,O a.d] 32 [] [] fun gM=>?_;refine Fx.new [] 3 #[O b.n,O b.d] 32 [] [] fun gI=>?_;refine Fx.aY [] 4 32 [] [] fun gH=>?_;refine Fx.dD [3] 7 [] [] R ?_;refine Fx.dD [4] 11 [(9,ak false)] [] R2 ?_
   refine Fx.draw [2] [0,2,1,3,4,5,6,7,8,5009] [] [] [] ?_;refine Fx.qd [3,4] 16 [(17,au #[O b.n,O b.d])] [] (fun W M=>I1 _) ?_;rintro W wx4 e M ⟨n1,p1,l1,c1,m1,q1,j1,d1,rfl,B4,Q1⟩;refine ⟨B4,fun M4=>?_⟩;have M:=M4;have HZ4:=M.below;refine Fx.qd [] 18 [] [] (fun W M=>I2 _) ?_;rintro W wx5 e M ⟨n2,p2,l2,c2,m2,q2,j2,d2,rfl,B5,Q2⟩;refine ⟨B5,fun M5=>?_⟩;have M:=M5;replace Q1:=Q1.later M.below;have HZ5:=(Bt HZ4 M.below);refine Fx.qd [] 19 [] [] (fun W M=>OP _ _ _ (Q1.later M.below) (Q2.later M.below)) ?_;rintro W wx6 e M ⟨n3,p3,l3,c3,m3,q3,j3,d3,rfl,B6,Q3⟩;refine ⟨B6,fun M6=>?_⟩;have M:=M6;replace Q1:=Q1.later M.below;replace Q2:=Q2.later M.below;have HZ6:=(Bt HZ5 M.below);refine Fx.call [] 20 [] [] (fun W M=>OU _ _ (Q3.later M.below)) ?_;refine Fx.part 3 [] [(21,au #[O s1,O s2]),(22,Z I k1)] [] ?_;refine Fx.back M6 ?_;refine Fx.back M5 ?_
   refine Fx.back M4 ?_;exact Fx.fU 2 gH [5] [(2,#[O s1,O s2])] (fun W M=>⟨rfl,M.below⟩)
--iff aH.Sub
theorem Dp (a b:Fr) (w:World) (ha:Fits a) (hb:Fits b):Calls Tryz.prog 173 #[a.v,b.v] w (qK w (rJ a b)):=by
 unfold qK;cases h:rd a with
 | none =>
  rw [show rJ a b=(Fr.no,20) from ql h];have R:=fun W=>je (b:=false) (by rw [h];rfl) ha W;refine Fx.door Tryz.func173 rfl (.nil w []) ?_;refine Fx.new [] 2 #[O a.n,O a.d] 32 [] [] fun gM=>?_;refine Fx.new [] 3 #[O b.n,O b.d] 32 [] [] fun gI=>?_;refine Fx.aY [] 4 32 [] [] fun gH=>?_;refine Fx.dD [3] 7 [] [] R ?_;exact Fx.fU 2 gH [0,0,1,5] [(2,#[O ⟨#[]⟩,O ⟨#[]⟩])] (fun W M=>⟨rfl,M.below⟩)
 | some p =>
  have R:=fun W=>je (b:=true) (by rw [h];rfl) ha W;cases k:rd b with
  | none =>
   rw [show rJ a b=(Fr.no,20) from qj k];have R2:=fun W=>je (b:=false) (by rw [k];rfl) hb W;refine Fx.door Tryz.func173 rfl (.nil w []) ?_;refine Fx.new [] 2 #[O a.n,O a.d] 32 [] [] fun gM=>?_;refine Fx.new [] 3 #[O b.n,O b.d] 32 [] [] fun gI=>?_;refine Fx.aY [] 4 32 [] [] fun gH=>?_;refine Fx.dD [3] 7 [] [] R ?_;refine Fx.dD [4] 11 [(9,ak false)] [] R2 ?_;exact Fx.fU 2 gH [1,5] [(2,#[O ⟨#[]⟩,O ⟨#[]⟩])] (fun W M=>⟨rfl,M.below⟩)
  | some q =>
   have R2:=fun W=>je (b:=true) (by rw [k];rfl) hb W;rw [show rJ a b=wr (p - q) from mZ h k];have I1:=fun W=>(vP h W).mono fun _ _ q=>qz q;have I2:=fun W=>(vP k W).mono fun _ _ q=>qz q;have hp:=o8 h;have hq:=o8 k;have OP:=fun x y W hx hy=>(rA x y p q W hx hy (hp.mono zo) (hq.mono zo)).mono fun _ _ q=>qz q;have hs:jw 1000 (p - q):=(Wp hp hq).mono zo;obtain ⟨f1,f2⟩:=jw.OW hs;have OU:=fun x W hx=>uI x (p - q) W hx f1 f2;generalize p - q=r at *;obtain ⟨⟨⟨s1,s2⟩,k1⟩,E⟩:∃ y,wr r=y:=⟨_,rfl⟩;rw [E] at OU ⊢;refine Fx.door Tryz.func173 rfl (.nil w []) ?_;refine Fx.new [] 2 #[O a.n,O a.d] 32 [] [] fun gM=>?_;refine Fx.new [] 3 #[O b.n,O b.d] 32 [] [] fun gI=>?_;refine Fx.aY [] 4 32 [] [] fun gH=>?_;refine Fx.dD [3] 7 [] [] R ?_;refine Fx.dD [4] 11 [(9,ak false)] [] R2 ?_
   refine Fx.draw [2] [0,2,1,3,4,5,6,7,8,5009] [] [] [] ?_;refine Fx.qd [3,4] 16 [(17,au #[O b.n,O b.d])] [] (fun W M=>I1 _) ?_;rintro W wx4 e M ⟨n1,p1,l1,c1,m1,q1,j1,d1,rfl,B4,Q1⟩;refine ⟨B4,fun M4=>?_⟩;have M:=M4;have HZ4:=M.below;refine Fx.qd [] 18 [] [] (fun W M=>I2 _) ?_;rintro W wx5 e M ⟨n2,p2,l2,c2,m2,q2,j2,d2,rfl,B5,Q2⟩;refine ⟨B5,fun M5=>?_⟩;have M:=M5;replace Q1:=Q1.later M.below;have HZ5:=(Bt HZ4 M.below);refine Fx.qd [] 19 [] [] (fun W M=>OP _ _ _ (Q1.later M.below) (Q2.later M.below)) ?_;rintro W wx6 e M ⟨n3,p3,l3,c3,m3,q3,j3,d3,rfl,B6,Q3⟩;refine ⟨B6,fun M6=>?_⟩;have M:=M6;replace Q1:=Q1.later M.below;replace Q2:=Q2.later M.below;have HZ6:=(Bt HZ5 M.below);refine Fx.call [] 20 [] [] (fun W M=>OU _ _ (Q3.later M.below)) ?_;refine Fx.part 3 [] [(21,au #[O s1,O s2]),(22,Z I k1)] [] ?_;refine Fx.back M6 ?_;refine Fx.back M5 ?_
   refine Fx.back M4 ?_;exact Fx.fU 2 gH [5] [(2,#[O s1,O s2])] (fun W M=>⟨rfl,M.below⟩)
--iff aH.Mul
theorem Dr (a b:Fr) (w:World) (ha:Fits a) (hb:Fits b):Calls Tryz.prog 172 #[a.v,b.v] w (qK w (nH a b)):=by
 unfold qK;cases h:rd a with
 | none =>
  rw [show nH a b=(Fr.no,20) from ql h];have R:=fun W=>je (b:=false) (by rw [h];rfl) ha W;refine Fx.door Tryz.func172 rfl (.nil w []) ?_;refine Fx.new [] 2 #[O a.n,O a.d] 32 [] [] fun gM=>?_;refine Fx.new [] 3 #[O b.n,O b.d] 32 [] [] fun gI=>?_;refine Fx.aY [] 4 32 [] [] fun gH=>?_;refine Fx.dD [3] 7 [] [] R ?_;exact Fx.fU 2 gH [0,0,1,5] [(2,#[O ⟨#[]⟩,O ⟨#[]⟩])] (fun W M=>⟨rfl,M.below⟩)
 | some p =>
  have R:=fun W=>je (b:=true) (by rw [h];rfl) ha W;cases k:rd b with
  | none =>
   rw [show nH a b=(Fr.no,20) from qj k];have R2:=fun W=>je (b:=false) (by rw [k];rfl) hb W;refine Fx.door Tryz.func172 rfl (.nil w []) ?_;refine Fx.new [] 2 #[O a.n,O a.d] 32 [] [] fun gM=>?_;refine Fx.new [] 3 #[O b.n,O b.d] 32 [] [] fun gI=>?_;refine Fx.aY [] 4 32 [] [] fun gH=>?_;refine Fx.dD [3] 7 [] [] R ?_;refine Fx.dD [4] 11 [(9,ak false)] [] R2 ?_;exact Fx.fU 2 gH [1,5] [(2,#[O ⟨#[]⟩,O ⟨#[]⟩])] (fun W M=>⟨rfl,M.below⟩)
  | some q =>
   have R2:=fun W=>je (b:=true) (by rw [k];rfl) hb W;rw [show nH a b=wr (p*q) from mZ h k];have I1:=fun W=>(vP h W).mono fun _ _ q=>qz q;have I2:=fun W=>(vP k W).mono fun _ _ q=>qz q;have hp:=o8 h;have hq:=o8 k;have OP:=fun x y W hx hy=>(jm x y p q W hx hy (hp.mono zo) (hq.mono zo)).mono fun _ _ q=>qz q;have hs:jw 1000 (p*q):=(rH hp hq).mono zo;obtain ⟨f1,f2⟩:=jw.OW hs;have OU:=fun x W hx=>uI x (p*q) W hx f1 f2;generalize p*q=r at *;obtain ⟨⟨⟨s1,s2⟩,k1⟩,E⟩:∃ y,wr r=y:=⟨_,rfl⟩;rw [E] at OU ⊢;refine Fx.door Tryz.func172 rfl (.nil w []) ?_;refine Fx.new [] 2 #[O a.n,O a.d] 32 [] [] fun gM=>?_;refine Fx.new [] 3 #[O b.n,O b.d] 32 [] [] fun gI=>?_;refine Fx.aY [] 4 32 [] [] fun gH=>?_;refine Fx.dD [3] 7 [] [] R ?_;refine Fx.dD [4] 11 [(9,ak false)] [] R2 ?_
   refine Fx.draw [2] [0,2,1,3,4,5,6,7,8,5009] [] [] [] ?_;refine Fx.qd [3,4] 16 [(17,au #[O b.n,O b.d])] [] (fun W M=>I1 _) ?_;rintro W wx4 e M ⟨n1,p1,l1,c1,m1,q1,j1,d1,rfl,B4,Q1⟩;refine ⟨B4,fun M4=>?_⟩;have M:=M4;have HZ4:=M.below;refine Fx.qd [] 18 [] [] (fun W M=>I2 _) ?_;rintro W wx5 e M ⟨n2,p2,l2,c2,m2,q2,j2,d2,rfl,B5,Q2⟩;refine ⟨B5,fun M5=>?_⟩;have M:=M5;replace Q1:=Q1.later M.below;have HZ5:=(Bt HZ4 M.below);refine Fx.qd [] 19 [] [] (fun W M=>OP _ _ _ (Q1.later M.below) (Q2.later M.below)) ?_;rintro W wx6 e M ⟨n3,p3,l3,c3,m3,q3,j3,d3,rfl,B6,Q3⟩;refine ⟨B6,fun M6=>?_⟩;have M:=M6;replace Q1:=Q1.later M.below;replace Q2:=Q2.later M.below;have HZ6:=(Bt HZ5 M.below);refine Fx.call [] 20 [] [] (fun W M=>OU _ _ (Q3.later M.below)) ?_;refine Fx.part 3 [] [(21,au #[O s1,O s2]),(22,Z I k1)] [] ?_;refine Fx.back M6 ?_;refine Fx.back M5 ?_
   refine Fx.back M4 ?_;exact Fx.fU 2 gH [5] [(2,#[O s1,O s2])] (fun W M=>⟨rfl,M.below⟩)
theorem sI (a b:Fr) (w:World) (ha:Fits a) (hb:Fits b):Calls Tryz.prog 55 #[a.v,b.v] w (qK w (nk a b)):=by
 unfold qK;cases h:rd a with
 | none =>
  rw [show nk a b=(Fr.no,20) from ql h];have R:=fun W=>je (b:=false) (by rw [h];rfl) ha W;refine Fx.door Tryz.func55 rfl (.nil w []) ?_;refine Fx.new [] 2 #[O a.n,O a.d] 32 [] [] fun gM=>?_;refine Fx.new [] 3 #[O b.n,O b.d] 32 [] [] fun gI=>?_;refine Fx.aY [] 4 32 [] [] fun gH=>?_;refine Fx.dD [3] 7 [] [] R ?_;exact Fx.fU 2 gH [0,0,1,5] [(2,#[O ⟨#[]⟩,O ⟨#[]⟩])] (fun W M=>⟨rfl,M.below⟩)
 | some p =>
  have R:=fun W=>je (b:=true) (by rw [h];rfl) ha W;cases k:rd b with
  | none =>
   rw [show nk a b=(Fr.no,20) from qj k];have R2:=fun W=>je (b:=false) (by rw [k];rfl) hb W;refine Fx.door Tryz.func55 rfl (.nil w []) ?_;refine Fx.new [] 2 #[O a.n,O a.d] 32 [] [] fun gM=>?_;refine Fx.new [] 3 #[O b.n,O b.d] 32 [] [] fun gI=>?_;refine Fx.aY [] 4 32 [] [] fun gH=>?_;refine Fx.dD [3] 7 [] [] R ?_;refine Fx.dD [4] 11 [(9,ak false)] [] R2 ?_;exact Fx.fU 2 gH [1,5] [(2,#[O ⟨#[]⟩,O ⟨#[]⟩])] (fun W M=>⟨rfl,M.below⟩)
  | some q =>
   have R2:=fun W=>je (b:=true) (by rw [k];rfl) hb W;have hz:(b.n.toList == (⟨#[48]⟩:ByteArray).toList)=decide (q=0):=by rw [ByteArray.toList_eq (⟨#[48]⟩:ByteArray)];exact PO k
   by_cases h0:q=0
   ·rw [show nk a b=(Fr.no,7) by rw [show nk a b=if q=0 then (Fr.no,7) else wr (p / q) from mZ h k,if_pos h0]];rw [decide_eq_true h0] at hz;refine Fx.door Tryz.func55 rfl (.nil w []) ?_;refine Fx.new [] 2 #[O a.n,O a.d] 32 [] [] fun gM=>?_;refine Fx.new [] 3 #[O b.n,O b.d] 32 [] [] fun gI=>?_;refine Fx.aY [] 4 32 [] [] fun gH=>?_;refine Fx.dD [3] 7 [] [] R ?_;refine Fx.dD [4] 11 [(9,ak false)] [] R2 ?_;refine Fx.part 13 [2,4] [(17,ak (b.n.toList == (⟨#[48]⟩:ByteArray).toList))] [] ?_;refine Fx.o7 true (hz) ?_;exact Fx.fU 2 gH [1,5] [(2,#[O ⟨#[]⟩,O ⟨#[]⟩])] (fun W M=>⟨rfl,M.below⟩)
   ·rw [show nk a b=wr (p / q) by rw [show nk a b=if q=0 then (Fr.no,7) else wr (p / q) from mZ h k,if_neg h0]];rw [decide_eq_false h0] at hz;have I1:=fun W=>(vP h W).mono fun _ _ q=>qz q;have I2:=fun W=>(vP k W).mono fun _ _ q=>qz q;have hp:=o8 h;have hq:=o8 k;have OP:=fun x y W hx hy=>(Pv x y p q W hx hy (hp.mono zo) (hq.mono zo) h0).mono fun _ _ q=>qz q;have hs:jw 1000 (p / q):=by rw [Rat.div_def];exact (rH hp (Gi hq h0)).mono zo
    obtain ⟨f1,f2⟩:=jw.OW hs;have OU:=fun x W hx=>uI x (p / q) W hx f1 f2;generalize p / q=r at *;obtain ⟨⟨⟨s1,s2⟩,k1⟩,E⟩:∃ y,wr r=y:=⟨_,rfl⟩;rw [E] at OU ⊢;refine Fx.door Tryz.func55 rfl (.nil w []) ?_;refine Fx.new [] 2 #[O a.n,O a.d] 32 [] [] fun gM=>?_;refine Fx.new [] 3 #[O b.n,O b.d] 32 [] [] fun gI=>?_;refine Fx.aY [] 4 32 [] [] fun gH=>?_;refine Fx.dD [3] 7 [] [] R ?_;refine Fx.dD [4] 11 [(9,ak false)] [] R2 ?_;refine Fx.part 13 [2,4] [(17,ak (b.n.toList == (⟨#[48]⟩:ByteArray).toList))] [] ?_;refine Fx.o7 false (hz) ?_;refine Fx.draw [2] [0,2,1,3,4,5,6,7,8,5009] [] [] [] ?_;refine Fx.qd [3,4] 20 [(21,au #[O b.n,O b.d])] [] (fun W M=>I1 _) ?_;rintro W wx4 e M ⟨n1,p1,l1,c1,m1,q1,j1,d1,rfl,B4,Q1⟩;refine ⟨B4,fun M4=>?_⟩;have M:=M4;have HZ4:=M.below;refine Fx.qd [] 22 [] [] (fun W M=>I2 _) ?_
    rintro W wx5 e M ⟨n2,p2,l2,c2,m2,q2,j2,d2,rfl,B5,Q2⟩;refine ⟨B5,fun M5=>?_⟩;have M:=M5;replace Q1:=Q1.later M.below;have HZ5:=(Bt HZ4 M.below);refine Fx.qd [] 23 [] [] (fun W M=>OP _ _ _ (Q1.later M.below) (Q2.later M.below)) ?_;rintro W wx6 e M ⟨n3,p3,l3,c3,m3,q3,j3,d3,rfl,B6,Q3⟩;refine ⟨B6,fun M6=>?_⟩;have M:=M6;replace Q1:=Q1.later M.below;replace Q2:=Q2.later M.below;have HZ6:=(Bt HZ5 M.below);refine Fx.call [] 24 [] [] (fun W M=>OU _ _ (Q3.later M.below)) ?_;refine Fx.part 3 [] [(25,au #[O s1,O s2]),(26,Z I k1)] [] ?_;refine Fx.back M6 ?_;refine Fx.back M5 ?_;refine Fx.back M4 ?_;exact Fx.fU 2 gH [5] [(2,#[O s1,O s2])] (fun W M=>⟨rfl,M.below⟩)
end Go.Proofs.aH
namespace Go.Proofs.aU
open Go Go.RowKit Go.SW Go.Num Go.Mem Go.Proofs Go.Dec Go.gD Go.Proofs.dH Go.Proofs.aH Go.Proofs.aC Go.Fx
theorem zA (r:(Int × Int) × Int):∃ x y k:Int,r=((x,y),k):=⟨r.1.1,r.1.2,r.2,rfl⟩
theorem zI (a:Fr) (w:World) (hf:Fits a):Calls Tryz.prog 150 #[a.v] w (fun e w'=>e= aj (d9 (jl a))∧Below w.heap.size w w'):=by
 cases ha:rd a with
 | none =>
  have R1:=zh (fun W=>je (a:=a) (b:=false) (by rw [ha];rfl) hf W);have e:jl a=((0,0),20):=by unfold jl;rw [ha]
  rw [e];obtain ⟨s,t⟩:=a;unfold Fr.v at R1 ⊢;clear ha hf e;go_enter Tryz.func150,Tryz.ntmps150
  go_wp2_with fail
  obtain ⟨u0,EW,hz,HX,HR⟩:=Dz w #[O s,O t] 32 #[Z I 0,Z I 0] 40;rw [EW];have HB:=zh hz;clear EW hz;refine (R1.out _).mono ?_;rintro e u1 ⟨rfl,h⟩;replace HX:=zh (HX.out.later h);replace HR:=zh (HR.out.later h);replace HB:=zh (Bt HB.out h);clear h;have hr:=HR.out;have cr:=hr.cell;have fr:=hr.free;have hb:=HB.out;clear HX HR HB;go_wp2_with fail
  refine bH rfl rfl ((hr.set 0 _).set 1 _) Tryz.underlying40 rfl zk ?_;exact ⟨rfl,(hb.setCell (p:=⟨w.heap.size+1,0,none⟩) (by show w.heap.size≤w.heap.size+1;omega) _).setCell (p:=⟨w.heap.size+1,1,none⟩) (by show w.heap.size≤w.heap.size+1;omega) _⟩
 | some q =>
  have R1:=zh (fun W=>je (a:=a) (b:=true) (by rw [ha];rfl) hf W);have I1:=zh (fun W=>(vP ha W).mono fun _ _ q=>qz q);have T1:=zh (fun v v' W (h:Ra W v q) (h':Ra W v' q)=>Kw v v' q q W h h' ((o8 ha).mono zo) ((o8 ha).mono zo));have e:jl a=nG q q:=by rw [xu];unfold jl;rw [ha]
  rw [e];obtain ⟨x,y,k,ex⟩:=zA (nG q q);rw [ex] at T1 ⊢;unfold d9 at T1 ⊢;obtain ⟨s,t⟩:=a;unfold Fr.v at R1 I1 ⊢;clear ha hf e ex;go_enter Tryz.func150,Tryz.ntmps150
  go_wp2_with fail
  obtain ⟨u0,EW,hz,HX,HR⟩:=Dz w #[O s,O t] 32 #[Z I 0,Z I 0] 40;rw [EW];have HB:=zh hz;clear EW hz;refine (R1.out _).mono ?_;rintro e u1 ⟨rfl,h⟩;replace HX:=zh (HX.out.later h);replace HR:=zh (HR.out.later h);replace HB:=zh (Bt HB.out h);clear h;have wN:=HX.out.cell;have wF:=HX.out.lt;go_wp2_with fail
  clear wN wF;refine (I1.out _).mono ?_;rintro e u2 ⟨bO,paO,lO,caO,bOd,Tt,lOd,U6,rfl,h,hm⟩;replace HX:=zh (HX.out.later h);replace HR:=zh (HR.out.later h);replace HB:=zh (Bt HB.out h);clear h;have QO:=zh hm;clear hm;go_wp2_with fail
  have QO2:=zh (QO.out.later (show Below u2.heap.size u2 (u2.alloc (.cells #[ak bO,ah paO lO caO,ak bOd,ah Tt lOd U6] 163)) from aF));replace HR:=zh (HR.out.alloc (.cells #[ak bO,ah paO lO caO,ak bOd,ah Tt lOd U6] 163));replace HB:=zh (Bt HB.out (show Below u2.heap.size u2 (u2.alloc (.cells #[ak bO,ah paO lO caO,ak bOd,ah Tt lOd U6] 163)) from aF));clear HX QO;refine (T1.out _ _ _ QO2.out QO2.out).mono ?_;rintro e u3 ⟨rfl,h⟩;replace HR:=zh (HR.out.later h);replace QO2:=zh (QO2.out.later h);replace HB:=zh (Bt HB.out h);clear h;have hr:=HR.out;have cr:=hr.cell;have fr:=hr.free;have hb:=HB.out;clear HR HB QO2;go_wp2_with fail
  refine bH rfl rfl ((hr.set 0 _).set 1 _) Tryz.underlying40 rfl zk ?_;exact ⟨rfl,(hb.setCell (p:=⟨w.heap.size+1,0,none⟩) (by show w.heap.size≤w.heap.size+1;omega) _).setCell (p:=⟨w.heap.size+1,1,none⟩) (by show w.heap.size≤w.heap.size+1;omega) _⟩
theorem YE (n:Int) (h1: -9223372036854775808≤n) (h2:n≤9223372036854775807):jw 10 (un n):=by
 unfold un;obtain ⟨g1,g2⟩:=GQ (n:=n) (d:=1000000000000) zo
 constructor
 ·exact ay (gu zo g1) (ay (gu zo (show n.natAbs≤9223372036854775808 by omega)) (by decide+kernel))
 ·exact ay (gu zo g2) (by decide+kernel)
end Go.Proofs.aU
namespace Go.Proofs.aU
open Go Go.RowKit Go.SW Go.Num Go.Mem Go.Proofs Go.gD Go.Proofs.dH Go.Proofs.aH
def Af (q:Rat):Int:=(q*((1000000000000:Int):Rat)).floor
def zK (q:Rat):Int:= -((-(q*((1000000000000:Int):Rat))).floor)
theorem UD (x:Rat):x.floor≤ -((-x).floor):=by
 have h1:=Rat.floor_le x;have h2:=Rat.floor_le (-x)
 have h3:((x.floor:Int):Rat)≤((-((-x).floor):Int):Rat):=by
  rw [Rat.intCast_neg]
  grind
 exact Rat.intCast_le_intCast.1 h3
theorem OZ (q:Rat):Af q≤zK q:=UD _
def MN (z:Int):Int × Bool:=if z.natAbs≤1000000000000000000 then (z,true) else (0,false)
theorem nW {A:Int × Bool} {l:Int} (h:A=MN l):(A.2=true→A.1=l∧l.natAbs≤1000000000000000000)∧(A.2=false→1000000000000000000<l.natAbs):=by
 subst h;unfold MN
 by_cases h:l.natAbs≤1000000000000000000
 ·rw [if_pos h];exact ⟨fun _=>⟨rfl,h⟩,fun h=>by cases h⟩
 ·rw [if_neg h];exact ⟨fun h=>(by cases h),fun _=>by omega⟩
def RI (Q:Int→Int→Bool→Int × Bool) (V:Int→Int→Rat) (x y:Int):Prop:=Q x y false=MN (Af (V x y))∧Q x y true=MN (zK (V x y))
theorem PZ (Q:Int→Int→Bool→Int × Bool) (V:Int→Int→Rat) (a b:Int × Int) (k0:RI Q V a.1 b.1) (k1:RI Q V a.1 b.2) (k2:RI Q V a.2 b.1) (k3:RI Q V a.2 b.2) :
  nG (j6 (V a.1 b.1) [V a.1 b.2,V a.2 b.1,V a.2 b.2]) (iE (V a.1 b.1) [V a.1 b.2,V a.2 b.1,V a.2 b.2])=rO Q a b:=by
 have r1:=OZ (V a.1 b.1);have r2:=OZ (V a.1 b.2);have r3:=OZ (V a.2 b.1);have r4:=OZ (V a.2 b.2);have q0:=nW k0.1;have q1:=nW k1.1;have q2:=nW k2.1;have q3:=nW k3.1;have p0:=nW k0.2;have p1:=nW k1.2;have p2:=nW k2.2;have p3:=nW k3.2
 have fe:UG Q a b=((Q a.1 b.1 false).2&&(Q a.1 b.1 true).2&&((Q a.1 b.2 false).2&&(Q a.1 b.2 true).2)&&((Q a.2 b.1 false).2&&(Q a.2 b.1 true).2)&&((Q a.2 b.2 false).2&&(Q a.2 b.2 true).2)):=by
  unfold UG;simp [dz,List.range.loop,Bool.and_assoc,uR,uT,VL,RQ]
 have e0:uR Q a b 0=Q a.1 b.1 false:=rfl;have e1:uR Q a b 1=Q a.1 b.2 false:=rfl;have e2:uR Q a b 2=Q a.2 b.1 false:=rfl;have e3:uR Q a b 3=Q a.2 b.2 false:=rfl;have d0:uT Q a b 0=Q a.1 b.1 true:=rfl;have d1:uT Q a b 1=Q a.1 b.2 true:=rfl;have d2:uT Q a b 2=Q a.2 b.1 true:=rfl;have d3:uT Q a b 3=Q a.2 b.2 true:=rfl;unfold rO;rw [fe,e0,e1,e2,e3,d0,d1,d2,d3];clear fe e0 e1 e2 e3 d0 d1 d2 d3 k0 k1 k2 k3;generalize Q a.1 b.1 false=A0 at *;generalize Q a.1 b.2 false=A1 at *;generalize Q a.2 b.1 false=A2 at *;generalize Q a.2 b.2 false=A3 at *;generalize Q a.1 b.1 true=B0 at *;generalize Q a.1 b.2 true=B1 at *;generalize Q a.2 b.1 true=B2 at *;generalize Q a.2 b.2 true=B3 at *;generalize V a.1 b.1=v0 at *;generalize V a.1 b.2=v1 at *;generalize V a.2 b.1=v2 at *;generalize V a.2 b.2=v3 at *;obtain ⟨h1,h2,h3,h4,h5⟩:=az0 v0 v1 v2 v3;obtain ⟨g1,g2,g3,g4,g5⟩:=ao8 v0 v1 v2 v3
 generalize j6 v0 [v1,v2,v3]=lo at *;generalize iE v0 [v1,v2,v3]=hi at *;replace h2:Af lo≤Af v0:=Ii h2;replace h3:Af lo≤Af v1:=Ii h3;replace h4:Af lo≤Af v2:=Ii h4;replace h5:Af lo≤Af v3:=Ii h5;replace g2:zK v0≤zK hi:=Ij g2;replace g3:zK v1≤zK hi:=Ij g3;replace g4:zK v2≤zK hi:=Ij g4;replace g5:zK v3≤zK hi:=Ij g5
 have h6:Af lo=Af v0∨Af lo=Af v1∨Af lo=Af v2∨Af lo=Af v3:=by
  rcases h1 with rfl|rfl|rfl|rfl
  ·exact .inl rfl
  ·exact .inr (.inl rfl)
  ·exact .inr (.inr (.inl rfl))
  ·exact .inr (.inr (.inr rfl))
 have g6:zK hi=zK v0∨zK hi=zK v1∨zK hi=zK v2∨zK hi=zK v3:=by
  rcases g1 with rfl|rfl|rfl|rfl
  ·exact .inl rfl
  ·exact .inr (.inl rfl)
  ·exact .inr (.inr (.inl rfl))
  ·exact .inr (.inr (.inr rfl))
 unfold nG;rw [zx,zx]
 show gT (Af lo) (zK hi)=_
 clear h1 g1;generalize Af lo=L at *;generalize zK hi=H at *;generalize Af v0=l0 at *;generalize Af v1=l1 at *;generalize Af v2=l2 at *;generalize Af v3=l3 at *;generalize zK v0=u0 at *;generalize zK v1=u1 at *;generalize zK v2=u2 at *;generalize zK v3=u3 at *;obtain ⟨x0,y0⟩:=A0;obtain ⟨x1,y1⟩:=A1;obtain ⟨x2,y2⟩:=A2;obtain ⟨x3,y3⟩:=A3;obtain ⟨s0,t0⟩:=B0;obtain ⟨s1,t1⟩:=B1;obtain ⟨s2,t2⟩:=B2;obtain ⟨s3,t3⟩:=B3;simp only at q0 q1 q2 q3 p0 p1 p2 p3 ⊢
 by_cases hf:(y0&&t0&&(y1&&t1)&&(y2&&t2)&&(y3&&t3))=true
 ·rw [if_pos hf];simp only [aK] at hf;obtain ⟨⟨⟨⟨f1,f2⟩,f3,f4⟩,f5,f6⟩,f7,f8⟩:=hf;obtain ⟨rfl, -⟩:=q0.1 f1;obtain ⟨rfl, -⟩:=q1.1 f3;obtain ⟨rfl, -⟩:=q2.1 f5;obtain ⟨rfl, -⟩:=q3.1 f7;obtain ⟨rfl, -⟩:=p0.1 f2;obtain ⟨rfl, -⟩:=p1.1 f4;obtain ⟨rfl, -⟩:=p2.1 f6;obtain ⟨rfl, -⟩:=p3.1 f8
  have m1:L=[x0,x1,x2,x3].foldl min x0:=by
   simp only [List.foldl];omega
  have m2:H=[s0,s1,s2,s3].foldl max s0:=by
   simp only [List.foldl];omega
  rw [m1,m2]
 ·rw [if_neg hf]
  have hb:iG L H=false:=by
   refine Hy ?_
   have:y0=false∨t0=false∨y1=false∨t1=false∨y2=false∨t2=false∨y3=false∨t3=false:=by
    revert hf
    cases y0<;>cases t0<;>cases y1<;>cases t1<;>cases y2<;>cases t2<;>cases y3<;>cases t3<;>simp
   rcases this with h|h|h|h|h|h|h|h
   ·have:=q0.2 h;omega
   ·have:=p0.2 h;omega
   ·have:=q1.2 h;omega
   ·have:=p1.2 h;omega
   ·have:=q2.2 h;omega
   ·have:=p2.2 h;omega
   ·have:=q3.2 h;omega
   ·have:=p3.2 h;omega
  unfold gT;rw [hb];rfl
theorem Tg (x y:Int) (d:Nat) (up:Bool):WB x y d up=MN (Gr (x*y) d up):=rfl
theorem aq9 {q:Rat} {n:Int} {d:Nat} (hd:0<d) (h:q*((1000000000000:Int):Rat)=(n:Rat) / ((d:Int):Rat)):Af q=Gr n d false∧zK q=Gr n d true:=by
 unfold Af zK;rw [h]
 constructor
 ·rw [uW _ zo];rfl
 ·rw [xQ,← Rat.intCast_neg,uW _ zo];rfl
theorem Bd (x y:Int) (hy:y≠0):RI (fun x y up=>nS x 1000000000000 y up) (fun x y=>un x / un y) x y:=by
 have hE:=au6;have e1:=PY x;have e2:=PY y;have hy':(y:Rat)≠0:=fun h=>hy (by exact_mod_cast h);have hu:un y≠0:=fun h=>hy' (by rw [← e2,h];exact Rat.zero_mul _)
 have key:un x / un y*((1000000000000:Int):Rat)=(((if y<0 then -x else x)*1000000000000:Int):Rat) / ((y.natAbs:Int):Rat):=by
  have h1:un x / un y=(x:Rat) / (y:Rat):=by
   rw [← e1,← e2]
   grind
  rw [h1,Rat.intCast_mul]
  by_cases h:y<0
  ·rw [if_pos h];have:((y.natAbs:Int):Rat)= -(y:Rat):=by rw [← Rat.intCast_neg];congr 1;omega
   rw [this,Rat.intCast_neg]
   grind
  ·rw [if_neg h];have:((y.natAbs:Int):Rat)=(y:Rat):=by congr 1;omega
   rw [this]
   grind
 have h:=aq9 zo key;unfold RI nS;simp only [Tg];exact ⟨congrArg MN h.1.symm,congrArg MN h.2.symm⟩
theorem P5 (a b:Int × Int) (h1:b.1≠0) (h2:b.2≠0):nG (j6 (un a.1 / un b.1) [un a.1 / un b.2,un a.2 / un b.1,un a.2 / un b.2]) (iE (un a.1 / un b.1) [un a.1 / un b.2,un a.2 / un b.1,un a.2 / un b.2])=rO (fun x y up=>nS x 1000000000000 y up) a b :=
 PZ _ (fun x y=>un x / un y) a b (Bd _ _ h1) (Bd _ _ h2) (Bd _ _ h1) (Bd _ _ h2)
end Go.Proofs.aU
namespace Go.Proofs.aU
open Go Go.RowKit Go.SW Go.Num Go.Mem Go.Proofs Go.Dec Go.gD Go.Proofs.dH Go.Proofs.aH Go.Proofs.aC Go.Fx
end Go.Proofs.aU
namespace Go.Proofs.aC
open Go Go.RowKit Go.SW Go.Num Go.Mem Go.Proofs
theorem yQ (a:Nat):∀ k,sz 10000 (a^k)≤sz 10000 a*k+1
 | 0=>by rw [Nat.pow_zero];exact ay (cO zo 1 1 zo) zo
 | k+1=>by
  have h1:=kR (B:=10000) zo (a^k) a;have h2:=yQ a k;rw [bN,Nat.mul_succ];omega
theorem Ws {a:Int} {i n:Nat} (hi:i≤n) (h:sz 10000 a.natAbs*n≤1073741824):sz 10000 (a^i).natAbs≤1073741825:=by
 rw [Int.natAbs_pow];have h1:=yQ a.natAbs i;have h2:sz 10000 a.natAbs*i≤sz 10000 a.natAbs*n:=aR _ hi;omega
theorem vB (x:Value) (a:Int) (n:Nat) (w:World) (hx:Pl w x a) (hs:sz 10000 a.natAbs*n≤1073741824) (hs1:sz 10000 a.natAbs≤549755813888) (hn:n≤1000) :
  Calls Tryz.prog 280 #[x,Z I n] w (wV w (a^n)):=by
 obtain ⟨bA,pA,lA,cA,rfl⟩:=hx.agg;have NX:=zh hx;have HS:=zh hs;have HS1:=zh hs1;clear hx hs hs1;go_enter Tryz.func280,Tryz.ntmps280
 go_wp2_with fail
 obtain ⟨wx,EW,hz,X2,X4⟩:=Dz w #[ak bA,ah pA lA cA] 161 #[ak false,ah none 0 0] 161;rw [EW];clear EW;refine (jO 1 _ zo zo).mono ?_;rintro e w1 ⟨v1,rfl,hb1,hv1⟩;obtain ⟨b1,p1,l1,c1,rfl⟩:=hv1.agg;replace X2:=X2.bl hb1;replace X4:=X4.bl hb1;have HB:=zh (Bt hz hb1);have HV:=zh hv1;clear hz hb1 hv1;have e2:w.heap.size<w1.heap.size:=X2.out.lt;have e4:w.heap.size+1<w1.heap.size:=X4.out.lt;go_wp2_with fail
 obtain ⟨wy,EW,hz,X5⟩:=wR w1 #[ak b1,ah p1 l1 c1] 161;rw [EW];clear EW;have HV5:=zh (HV.out.later hz);replace X2:=X2.bl hz;replace X4:=X4.bl hz;replace HB:=zh (Bt HB.out hz);clear hz HV;obtain ⟨g,eg⟩:∃ y,w1.heap.size=y:=⟨_,rfl⟩;rw [eg] at X5 e2 e4 ⊢;clear eg
 go_loopw [6] (fun iv wr=>∃ (i:Nat) (b:Bool) (p:Option Addr) (l c:Nat),i≤n∧iv= Z I (i:Int)∧Hid (Pl wr (au #[ak b,ah p l c]) (a^i))∧Hid (aA wr g #[ak b,ah p l c] 161)∧Hid (aA wr w.heap.size #[ak bA,ah pA lA cA] 161)∧Hid (aA wr (w.heap.size+1) #[ak false,ah none 0 0] 161)∧Hid (Below w.heap.size w wr)) (fun iv _=>n - (intOf iv).toNat)
 case atStart=>exact ⟨0,_,_,_,_,Nat.zero_le _,rfl,by rw [Int.pow_zero];exact HV5,X5,X2,X4,HB⟩
 case round =>
  clear X5 X2 X4 HB HV5;obtain ⟨i,b,p,l,c,hi,rfl,HP,X5,X2,X4,HB⟩:=hrel
  rcases aO i n with hlt|hge
  ·obtain ⟨c2,l2⟩:=X2.cl;obtain ⟨c5,l5⟩:=X5.cl;have HT:=zh (jm _ _ (a^i) a wr HP.out (NX.out.later HB.out) (by have:=Ws (a:=a) hi HS.out;omega) HS1.out);have aP0:(i:Int)<9223372036854775807:=by omega
   go_wp2_with fail
   refine HT.out.mono ?_;rintro e w2 ⟨v2,rfl,hb2,hv2⟩;obtain ⟨b2,p2,l2',c2',rfl⟩:=hv2.agg;replace X5:=X5.bl hb2;replace X2:=X2.bl hb2;replace X4:=X4.bl hb2;replace HB:=zh (Bt HB.out hb2);have nu:=zh hv2;clear hb2 hv2 c2 l2 c5 l5 HT HP;obtain ⟨c5,l5,f5⟩:=X5.clf;go_wp2_with fail
   go_roundw
   case rel =>
    have hB:=HB.out;exact ⟨i+1,_,_,_,_,by omega,by go_num,by rw [Int.pow_succ];exact zh (nu.out.set2 X5.out zd _ _ _ _),zh ((X5.out.set 0 _).set 1 _),zh ((X2.out.setOther _ (by simp;omega)).setOther _ (by simp;omega)),zh ((X4.out.setOther _ (by simp;omega)).setOther _ (by simp;omega)),zh aF⟩
   case measure=>exact zM
  ·obtain rfl:i=n:=by omega
   obtain ⟨c5,l5⟩:=X5.cl;obtain ⟨c4,l4,f4⟩:=X4.clf;go_wp2_with fail
   have hx4:=X4.out;have hB:=HB.out;refine gF rfl rfl bf Tryz.underlying161 rfl zk ?_;exact ⟨_,rfl,aF,HP.out.set2 hx4 zd _ _ _ _⟩
end Go.Proofs.aC
namespace Go.Proofs.aH
open Go Go.RowKit Go.SW Go.Num Go.Mem Go.Proofs Go.Dec Go.Proofs.aC Go.gD
theorem Qj (q:Rat) (n:Nat):(q^n).num=q.num^n∧(((q^n).den:Nat):Int)=(q.den:Int)^n:=by
 rw [Rat.num_pow,Rat.den_pow,Int.natCast_pow];exact ⟨rfl,rfl⟩
theorem vB (x:Value) (p:Rat) (n:Nat) (w:World) (hx:Ra w x p) (h1:sz 10000 p.num.natAbs*n≤1073741824) (h2:sz 10000 p.den*n≤1073741824) (h3:sz 10000 p.num.natAbs≤549755813888) (h4:sz 10000 p.den≤549755813888) (hn:n≤1000):Calls Tryz.prog 235 #[x,Z I n] w (kS w (p^n)):=by
 obtain ⟨bA,kg,lA,kN,wP,lI,wG,lW,rfl,hA1,hA2⟩:=id hx;have NA:=zh hA1;have yM:=zh hA2;have S1:=zh h1;have S2:=zh h2;have S3:=zh h3;have S4:=zh h4;have HQ:=zh (Qj p n);clear hx hA1 hA2 h1 h2 h3 h4;go_enter Tryz.func235,Tryz.ntmps235
 go_wp2_with fail
 obtain ⟨lZ,EW,hz,X1,X2⟩:=Dz w #[ak bA,ah kg lA kN,ak wP,ah lI wG lW] 163 #[ak false,ah none 0 0,ak false,ah none 0 0] 163;rw [EW];replace NA:=zh (NA.out.later hz);replace yM:=zh (yM.out.later hz);have hk2:=Bt (Below.refl _ _) hz;clear EW hz;obtain ⟨kZ,kY,ni⟩:=X1.clf;refine aJ [(.pure,0),(.read,1),(.pure,2),(.pure,4),(.read,5),(.pure,6),(.ext,3),(.ext,7),(.pure,8),(.fin,9)] zk zk zR zP ?_;refine zV ?_;refine aS rfl rfl (fun V7 hb3 J hJ=>?_);go_simp;have hh3:Below lZ.heap.size lZ V7:=aF;clear hb3;refine (aC.vB _ _ _ _ (NA.out.later hh3) S1.out S3.out hn).mono ?_;rintro e Oc ⟨v,rfl,hb4,hv5⟩;obtain ⟨bC,paC,lC,caC,rfl⟩:=hv5.agg;refine hJ _ _ hb4 ?_;clear hJ J;have OM:=Bt hh3 hb4;have NC:=zh hv5;clear hh3 hb4 hv5;refine zV ?_;refine aS rfl rfl (fun Dy hb6 J hJ=>?_);go_simp
 have sW:Below lZ.heap.size lZ Dy:=Bt OM aF;replace NC:=zh (NC.out.later (show Below Oc.heap.size Oc Dy from aF));clear hb6 OM;refine (aC.vB _ _ _ _ (yM.out.later sW) (by rw [Int.natAbs_natCast];exact S2.out) (by rw [Int.natAbs_natCast];exact S4.out) hn).mono ?_;rintro e sJ ⟨v,rfl,jP,qC⟩;obtain ⟨bD,paD,lD,caD,rfl⟩:=qC.agg;refine hJ _ _ jP ?_;clear hJ J;have Ad:=Bt sW jP;replace NC:=zh (NC.out.later jP);have ND:=zh qC;clear sW jP qC;refine zV ?_;refine dA [_] rfl (fun K9 hf9=>?_);replace NC:=zh (NC.out.later (show Below sJ.heap.size sJ K9 from aF));replace ND:=zh (ND.out.later (show Below sJ.heap.size sJ K9 from aF));have nJ:Below lZ.heap.size lZ K9:=Bt Ad aF;clear hf9 Ad;clear kZ kY ni;replace NA:=zh (NA.out.later nJ);replace yM:=zh (yM.out.later nJ);replace X1:=X1.bl nJ;replace X2:=X2.bl nJ
 have hk10:=Bt hk2 nJ;clear hk2;clear nJ;obtain ⟨sP,sO,wK⟩:=X2.clf;have hres:=X2.out;have Df:=hres.cell;have CV:=hres.free;go_wp2_with fail
 refine gF rfl rfl bf Tryz.underlying163 rfl zk ?_;exact ⟨_,rfl,aF,_,_,_,_,_,_,_,_,rfl,by rw [HQ.out.1];exact Pl.xH NC.out hres zd _ _ _ _,by rw [HQ.out.2];exact Pl.xH ND.out hres zd _ _ _ _⟩
end Go.Proofs.aH
namespace Go.Proofs.aU
open Go Go.RowKit Go.SW Go.Num Go.Mem Go.Proofs Go.Dec Go.gD Go.Proofs.dH Go.Proofs.aH
theorem q9 (lo hi:Int) (w:World):Calls Tryz.prog 164 #[au #[Z I lo,Z I hi]] w (fun e w'=>e= aj (ak (iG lo hi))∧Below w.heap.size w w'):=by
 unfold iG;cases h1:decide (-1000000000000000000≤lo)<;>cases h2:decide (lo≤hi)<;>cases h3:decide (hi≤1000000000000000000)
 all_goals
  go_enter Tryz.func164,Tryz.ntmps164
  go_wp2_with fail
  go_ret
  exact ⟨rfl,aF⟩
theorem yI (n:Nat) (hn:n≤2000000000000000000) (w:World):Calls Tryz.prog 216 #[Z I n] w (kS w (rN n)):=by
 have H:=zh (fun W=>rz (n:Int) 1000000000000 zo zo zo zo zo W);have e:(((n:Int):Rat) / ((1000000000000:Int):Rat))=rN n:=rfl;rw [e] at H;generalize rN n=q at *;go_enter Tryz.func216,Tryz.ntmps216
 go_wp2_with fail
 obtain ⟨lZ,EW,hz,X1⟩:=wR w #[ak false,ah none 0 0,ak false,ah none 0 0] 163;rw [EW];have hk2:=Bt (Below.refl _ _) hz;clear EW hz;refine (H.out _).mono ?_;rintro e oo ⟨v,rfl,hb3,hv4⟩;obtain ⟨bC,paC,lC,caC,bCd,aw4,lCd,aC2,rfl,hx4,hy4⟩:=id hv4;replace X1:=X1.bl hb3;have hk5:=Bt hk2 hb3;clear hk2;have QC:=zh hv4;clear hb3 hv4 hx4 hy4;obtain ⟨kZ,kY,ni⟩:=X1.clf;have hres:=X1.out;have Df:=hres.cell;have CV:=hres.free;go_wp2_with fail
 refine gF rfl rfl bf Tryz.underlying163 rfl zk ?_;exact ⟨_,rfl,aF,Ra.xH QC.out hres zd _ _ _ _⟩
def abE (lo hi:Int):(Int × Int) × Int:=if iG lo hi=false then ((0,0),30) else if 0≤lo then ((lo,hi),0) else if hi≤0 then ((-hi, -lo),0) else ((0,max (-lo) hi),0)
theorem N9 (lo hi:Int) (w:World):Calls Tryz.prog 233 #[au #[Z I lo,Z I hi]] w (fun e w'=>e= aj (d9 (abE lo hi))∧Below w.heap.size w w'):=by
 have H:=zh (fun W=>q9 lo hi W);have HB:iG lo hi=true→ -1000000000000000000≤lo∧lo≤hi∧hi≤1000000000000000000:=fun h=>by simpa [iG] using h
 unfold abE;generalize hb:iG lo hi=b at *;unfold d9;have h0:Below w.heap.size w ((w.alloc (.cells #[Z I lo,Z I hi] 40)).alloc (.cells #[Z I 0,Z I 0] 40)):=aF;go_enter Tryz.func233,Tryz.ntmps233
 go_wp2_with fail
 obtain ⟨wx,EW,hz,X1,X2⟩:=Dz w #[Z I lo,Z I hi] 40 #[Z I 0,Z I 0] 40;rw [EW];clear EW h0;refine (H.out _).mono ?_;rintro e w1 ⟨rfl,hb1⟩;replace X1:=X1.bl hb1;replace X2:=X2.bl hb1;replace hz:=Bt hz hb1;clear hb1 H;obtain ⟨c1,l1⟩:=X1.cl;obtain ⟨c2,l2,f2⟩:=X2.clf;have x2:=X2.out;cases b
 ·go_wp2_with fail
  refine bH rfl rfl bf Tryz.underlying40 rfl zk ?_;exact ⟨rfl,aF⟩
 ·obtain ⟨k1,k2,k3⟩:=HB rfl;clear HB
  by_cases g1:0≤lo
  ·go_wp2_with fail
   refine bH rfl rfl bf Tryz.underlying40 rfl zk ?_;exact ⟨by simp [g1],aF⟩
  ·by_cases g2:hi≤0
   ·have w1:I.wrap (-hi)= -hi:=by rw [IntKind.wrap_i64];omega
    have w2:I.wrap (-lo)= -lo:=by rw [IntKind.wrap_i64];omega
    go_wp2_with fail
    refine bH rfl rfl bf Tryz.underlying40 rfl zk ?_;exact ⟨by simp [g1,g2],aF⟩
   ·have w2:I.wrap (-lo)= -lo:=by rw [IntKind.wrap_i64];omega
    go_wp2_with fail
    all_goals
     refine bH rfl rfl bf Tryz.underlying40 rfl zk ?_;exact ⟨by simp [g1,g2]<;>omega,aF⟩
end Go.Proofs.aU
namespace Go.Proofs.fF
open Go Go.RowKit Go.SW Go.Num Go.Mem Go.Proofs Go.Dec Go.gD Go.Proofs.dH Go.Proofs.aH Go.Proofs.aU Go.Proofs.power
theorem jK (lo hi:Int) (w:World):Calls Tryz.prog 236 #[Z I lo,Z I hi] w (fun e w'=>e= aj (d9 (gT lo hi))∧Below w.heap.size w w'):=by
 have H:=zh (fun W=>q9 lo hi W);unfold gT;generalize iG lo hi=b at *;unfold d9;cases b
 all_goals
  go_enter Tryz.func236,Tryz.ntmps236
  go_wp2_with fail
  obtain ⟨wx,EW,hz,X1,X2⟩:=Dz w #[Z I 0,Z I 0] 40 #[Z I lo,Z I hi] 40;rw [EW];clear EW;refine (H.out _).mono ?_;rintro e w1 ⟨rfl,hb1⟩;replace X1:=X1.bl hb1;replace X2:=X2.bl hb1;replace hz:=Bt hz hb1;clear hb1;obtain ⟨c2,l2⟩:=X2.cl;obtain ⟨c1,l1,f1⟩:=X1.clf;have x1:=X1.out;go_wp2_with fail
  refine bH rfl rfl bf Tryz.underlying40 rfl zk ?_;exact ⟨rfl,aF⟩
theorem am6 {n:Nat} (h:n≤10^18+1):sz 10000 (rN n).num.natAbs≤5∧sz 10000 (rN n).den≤5:=by
 obtain ⟨h1,h2⟩:=Jc n;rw [h1,h2,Int.natAbs_natCast];have a:n / n.gcd 1000000000000≤n:=Nat.div_le_self _ _;have b:1000000000000 / n.gcd 1000000000000≤1000000000000:=Nat.div_le_self _ _;exact ⟨cO zo _ _ zo,cO zo _ _ zo⟩
theorem uO (n q:Nat) (h:n≤10^18+1) (hq:q≤36) (x:Value) (w:World) (hx:Ra w x (rN n)):Calls Tryz.prog 235 #[x,Z I q] w (kS w (rN n^q)):=by
 obtain ⟨h1,h2⟩:=am6 h;exact aH.vB x _ q w hx (by have:=dP h1 hq;omega) (by have:=dP h2 hq;omega) zo zo zo
structure ag5 (X:Rat) (q r:Nat):Prop where
 Ot:q≤12
 big:jw 10000000000 X
 iff:∀ m,oK (rN m^q) X≤0↔m≤r
theorem OY (x:Value) (X:Rat) (q r:Nat) (w:World) (hx:Ra w x X) (hs:ag5 X q r):Calls Tryz.prog 237 #[x,Z I q] w (fun e w'=>e= aj (Z I (min r 1000000000000000001:Nat))∧Below w.heap.size w w'):=by
 obtain ⟨bA,kg,lA,kN,wP,lI,wG,lW,rfl, -⟩:=id hx;have NX:=zh hx;have HS:=zh hs;clear hx hs;go_enter Tryz.func237,Tryz.ntmps237
 go_wp2_with fail
 obtain ⟨wx,EW,hz,X2⟩:=wR w #[ak bA,ah kg lA kN,ak wP,ah lI wG lW] 163;rw [EW];clear EW;have HB:=zh hz;clear hz
 go_loopw [5,6,7] (fun lv hv _ wr=>∃ (lo hi:Nat),lv= Z I (lo:Int)∧hv= Z I (hi:Int)∧Hid (lo<hi)∧Hid (hi≤1000000000000000002)∧Hid (lo≤r)∧Hid (hi=1000000000000000002∨r<hi)∧Hid (aA wr w.heap.size #[ak bA,ah kg lA kN,ak wP,ah lI wG lW] 163)∧Hid (Below w.heap.size w wr)) (fun lv hv _ _=>(intOf hv - intOf lv).toNat)
 case atStart=>exact ⟨0,1000000000000000002,rfl,rfl,zh zo,zh zo,zh zo,zh (.inl rfl),X2,HB⟩
 case round =>
  clear X2 HB;obtain ⟨lo,hi,rfl,rfl,Y9,Yo,HL,HR,X2,HB⟩:=hrel;have k1:=Y9.out;have k2:=Yo.out
  by_cases hgt:1<hi - lo
  ·have hg1:(1:Int)<(hi:Int) - (lo:Int):=by omega
   obtain ⟨m,hm⟩:∃ m,(lo+hi) / 2=m:=⟨_,rfl⟩;have Um:Int.tdiv ((lo:Int)+(hi:Int)) 2=(m:Int):=by rw [Int.tdiv_eq_ediv_of_nonneg zo];omega
   have HM:Hid (lo<m∧m<hi):=zh zo;obtain ⟨c2,l2⟩:=X2.cl;go_wp2_with fail
   clear Um hg1 hgt hm;refine aJ [(.pure,0),(.pure,2),(.read,4),(.ext,1),(.ext,3),(.ext,5),(.pure,6)] zk zk zR zP ?_;refine Wk.out ?_;refine zS ?_;refine fM rfl rfl (fun w1 hb1 J hJ=>?_);have hz1:Below wr.heap.size wr w1:=aF;go_simp;refine (yI m (by have:=HM.out;omega) w1).mono ?_;rintro e w2 ⟨v2,rfl,hb2,hv2⟩;refine hJ _ _ hb2 ?_;have hz2:=Bt hz1 hb2;obtain ⟨b2,p2,n2,e2,d2,p2d,n2d,e2d,rfl, -⟩:=id hv2;have HV:=zh hv2;clear hJ J hv2 hb1 hb2 hz1;refine zS ?_;refine fM rfl rfl (fun w3 hb3 J hJ=>?_);have hz3:=Bt hz2 hb3;go_simp;refine (uO m q (by have:=HM.out;omega) (by have:=HS.out.Ot;omega) _ w3 (HV.out.later hb3)).mono ?_;rintro e w4 ⟨v4,rfl,hb4,hv4⟩;refine hJ _ _ hb4 ?_;have hz4:=Bt hz3 hb4;obtain ⟨b4,p4,n4,e4,d4,p4d,n4d,e4d,rfl, -⟩:=id hv4;replace HV:=zh hv4;clear hJ J hv4 hb3 hb4 hz3 hz2;refine zS ?_;refine fM rfl rfl (fun w5 hb5 J hJ=>?_)
   have hz5:=Bt hz4 hb5;go_simp;refine (aH.jS _ _ (rN m^q) X w5 (HV.out.later hb5) (NX.out.later (Bt HB.out hz5)) ((jJ (uP (by have:=HM.out;omega) HS.out.Ot)).mono zo) HS.out.big).mono ?_;rintro e w6 ⟨rfl,hb6⟩;refine hJ _ _ hb6 ?_;have Uf:=Bt hz5 hb6;clear hJ J hb5 hb6 hz5 hz4 HV c2 l2;have HI:=zh (HS.out.iff m);generalize oK (rN m^q) X=cv at *
   by_cases hle:m≤r
   ·have hcv:cv≤0:=HI.out.2 hle;have FY:=zh hle;clear hle;refine zS ?_;refine nD fun wf hbf=>?_;replace X2:=(X2.bl Uf).bl hbf;replace HB:=zh (Bt (Bt HB.out Uf) hbf);clear Uf hbf;go_wp2_with fail
    go_roundw
    case rel=>exact ⟨m,hi,rfl,rfl,zh HM.out.2,Yo,FY,HR,X2,HB⟩
    case measure=>have:=HM.out;simp [intOf];omega
   ·have hcv:¬ cv≤0:=fun h=>hle (HI.out.1 h);have FY:=zh (Nat.lt_of_not_le hle);clear hle;refine zS ?_;refine nD fun wf hbf=>?_;replace X2:=(X2.bl Uf).bl hbf;replace HB:=zh (Bt (Bt HB.out Uf) hbf);clear Uf hbf;go_wp2_with fail
    go_roundw
    case rel=>exact ⟨lo,m,rfl,rfl,zh HM.out.1,zh (by have:=HM.out;omega),HL,zh (.inr FY.out),X2,HB⟩
    case measure=>have:=HM.out;simp [intOf];omega
  ·have hg1:¬ (1:Int)<(hi:Int) - (lo:Int):=by omega
   obtain rfl:hi=lo+1:=by omega
   have HE:Hid (lo=min r 1000000000000000001):=zh (by have:=HL.out;have:=HR.out;omega);go_wp2_with fail
   go_ret
   exact ⟨by rw [← HE.out];rfl,HB.out⟩
def Wh (X:Rat) (q r:Nat):Nat:=if oK (rN (min r 1000000000000000001)^q) X<0 then min r 1000000000000000001+1 else min r 1000000000000000001
theorem am1 (x:Value) (X:Rat) (q r:Nat) (w:World) (hx:Ra w x X) (hs:ag5 X q r):Calls Tryz.prog 238 #[x,Z I q] w (fun e w'=>e= aj (Z I (Wh X q r:Nat))∧Below w.heap.size w w'):=by
 obtain ⟨bA,kg,lA,kN,wP,lI,wG,lW,rfl, -⟩:=id hx;have NX:=zh hx;have HS:=zh hs;clear hx hs;obtain ⟨U,EU⟩:∃ y,Wh X q r=y:=⟨_,rfl⟩;rw [EU];have HU:=zh EU;clear EU;unfold Wh at HU;have hD:=zh (fun (v:Value) W (h:Ra W v X)=>OY v X q r W h HS.out);have hm:min r 1000000000000000001≤1000000000000000001:=by omega
 generalize min r 1000000000000000001=m at *;have HM:=zh hm;go_enter Tryz.func238,Tryz.ntmps238
 go_wp2_with fail
 obtain ⟨wx,EW,hz,X2⟩:=wR w #[ak bA,ah kg lA kN,ak wP,ah lI wG lW] 163;rw [EW];clear EW;refine (hD.out _ _ (NX.out.later hz)).mono ?_;rintro e wr ⟨rfl,hb⟩;replace X2:=X2.bl hb;have HB:=zh (Bt hz hb);clear hz hb hD;obtain ⟨c2,l2⟩:=X2.cl;go_wp2_with fail
 refine aJ [(.pure,0),(.pure,2),(.read,4),(.ext,1),(.ext,3),(.ext,5),(.pure,6)] zk zk zR zP ?_;refine Wk.out ?_;refine zS ?_;refine fM rfl rfl (fun w1 hb1 J hJ=>?_);have hz1:Below wr.heap.size wr w1:=aF;go_simp;refine (yI m (by have:=HM.out;omega) w1).mono ?_;rintro e w2 ⟨v2,rfl,hb2,hv2⟩;refine hJ _ _ hb2 ?_;have hz2:=Bt hz1 hb2;obtain ⟨b2,p2,n2,e2,d2,p2d,n2d,e2d,rfl, -⟩:=id hv2;have HV:=zh hv2;clear hJ J hv2 hb1 hb2 hz1;refine zS ?_;refine fM rfl rfl (fun w3 hb3 J hJ=>?_);have hz3:=Bt hz2 hb3;go_simp;refine (uO m q (by have:=HM.out;omega) (by have:=HS.out.Ot;omega) _ w3 (HV.out.later hb3)).mono ?_;rintro e w4 ⟨v4,rfl,hb4,hv4⟩;refine hJ _ _ hb4 ?_;have hz4:=Bt hz3 hb4;obtain ⟨b4,p4,n4,e4,d4,p4d,n4d,e4d,rfl, -⟩:=id hv4;replace HV:=zh hv4;clear hJ J hv4 hb3 hb4 hz3 hz2;refine zS ?_;refine fM rfl rfl (fun w5 hb5 J hJ=>?_);have hz5:=Bt hz4 hb5;go_simp
 refine (aH.jS _ _ (rN m^q) X w5 (HV.out.later hb5) (NX.out.later (Bt HB.out hz5)) ((jJ (uP (by have:=HM.out;omega) HS.out.Ot)).mono zo) HS.out.big).mono ?_;rintro e w6 ⟨rfl,hb6⟩;refine hJ _ _ hb6 ?_;have Uf:=Bt hz5 hb6;clear hJ J hb5 hb6 hz5 hz4 HV c2 l2;generalize oK (rN m^q) X=cv at *
 by_cases hcv:cv<0
 ·rw [if_pos hcv] at HU;have hw:I.wrap ((m:Int)+1)=(m:Int)+1:=by rw [IntKind.wrap_i64];omega
  refine zS ?_;refine nD fun wf hbf=>?_;replace HB:=zh (Bt (Bt HB.out Uf) hbf);clear Uf hbf;go_wp2_with fail
  go_ret
  exact ⟨by rw [← HU.out];rfl,HB.out⟩
 ·rw [if_neg hcv] at HU;refine zS ?_;refine nD fun wf hbf=>?_;replace HB:=zh (Bt (Bt HB.out Uf) hbf);clear Uf hbf;go_wp2_with fail
  go_ret
  exact ⟨by rw [← HU.out];rfl,HB.out⟩
end Go.Proofs.fF
namespace Go.Proofs.aH
open Go Go.RowKit Go.SW Go.Num Go.Mem Go.Proofs Go.Dec Go.Proofs.aC Go.gD
theorem oC (n d:Int) (h1: -9223372036854775808≤n) (h2:n≤9223372036854775807) (h3: -9223372036854775808≤d) (h4:d≤9223372036854775807) (w:World) :
  Calls Tryz.prog 118 #[Z I n,Z I d] w (qK w (qM n d)):=by
 unfold qM
 by_cases hd:d=0
 ·subst hd;rw [if_pos rfl];clear h1 h2 h3 h4;go_enter Tryz.func118,Tryz.ntmps118
  go_wp2_with fail
  refine bH rfl rfl bf Tryz.underlying32 rfl zk ?_;exact ⟨rfl,aF⟩
 ·rw [if_neg hd];have H1:=zh (fun W=>rz n d h1 h2 h3 h4 hd W);obtain ⟨l1,l2⟩:=GQ (n:=n) hd;have H2:=zh (fun x W hx=>uI x ((n:Rat) / (d:Rat)) W hx (ay (gu zo l1) (ay (Gj h1 h2) zo)) (ay (gu zo l2) (ay (Gj h3 h4) zo)));clear l1 l2;generalize (n:Rat) / (d:Rat)=q at *;obtain ⟨⟨⟨s1,s2⟩,k⟩,E⟩:∃ y,wr q=y:=⟨_,rfl⟩;rw [E] at H2 ⊢;replace H2:Hid (∀ x W,Ra W x q→Calls Tryz.prog 133 #[x] W (fun e w'=>e= aj (aG #[au #[O s1,O s2],Z I k])∧Below W.heap.size W w')):=H2;clear E h1 h2 h3 h4;go_enter Tryz.func118,Tryz.ntmps118
  go_wp2_with fail
  obtain ⟨lZ,EW,hz,X1⟩:=wR w #[O ⟨#[]⟩,O ⟨#[]⟩] 32;rw [EW];have hk2:=Bt (Below.refl _ _) hz;clear EW hz;refine (H1.out _).mono ?_;rintro e oo ⟨vq,rfl,hb3,hq⟩;replace X1:=X1.bl hb3;have hk5:=Bt hk2 hb3;clear hk2;have NQ:=zh hq;clear hb3 hq;go_wp2_with fail
  refine (H2.out _ _ NQ.out).mono ?_;rintro e vI ⟨rfl,hb6⟩;replace X1:=X1.bl hb6;replace NQ:=zh (NQ.out.later hb6);have JG:=Bt hk5 hb6;clear hk5;clear hb6;obtain ⟨kZ,kY,ni⟩:=X1.clf;have hres:=X1.out;have Df:=hres.cell;have CV:=hres.free;go_wp2_with fail
  refine bH rfl rfl bf Tryz.underlying32 rfl zk ?_;exact ⟨rfl,aF⟩
end Go.Proofs.aH
namespace Go.gD
open Go Go.Num Go.Proofs
def Hq (k:Nat) (q:Rat):Prop:=∃ n d:Int,0<d∧d.natAbs≤jZ k∧n.natAbs≤jZ k∧q=(n:Rat) / (d:Rat)
theorem xw (a b:Nat):jZ (a+b)=jZ a*jZ b:=fQ _ _ _
theorem P7 {a b:Nat} (h:a≤b):jZ a≤jZ b:=bI zo h
theorem Wo {a b:Nat} (h:a<b):jZ a<jZ b:=Nat.pow_lt_pow_right zo h
theorem Hq.mono {a b:Nat} {q:Rat} (h:Hq a q) (k:a≤b):Hq b q:=by
 obtain ⟨n,d,h1,h2,h3,h4⟩:=h;have:=P7 k;exact ⟨n,d,h1,by omega,by omega,h4⟩
theorem Hq.ok {a:Nat} {q:Rat} (h:Hq a q) (k:a<600):xO q=true:=by
 obtain ⟨n,d,h1,h2,h3,rfl⟩:=h;obtain ⟨l1,l2⟩:=aH.GQ (n:=n) (d:=d) zo;have:=Wo k;unfold xO kI;generalize jZ 600=X at *;rw [aK];exact ⟨decide_eq_true zo,decide_eq_true zo⟩
theorem yF {d:Int} (h:0<d):(d:Rat)≠0:=fun e=>by
 have:d=0:=by exact_mod_cast e
 omega
theorem Hq.mul {a b:Nat} {p q:Rat} (h:Hq a p) (k:Hq b q):Hq (a+b) (p*q):=by
 obtain ⟨n,d,h1,h2,h3,rfl⟩:=h;obtain ⟨n',d',k1,k2,k3,rfl⟩:=k;refine ⟨n*n',d*d',Int.mul_pos h1 k1,?_,?_,?_⟩
 ·rw [xw,Int.natAbs_mul];exact dP h2 k2
 ·rw [xw,Int.natAbs_mul];exact dP h3 k3
 ·have e1:=yF h1;have e2:=yF k1;rw [Rat.intCast_mul,Rat.intCast_mul]
  grind
theorem Hq.add {a b:Nat} {p q:Rat} (h:Hq a p) (k:Hq b q):Hq (a+b+1) (p+q):=by
 obtain ⟨n,d,h1,h2,h3,rfl⟩:=h;obtain ⟨n',d',k1,k2,k3,rfl⟩:=k;have t:jZ (a+b+1)=10*(jZ a*jZ b):=by rw [xw,xw];show _*10=_;omega
 refine ⟨n*d'+n'*d,d*d',Int.mul_pos h1 k1,?_,?_,?_⟩
 ·have:=dP h2 k2;rw [t,Int.natAbs_mul];omega
 ·have x1:=dP h3 k2;have x2:=dP k3 h2;rw [aL (jZ b)] at x2;have x3:=Int.natAbs_add_le (n*d') (n'*d);rw [Int.natAbs_mul,Int.natAbs_mul] at x3;rw [t];omega
 ·have e1:=yF h1;have e2:=yF k1;rw [Rat.intCast_add,Rat.intCast_mul,Rat.intCast_mul,Rat.intCast_mul]
  grind
theorem Hq.neg {a:Nat} {p:Rat} (h:Hq a p):Hq a (-p):=by
 obtain ⟨n,d,h1,h2,h3,rfl⟩:=h;exact ⟨-n,d,h1,h2,by rw [Int.natAbs_neg];exact h3,by rw [Rat.intCast_neg];grind⟩
theorem Hq.sub {a b:Nat} {p q:Rat} (h:Hq a p) (k:Hq b q):Hq (a+b+1) (p - q):=by
 rw [Rat.sub_eq_add_neg];exact h.add k.neg
theorem Hq.zero:Hq 0 0:=⟨0,1,by omega,by decide,by decide,by decide+kernel⟩
theorem Hq.one:Hq 0 1:=⟨1,1,by omega,by decide,by decide,by decide+kernel⟩
end Go.gD
namespace Go.Proofs
open Go Go.RowKit Go.SW Go.Num Go.Mem Go.gD
theorem aC8 {s t s' t' y y':ByteArray} {k:Int} (hx:qJ ⟨s,t⟩ ⟨s',t'⟩=(⟨y,y'⟩,k)) (w:World) (ht:jH.Pow w):Calls Tryz.prog 168 #[au #[O s,O t],au #[O s',O t']] w (fun e w'=>e= aj (aG #[au #[O y,O y'],Z I k])∧Below w.heap.size w w'):=by
 have h:=fu.zJ ⟨s,t⟩ ⟨s',t'⟩ w ht;rw [hx] at h;exact h
theorem aC3 {s t s' t' y y':ByteArray} {k:Int} (hx:rJ ⟨s,t⟩ ⟨s',t'⟩=(⟨y,y'⟩,k)) (w:World) (ht:jH.Pow w):Calls Tryz.prog 171 #[au #[O s,O t],au #[O s',O t']] w (fun e w'=>e= aj (aG #[au #[O y,O y'],Z I k])∧Below w.heap.size w w'):=by
 have h:=fu.Dp ⟨s,t⟩ ⟨s',t'⟩ w ht;rw [hx] at h;exact h
theorem aC5 {s t s' t' y y':ByteArray} {k:Int} (hx:nH ⟨s,t⟩ ⟨s',t'⟩=(⟨y,y'⟩,k)) (w:World) (ht:jH.Pow w):Calls Tryz.prog 18 #[au #[O s,O t],au #[O s',O t']] w (fun e w'=>e= aj (aG #[au #[O y,O y'],Z I k])∧Below w.heap.size w w'):=by
 have h:=fu.Dr ⟨s,t⟩ ⟨s',t'⟩ w ht;rw [hx] at h;exact h
theorem aC6 {s t s' t' y y':ByteArray} {k:Int} (hx:nk ⟨s,t⟩ ⟨s',t'⟩=(⟨y,y'⟩,k)) (w:World) (ht:jH.Pow w):Calls Tryz.prog 128 #[au #[O s,O t],au #[O s',O t']] w (fun e w'=>e= aj (aG #[au #[O y,O y'],Z I k])∧Below w.heap.size w w'):=by
 have h:=fu.sI ⟨s,t⟩ ⟨s',t'⟩ w ht;rw [hx] at h;exact h
theorem aC7 {s t s' t':ByteArray} {v k:Int} (hx:Hw ⟨s,t⟩ ⟨s',t'⟩=(v,k)) (w:World):Calls Tryz.prog 19 #[au #[O s,O t],au #[O s',O t']] w (fun e w'=>e= aj (aG #[Z I v,Z I k])∧Below w.heap.size w w'):=by
 have h:=fu.VG ⟨s,t⟩ ⟨s',t'⟩ w;rw [hx] at h;exact h
theorem U8 {s t:ByteArray} {v k:Int} (hx:kF ⟨s,t⟩=(v,k)) (w:World):Calls Tryz.prog 104 #[au #[O s,O t]] w (fun e w'=>e= aj (aG #[Z I v,Z I k])∧Below w.heap.size w w'):=by
 have h:=fu.sG ⟨s,t⟩ w;rw [hx] at h;exact h
theorem cOf {n d:Int} {y y':ByteArray} {k:Int} (hx:qM n d=(⟨y,y'⟩,k)) (w:World) (ht:jH.Pow w) (n0: -9223372036854775808≤n:=by omega) (n1:n≤9223372036854775807:=by omega) (d0: -9223372036854775808≤d:=by omega) (d1:d≤9223372036854775807:=by omega) :
  Calls Tryz.prog 115 #[.int .i64 n,.int .i64 d] w (fun e w'=>e= .returned (.tuple #[.agg #[.string y,.string y'],.int .i64 k])∧Below w.heap.size w w'):=by
 have h:=fu.oC n d n0 n1 d0 d1 w ht;rw [hx] at h;exact h
theorem XV {s t:ByteArray} {x y k:Int} (hx:dH.jl ⟨s,t⟩=((x,y),k)) (w:World) (ht:jH.Pow w) (he:whole.Er w):Calls Tryz.prog 36 #[au #[O s,O t]] w (fun e w'=>e= aj (aG #[au #[Z I x,Z I y],Z I k])∧Below w.heap.size w w'):=by
 have h:=dH.zI ⟨s,t⟩ w ht he;rw [hx] at h;exact h
theorem ar3 {lo hi q x y k:Int} (hx:power.ZC lo hi 1 q=((x,y),k)) (w:World) (ht:jH.Pow w) (he:whole.Er w):Calls Tryz.prog 124 #[au #[Z I lo,Z I hi],Z I q] w (fun e w'=>e= aj (aG #[au #[Z I x,Z I y],Z I k])∧Below w.heap.size w w'):=by
 have h:=power.Ib lo hi q w ht he;rw [hx] at h;exact h
theorem Va {x y x' y' u v k:Int} (hx:dH.Li (x,y) (x',y')=((u,v),k)) (w:World):Calls Tryz.prog 50 #[au #[Z I x,Z I y],au #[Z I x',Z I y']] w (fun e w'=>e= aj (aG #[au #[Z I u,Z I v],Z I k])∧Below w.heap.size w w'):=by
 have h:=dH.Dp x y x' y' w;rw [hx] at h;exact h
theorem ar4 {x y x' y' u v k:Int} (hx:dH.yA (x,y) (x',y')=((u,v),k)) (w:World):Calls Tryz.prog 74 #[au #[Z I x,Z I y],au #[Z I x',Z I y']] w (fun e w'=>e= aj (aG #[au #[Z I u,Z I v],Z I k])∧Below w.heap.size w w'):=by
 have h:=dH.sI x y x' y' w;rw [hx] at h;exact h
theorem XT {x y n d u v k:Int} (hx:dH.I5 (x,y) n d=((u,v),k)) (w:World):Calls Tryz.prog 130 #[au #[Z I x,Z I y],Z I n,Z I d] w (fun e w'=>e= aj (aG #[au #[Z I u,Z I v],Z I k])∧Below w.heap.size w w'):=by
 have h:=dH.Vm x y n d w;rw [hx] at h;exact h
theorem XU {x y n d u v k:Int} (hx:dH.AJ (x,y) n d=((u,v),k)) (w:World):Calls Tryz.prog 73 #[au #[Z I x,Z I y],Z I n,Z I d] w (fun e w'=>e= aj (aG #[au #[Z I u,Z I v],Z I k])∧Below w.heap.size w w'):=by
 have h:=dH.yO x y n d w;rw [hx] at h;exact h
theorem ae5 {n u v k:Int} (hx:dH.VI n=((u,v),k)) (w:World):Calls Tryz.prog 131 #[Z I n] w (fun e w'=>e= aj (aG #[au #[Z I u,Z I v],Z I k])∧Below w.heap.size w w'):=by
 have h:=dH.Vq n w;rw [hx] at h;exact h
def ZE (a:Fr) (n:Nat):Fr × Int:=match rd a with
 | some p=>wr (p^n)
 | none=>(Fr.no,20)
theorem aC4 {s t y y':ByteArray} {n:Nat} {k:Int} (hx:ZE ⟨s,t⟩ n=(⟨y,y'⟩,k)) (w:World) (ht:jH.Pow w) (h:∃ p,rd ⟨s,t⟩=some p∧0≤p) (n40:n≤40:=by omega):Calls Tryz.prog 127 #[.agg #[.string s,.string t],.int .i64 (n:Int)] w (fun e w'=>e= .returned (.tuple #[.agg #[.string y,.string y'],.int .i64 k])∧Below w.heap.size w w'):=by
 obtain ⟨p,hp,h0⟩:=h;obtain ⟨e,ok⟩:=nT hp;have h:=fu.wU p n ok h0 n40 w ht;unfold ZE at hx;rw [hp] at hx;replace hx:wr (p^n)=(⟨y,y'⟩,k):=hx;rw [hx,← e] at h;exact h
end Go.Proofs
