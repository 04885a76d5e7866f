/- Lemmas for the proof. No condition. -/
import Derived.Test.YtbngfhgoeoncmaaGreatDoorWB17
set_option linter.unusedVariables false
set_option linter.unusedSimpArgs false
set_option maxRecDepth 100000
set_option maxHeartbeats 16000000
open Bool renaming and_eq_true → aF
open Go.Ending renaming returned → aj
open Go.IntKind renaming i64 → I
open Go.Value renaming agg → aB, bool → ak, int → Z, pointer → ay, string → O, tuple → aD
open Nat renaming le_trans → au
open Prod.mk renaming injEq → fP
namespace Go.Proofs.aS
open Go Go.RowKit Go.SW Go.Num Go.Mem Go.Proofs Go.Dec Go.Proofs.aK Go.fG Go.Fx
theorem uH {a:Fr} {q:Rat} (h:rd a=some q):mQ 67 q:=lg (ow h).2
theorem mQ.Rb {q:Rat} (h:mQ 1000 q):sz 10000 q.num.natAbs≤1073741824∧sz 10000 q.den≤1073741824:=by
 have h1:=DI h.1;have h2:=DI h.2;exact ⟨by omega,by omega⟩
theorem YI {k:Nat} {p q:Rat} (h:mQ k p) (i:mQ k q):mQ (2*k+1) (p - q):=by
 rw [Rat.sub_eq_add_neg];exact CS h (CJ i)
theorem AL {a:Fr} {q:Rat} (h:rd a=some q) (W:World):Calls Tryz.prog 123 #[a.v] W (pU W q):=Je a.n a.d q W h
theorem am0:((0:Int):Rat) / ((1:Int):Rat)=0:=by decide+kernel
theorem qy (a:Fr) (w:World) (hf:Fits a):Calls Tryz.prog 181 #[a.v] w (fun e w'=>e= aj (aD #[Z I (jQ a).1,Z I (jQ a).2])∧Bw w w'):=by
 unfold jQ;cases h:rd a with
 | none =>
  have R:=fun W=>ku (b:=false) (by rw [h];rfl) hf W;refine Fx.door Tryz.func181 rfl (.nil w []) ?_;refine Fx.new [] 1 #[O a.n,O a.d] 38 [] [] fun iB=>?_;refine Fx.gX [3] 5 [] [] R ?_;exact Fx.aD6 [1] [] (fun W M=>⟨rfl,M.below⟩)
 | some q =>
  have R:=fun W=>ku (b:=true) (by rw [h];rfl) hf W;have bI:=fun W=>(AL h W).mono fun _ _ q=>vD q;have dO:=fun W=>(Nw 0 1 zo zo zo zo zo W).mono fun _ _ q=>vD q;rw [am0] at dO;have hq:=(uH h).mono (show 67≤10000000000 by omega);have zn:=fun x y W hx hy=>Gt x y q 0 W hx hy hq ⟨by decide+kernel,by decide+kernel⟩
  dsimp only
  generalize gZ q 0=cc at *;refine Fx.door Tryz.func181 rfl (.nil w []) ?_;refine Fx.new [] 1 #[O a.n,O a.d] 38 [] [] fun iB=>?_;refine Fx.gX [3] 5 [] [] R ?_;refine Fx.rR [2,3] 8 [] [] (fun W M=>bI _) ?_;rintro W wx2 e M ⟨n1,p1,l1,c1,m1,q1,j1,d1,rfl,B2,Q1⟩;refine ⟨B2,fun M2=>?_⟩;have M:=M2;have HZ2:=M.below;refine Fx.rR [] 9 [] [] (fun W M=>dO _) ?_;rintro W wx3 e M ⟨n2,p2,l2,c2,m2,q2,j2,d2,rfl,B3,Q2⟩;refine ⟨B3,fun M3=>?_⟩;have M:=M3;replace Q1:=Q1.later M.below;have HZ3:=(Bt HZ2 M.below);refine Fx.call [] 10 [] [] (fun W M=>zn _ _ _ (Q1.later M.below) (Q2.later M.below)) ?_;exact Fx.aD6 [] [] (fun W M=>⟨rfl,(Bt HZ3 M.below)⟩)
theorem RO {b:Fr} {q:Rat} (h:rd b=some q):(b.n.toList == [48])=decide (q=0):=by
 have e:b.n=⟨(Lib.itoa q.num).toArray⟩:=by rw [(ow h).1];rfl
 have z0:Lib.itoa 0=[48]:=by decide+kernel
 rw [e,ByteArray.toList_mk]
 by_cases h0:q=0
 ·rw [decide_eq_true h0,h0];show (Lib.itoa 0 == [48])=true;rw [z0];rfl
 ·rw [decide_eq_false h0,beq_eq_false_iff_ne];intro e;rw [← z0] at e;exact h0 (Rat.num_eq_zero.1 (zY e))
theorem wZ (a b:Fr) (w:World) (ha:Fits a) (hb:Fits b):Calls Tryz.prog 183 #[a.v,b.v] w (sP w (wS a b)):=by
 unfold sP;cases h:rd a with
 | none =>
  rw [show wS a b=(Fr.no,20) from rU h];have R:=fun W=>ku (b:=false) (by rw [h];rfl) ha W;refine Fx.door Tryz.func183 rfl (.nil w []) ?_;refine Fx.new [] 2 #[O a.n,O a.d] 38 [] [] fun iB=>?_;refine Fx.new [] 3 #[O b.n,O b.d] 38 [] [] fun jX=>?_;refine Fx.bK [] 4 38 [] [] fun jN=>?_;refine Fx.gX [3] 7 [] [] R ?_;exact Fx.jm 2 jN [0,0,1,5] [(2,#[O ⟨#[]⟩,O ⟨#[]⟩])] (fun W M=>⟨rfl,M.below⟩)
 | some p =>
  have R:=fun W=>ku (b:=true) (by rw [h];rfl) ha W;cases k:rd b with
  | none =>
   rw [show wS a b=(Fr.no,20) from rT k];have R2:=fun W=>ku (b:=false) (by rw [k];rfl) hb W;refine Fx.door Tryz.func183 rfl (.nil w []) ?_;refine Fx.new [] 2 #[O a.n,O a.d] 38 [] [] fun iB=>?_;refine Fx.new [] 3 #[O b.n,O b.d] 38 [] [] fun jX=>?_;refine Fx.bK [] 4 38 [] [] fun jN=>?_;refine Fx.gX [3] 7 [] [] R ?_;refine Fx.gX [4] 11 [(9,ak false)] [] R2 ?_;exact Fx.jm 2 jN [1,5] [(2,#[O ⟨#[]⟩,O ⟨#[]⟩])] (fun W M=>⟨rfl,M.below⟩)
  | some q =>
   have R2:=fun W=>ku (b:=true) (by rw [k];rfl) hb W;rw [show wS a b=wr (p+q) from kH h k];have I1:=fun W=>(AL h W).mono fun _ _ q=>vD q;have I2:=fun W=>(AL k W).mono fun _ _ q=>vD q;have hp:=uH h;have hq:=uH k;have OP:=fun x y W hx hy=>(AA x y p q W hx hy (hp.mono zo) (hq.mono zo)).mono fun _ _ q=>vD q;have hs:mQ 1000 (p+q):=(CS hp hq).mono zo;obtain ⟨f1,f2⟩:=mQ.Rb hs;have OU:=fun x W hx=>wU x (p+q) W hx f1 f2;generalize p+q=r at *;obtain ⟨⟨⟨s1,s2⟩,k1⟩,E⟩:∃ y,wr r=y:=⟨_,rfl⟩;rw [E] at OU ⊢;refine Fx.door Tryz.func183 rfl (.nil w []) ?_;refine Fx.new [] 2 #[O a.n,O a.d] 38 [] [] fun iB=>?_;refine Fx.new [] 3 #[O b.n,O b.d] 38 [] [] fun jX=>?_;refine Fx.bK [] 4 38 [] [] fun jN=>?_;refine Fx.gX [3] 7 [] [] R ?_;refine Fx.gX [4] 11 [(9,ak false)] [] R2 ?_
   refine Fx.draw [2] [0,2,1,3,4,5,6,7,8,5009] [] [] [] ?_;refine Fx.rR [3,4] 16 [(17,aB #[O b.n,O b.d])] [] (fun W M=>I1 _) ?_;rintro W wx4 e M ⟨n1,p1,l1,c1,m1,q1,j1,d1,rfl,B4,Q1⟩;refine ⟨B4,fun M4=>?_⟩;have M:=M4;have HZ4:=M.below;refine Fx.rR [] 18 [] [] (fun W M=>I2 _) ?_;rintro W wx5 e M ⟨n2,p2,l2,c2,m2,q2,j2,d2,rfl,B5,Q2⟩;refine ⟨B5,fun M5=>?_⟩;have M:=M5;replace Q1:=Q1.later M.below;have HZ5:=(Bt HZ4 M.below);refine Fx.rR [] 19 [] [] (fun W M=>OP _ _ _ (Q1.later M.below) (Q2.later M.below)) ?_;rintro W wx6 e M ⟨n3,p3,l3,c3,m3,q3,j3,d3,rfl,B6,Q3⟩;refine ⟨B6,fun M6=>?_⟩;have M:=M6;replace Q1:=Q1.later M.below;replace Q2:=Q2.later M.below;have HZ6:=(Bt HZ5 M.below);refine Fx.call [] 20 [] [] (fun W M=>OU _ _ (Q3.later M.below)) ?_;refine Fx.part 3 [] [(21,aB #[O s1,O s2]),(22,Z I k1)] [] ?_;refine Fx.back M6 ?_;refine Fx.back M5 ?_
   refine Fx.back M4 ?_;exact Fx.jm 2 jN [5] [(2,#[O s1,O s2])] (fun W M=>⟨rfl,M.below⟩)
--iff aS.Sub
theorem BF (a b:Fr) (w:World) (ha:Fits a) (hb:Fits b):Calls Tryz.prog 182 #[a.v,b.v] w (sP w (yE a b)):=by
 unfold sP;cases h:rd a with
 | none =>
  rw [show yE a b=(Fr.no,20) from rU h];have R:=fun W=>ku (b:=false) (by rw [h];rfl) ha W;refine Fx.door Tryz.func182 rfl (.nil w []) ?_;refine Fx.new [] 2 #[O a.n,O a.d] 38 [] [] fun iB=>?_;refine Fx.new [] 3 #[O b.n,O b.d] 38 [] [] fun jX=>?_;refine Fx.bK [] 4 38 [] [] fun jN=>?_;refine Fx.gX [3] 7 [] [] R ?_;exact Fx.jm 2 jN [0,0,1,5] [(2,#[O ⟨#[]⟩,O ⟨#[]⟩])] (fun W M=>⟨rfl,M.below⟩)
 | some p =>
  have R:=fun W=>ku (b:=true) (by rw [h];rfl) ha W;cases k:rd b with
  | none =>
   rw [show yE a b=(Fr.no,20) from rT k];have R2:=fun W=>ku (b:=false) (by rw [k];rfl) hb W;refine Fx.door Tryz.func182 rfl (.nil w []) ?_;refine Fx.new [] 2 #[O a.n,O a.d] 38 [] [] fun iB=>?_;refine Fx.new [] 3 #[O b.n,O b.d] 38 [] [] fun jX=>?_;refine Fx.bK [] 4 38 [] [] fun jN=>?_;refine Fx.gX [3] 7 [] [] R ?_;refine Fx.gX [4] 11 [(9,ak false)] [] R2 ?_;exact Fx.jm 2 jN [1,5] [(2,#[O ⟨#[]⟩,O ⟨#[]⟩])] (fun W M=>⟨rfl,M.below⟩)
  | some q =>
   have R2:=fun W=>ku (b:=true) (by rw [k];rfl) hb W;rw [show yE a b=wr (p - q) from kH h k];have I1:=fun W=>(AL h W).mono fun _ _ q=>vD q;have I2:=fun W=>(AL k W).mono fun _ _ q=>vD q;have hp:=uH h;have hq:=uH k;have OP:=fun x y W hx hy=>(wV x y p q W hx hy (hp.mono zo) (hq.mono zo)).mono fun _ _ q=>vD q;have hs:mQ 1000 (p - q):=(YI hp hq).mono zo;obtain ⟨f1,f2⟩:=mQ.Rb hs;have OU:=fun x W hx=>wU x (p - q) W hx f1 f2;generalize p - q=r at *;obtain ⟨⟨⟨s1,s2⟩,k1⟩,E⟩:∃ y,wr r=y:=⟨_,rfl⟩;rw [E] at OU ⊢;refine Fx.door Tryz.func182 rfl (.nil w []) ?_;refine Fx.new [] 2 #[O a.n,O a.d] 38 [] [] fun iB=>?_;refine Fx.new [] 3 #[O b.n,O b.d] 38 [] [] fun jX=>?_;refine Fx.bK [] 4 38 [] [] fun jN=>?_;refine Fx.gX [3] 7 [] [] R ?_;refine Fx.gX [4] 11 [(9,ak false)] [] R2 ?_
   refine Fx.draw [2] [0,2,1,3,4,5,6,7,8,5009] [] [] [] ?_;refine Fx.rR [3,4] 16 [(17,aB #[O b.n,O b.d])] [] (fun W M=>I1 _) ?_;rintro W wx4 e M ⟨n1,p1,l1,c1,m1,q1,j1,d1,rfl,B4,Q1⟩;refine ⟨B4,fun M4=>?_⟩;have M:=M4;have HZ4:=M.below;refine Fx.rR [] 18 [] [] (fun W M=>I2 _) ?_;rintro W wx5 e M ⟨n2,p2,l2,c2,m2,q2,j2,d2,rfl,B5,Q2⟩;refine ⟨B5,fun M5=>?_⟩;have M:=M5;replace Q1:=Q1.later M.below;have HZ5:=(Bt HZ4 M.below);refine Fx.rR [] 19 [] [] (fun W M=>OP _ _ _ (Q1.later M.below) (Q2.later M.below)) ?_;rintro W wx6 e M ⟨n3,p3,l3,c3,m3,q3,j3,d3,rfl,B6,Q3⟩;refine ⟨B6,fun M6=>?_⟩;have M:=M6;replace Q1:=Q1.later M.below;replace Q2:=Q2.later M.below;have HZ6:=(Bt HZ5 M.below);refine Fx.call [] 20 [] [] (fun W M=>OU _ _ (Q3.later M.below)) ?_;refine Fx.part 3 [] [(21,aB #[O s1,O s2]),(22,Z I k1)] [] ?_;refine Fx.back M6 ?_;refine Fx.back M5 ?_
   refine Fx.back M4 ?_;exact Fx.jm 2 jN [5] [(2,#[O s1,O s2])] (fun W M=>⟨rfl,M.below⟩)
--iff aS.Mul
theorem oK (a b:Fr) (w:World) (ha:Fits a) (hb:Fits b):Calls Tryz.prog 65 #[a.v,b.v] w (sP w (pO a b)):=by
 unfold sP;cases h:rd a with
 | none =>
  rw [show pO a b=(Fr.no,20) from rU h];have R:=fun W=>ku (b:=false) (by rw [h];rfl) ha W;refine Fx.door Tryz.func65 rfl (.nil w []) ?_;refine Fx.new [] 2 #[O a.n,O a.d] 38 [] [] fun iB=>?_;refine Fx.new [] 3 #[O b.n,O b.d] 38 [] [] fun jX=>?_;refine Fx.bK [] 4 38 [] [] fun jN=>?_;refine Fx.gX [3] 7 [] [] R ?_;exact Fx.jm 2 jN [0,0,1,5] [(2,#[O ⟨#[]⟩,O ⟨#[]⟩])] (fun W M=>⟨rfl,M.below⟩)
 | some p =>
  have R:=fun W=>ku (b:=true) (by rw [h];rfl) ha W;cases k:rd b with
  | none =>
   rw [show pO a b=(Fr.no,20) from rT k];have R2:=fun W=>ku (b:=false) (by rw [k];rfl) hb W;refine Fx.door Tryz.func65 rfl (.nil w []) ?_;refine Fx.new [] 2 #[O a.n,O a.d] 38 [] [] fun iB=>?_;refine Fx.new [] 3 #[O b.n,O b.d] 38 [] [] fun jX=>?_;refine Fx.bK [] 4 38 [] [] fun jN=>?_;refine Fx.gX [3] 7 [] [] R ?_;refine Fx.gX [4] 11 [(9,ak false)] [] R2 ?_;exact Fx.jm 2 jN [1,5] [(2,#[O ⟨#[]⟩,O ⟨#[]⟩])] (fun W M=>⟨rfl,M.below⟩)
  | some q =>
   have R2:=fun W=>ku (b:=true) (by rw [k];rfl) hb W;rw [show pO a b=wr (p*q) from kH h k];have I1:=fun W=>(AL h W).mono fun _ _ q=>vD q;have I2:=fun W=>(AL k W).mono fun _ _ q=>vD q;have hp:=uH h;have hq:=uH k;have OP:=fun x y W hx hy=>(mI x y p q W hx hy (hp.mono zo) (hq.mono zo)).mono fun _ _ q=>vD q;have hs:mQ 1000 (p*q):=(CK hp hq).mono zo;obtain ⟨f1,f2⟩:=mQ.Rb hs;have OU:=fun x W hx=>wU x (p*q) W hx f1 f2;generalize p*q=r at *;obtain ⟨⟨⟨s1,s2⟩,k1⟩,E⟩:∃ y,wr r=y:=⟨_,rfl⟩;rw [E] at OU ⊢;refine Fx.door Tryz.func65 rfl (.nil w []) ?_;refine Fx.new [] 2 #[O a.n,O a.d] 38 [] [] fun iB=>?_;refine Fx.new [] 3 #[O b.n,O b.d] 38 [] [] fun jX=>?_;refine Fx.bK [] 4 38 [] [] fun jN=>?_;refine Fx.gX [3] 7 [] [] R ?_;refine Fx.gX [4] 11 [(9,ak false)] [] R2 ?_
   refine Fx.draw [2] [0,2,1,3,4,5,6,7,8,5009] [] [] [] ?_;refine Fx.rR [3,4] 16 [(17,aB #[O b.n,O b.d])] [] (fun W M=>I1 _) ?_;rintro W wx4 e M ⟨n1,p1,l1,c1,m1,q1,j1,d1,rfl,B4,Q1⟩;refine ⟨B4,fun M4=>?_⟩;have M:=M4;have HZ4:=M.below;refine Fx.rR [] 18 [] [] (fun W M=>I2 _) ?_;rintro W wx5 e M ⟨n2,p2,l2,c2,m2,q2,j2,d2,rfl,B5,Q2⟩;refine ⟨B5,fun M5=>?_⟩;have M:=M5;replace Q1:=Q1.later M.below;have HZ5:=(Bt HZ4 M.below);refine Fx.rR [] 19 [] [] (fun W M=>OP _ _ _ (Q1.later M.below) (Q2.later M.below)) ?_;rintro W wx6 e M ⟨n3,p3,l3,c3,m3,q3,j3,d3,rfl,B6,Q3⟩;refine ⟨B6,fun M6=>?_⟩;have M:=M6;replace Q1:=Q1.later M.below;replace Q2:=Q2.later M.below;have HZ6:=(Bt HZ5 M.below);refine Fx.call [] 20 [] [] (fun W M=>OU _ _ (Q3.later M.below)) ?_;refine Fx.part 3 [] [(21,aB #[O s1,O s2]),(22,Z I k1)] [] ?_;refine Fx.back M6 ?_;refine Fx.back M5 ?_
   refine Fx.back M4 ?_;exact Fx.jm 2 jN [5] [(2,#[O s1,O s2])] (fun W M=>⟨rfl,M.below⟩)
theorem qX (a b:Fr) (w:World) (ha:Fits a) (hb:Fits b):Calls Tryz.prog 184 #[a.v,b.v] w (sP w (nP a b)):=by
 unfold sP;cases h:rd a with
 | none =>
  rw [show nP a b=(Fr.no,20) from rU h];have R:=fun W=>ku (b:=false) (by rw [h];rfl) ha W;refine Fx.door Tryz.func184 rfl (.nil w []) ?_;refine Fx.new [] 2 #[O a.n,O a.d] 38 [] [] fun iB=>?_;refine Fx.new [] 3 #[O b.n,O b.d] 38 [] [] fun jX=>?_;refine Fx.bK [] 4 38 [] [] fun jN=>?_;refine Fx.gX [3] 7 [] [] R ?_;exact Fx.jm 2 jN [0,0,1,5] [(2,#[O ⟨#[]⟩,O ⟨#[]⟩])] (fun W M=>⟨rfl,M.below⟩)
 | some p =>
  have R:=fun W=>ku (b:=true) (by rw [h];rfl) ha W;cases k:rd b with
  | none =>
   rw [show nP a b=(Fr.no,20) from rT k];have R2:=fun W=>ku (b:=false) (by rw [k];rfl) hb W;refine Fx.door Tryz.func184 rfl (.nil w []) ?_;refine Fx.new [] 2 #[O a.n,O a.d] 38 [] [] fun iB=>?_;refine Fx.new [] 3 #[O b.n,O b.d] 38 [] [] fun jX=>?_;refine Fx.bK [] 4 38 [] [] fun jN=>?_;refine Fx.gX [3] 7 [] [] R ?_;refine Fx.gX [4] 11 [(9,ak false)] [] R2 ?_;exact Fx.jm 2 jN [1,5] [(2,#[O ⟨#[]⟩,O ⟨#[]⟩])] (fun W M=>⟨rfl,M.below⟩)
  | some q =>
   have R2:=fun W=>ku (b:=true) (by rw [k];rfl) hb W;have hz:(b.n.toList == (⟨#[48]⟩:ByteArray).toList)=decide (q=0):=by rw [ByteArray.toList_eq (⟨#[48]⟩:ByteArray)];exact RO k
   by_cases h0:q=0
   ·rw [show nP a b=(Fr.no,7) by rw [show nP a b=if q=0 then (Fr.no,7) else wr (p / q) from kH h k,if_pos h0]];rw [decide_eq_true h0] at hz;refine Fx.door Tryz.func184 rfl (.nil w []) ?_;refine Fx.new [] 2 #[O a.n,O a.d] 38 [] [] fun iB=>?_;refine Fx.new [] 3 #[O b.n,O b.d] 38 [] [] fun jX=>?_;refine Fx.bK [] 4 38 [] [] fun jN=>?_;refine Fx.gX [3] 7 [] [] R ?_;refine Fx.gX [4] 11 [(9,ak false)] [] R2 ?_;refine Fx.part 13 [2,4] [(17,ak (b.n.toList == (⟨#[48]⟩:ByteArray).toList))] [] ?_;refine Fx.Bb true (hz) ?_;exact Fx.jm 2 jN [1,5] [(2,#[O ⟨#[]⟩,O ⟨#[]⟩])] (fun W M=>⟨rfl,M.below⟩)
   ·rw [show nP a b=wr (p / q) by rw [show nP a b=if q=0 then (Fr.no,7) else wr (p / q) from kH h k,if_neg h0]];rw [decide_eq_false h0] at hz;have I1:=fun W=>(AL h W).mono fun _ _ q=>vD q;have I2:=fun W=>(AL k W).mono fun _ _ q=>vD q;have hp:=uH h;have hq:=uH k;have OP:=fun x y W hx hy=>(ac8 x y p q W hx hy (hp.mono zo) (hq.mono zo) h0).mono fun _ _ q=>vD q;have hs:mQ 1000 (p / q):=by rw [Rat.div_def];exact (CK hp (Qo hq h0)).mono zo
    obtain ⟨f1,f2⟩:=mQ.Rb hs;have OU:=fun x W hx=>wU x (p / q) W hx f1 f2;generalize p / q=r at *;obtain ⟨⟨⟨s1,s2⟩,k1⟩,E⟩:∃ y,wr r=y:=⟨_,rfl⟩;rw [E] at OU ⊢;refine Fx.door Tryz.func184 rfl (.nil w []) ?_;refine Fx.new [] 2 #[O a.n,O a.d] 38 [] [] fun iB=>?_;refine Fx.new [] 3 #[O b.n,O b.d] 38 [] [] fun jX=>?_;refine Fx.bK [] 4 38 [] [] fun jN=>?_;refine Fx.gX [3] 7 [] [] R ?_;refine Fx.gX [4] 11 [(9,ak false)] [] R2 ?_;refine Fx.part 13 [2,4] [(17,ak (b.n.toList == (⟨#[48]⟩:ByteArray).toList))] [] ?_;refine Fx.Bb false (hz) ?_;refine Fx.draw [2] [0,2,1,3,4,5,6,7,8,5009] [] [] [] ?_;refine Fx.rR [3,4] 20 [(21,aB #[O b.n,O b.d])] [] (fun W M=>I1 _) ?_;rintro W wx4 e M ⟨n1,p1,l1,c1,m1,q1,j1,d1,rfl,B4,Q1⟩;refine ⟨B4,fun M4=>?_⟩;have M:=M4;have HZ4:=M.below;refine Fx.rR [] 22 [] [] (fun W M=>I2 _) ?_
    rintro W wx5 e M ⟨n2,p2,l2,c2,m2,q2,j2,d2,rfl,B5,Q2⟩;refine ⟨B5,fun M5=>?_⟩;have M:=M5;replace Q1:=Q1.later M.below;have HZ5:=(Bt HZ4 M.below);refine Fx.rR [] 23 [] [] (fun W M=>OP _ _ _ (Q1.later M.below) (Q2.later M.below)) ?_;rintro W wx6 e M ⟨n3,p3,l3,c3,m3,q3,j3,d3,rfl,B6,Q3⟩;refine ⟨B6,fun M6=>?_⟩;have M:=M6;replace Q1:=Q1.later M.below;replace Q2:=Q2.later M.below;have HZ6:=(Bt HZ5 M.below);refine Fx.call [] 24 [] [] (fun W M=>OU _ _ (Q3.later M.below)) ?_;refine Fx.part 3 [] [(25,aB #[O s1,O s2]),(26,Z I k1)] [] ?_;refine Fx.back M6 ?_;refine Fx.back M5 ?_;refine Fx.back M4 ?_;exact Fx.jm 2 jN [5] [(2,#[O s1,O s2])] (fun W M=>⟨rfl,M.below⟩)
end Go.Proofs.aS
namespace Go.Proofs.verdigrislaw28
open Go.Proofs.fM Go Go.RowKit Go.SW Go.Num Go.Mem Go.Proofs Go.fG Go.Fx
def smL (n d:Int):Bool:=decide (-9000000≤n)&&decide (n≤9000000)&&decide (1≤d)&&decide (d≤9000000)&&jk (q2 n d)
theorem Vu {n d:Int} {s t:ByteArray} (e:Fr.of (q2 n d)=⟨s,t⟩) (h:smL n d=true):lI n d=(⟨s,t⟩,0)∧ -9223372036854775808≤n∧n≤9223372036854775807∧ -9223372036854775808≤d∧d≤9223372036854775807:=by
 unfold smL at h;simp only [aF,decide_eq_true_eq] at h;obtain ⟨⟨⟨⟨h1,h2⟩,h3⟩,h4⟩,h5⟩:=h;refine ⟨?_,by omega,by omega,by omega,by omega⟩;unfold lI;rw [if_neg zo]
 show fG.wr (q2 n d)=_
 unfold fG.wr;rw [if_pos h5,e]
theorem zO {n d:Int} {s t:ByteArray} (e:Fr.of (q2 n d)=⟨s,t⟩) (h:smL n d=true) (w:World) (ht:ko.Pow w) :
  Calls Tryz.prog 12 #[Z I n,Z I d] w (fun e w'=>e= aj (aB #[O s,O t])∧Bw w w'):=by
 obtain ⟨h0,h1,h2,h3,h4⟩:=Vu e h;refine Fx.door Tryz.func12 rfl (.nil w []) ?_;refine Fx.bK [] 4 38 [] [] fun iB=>?_;refine Fx.call [] 10 [] [] (fun W M=>cOf h0 W (ht.later M.below) h1 h2 h3 h4) ?_;refine Fx.bK [] 5 38 [(11,aB #[O s,O t]),(12,Z I 0)] [] fun jX=>?_;exact Fx.mU 0 iB [4,4,3] [(0,#[O s,O t]),(1,#[O s,O t])] (fun W M=>⟨rfl,M.below⟩)
end Go.Proofs.verdigrislaw28
namespace Go.Proofs.fB
open Go Go.RowKit Go.SW Go.Num Go.Mem Go.Proofs Go.Dec Go.fG Go.Proofs.matrix Go.Proofs.fE
theorem aD2 {n:Int} (h:n.natAbs≤1000000000000000000):Hq 18 (un n):=⟨n,1000000000000,by omega,by decide+kernel,au h (by decide+kernel),rfl⟩
theorem Om {n:Int} (h:n.natAbs≤1000000000000000000):jk (un n)=true:=(aD2 h).ok zo
theorem Rh (n:Int) (h:n.natAbs≤1000000000000000000) (W:World) (ht:ko.Pow W) :
  Calls Tryz.prog 47 #[Z I n] W (fun e w'=>e= aj (aD #[aB #[O (Fr.of (un n)).n,O (Fr.of (un n)).d],Z I 0])∧Bw W w'):=by
 refine J7 n _ _ W zo zo ht ?_;unfold lI;rw [if_neg zo]
 show fG.wr (un n)=_
 unfold fG.wr;rw [if_pos (Om h)]
theorem Rn {p q:Rat} (hp:jk p=true) (hq:jk q=true) (W:World) :
  Calls Tryz.prog 36 #[aB #[O (Fr.of p).n,O (Fr.of p).d],aB #[O (Fr.of q).n,O (Fr.of q).d]] W (fun e w'=>e= aj (aD #[Z I (gZ p q),Z I 0])∧Bw W w'):=by
 have:=dZ.KX (Fr.of p) (Fr.of q) W;rw [show tQ (Fr.of p) (Fr.of q)=(gZ p q,0) by unfold tQ;rw [je hp,je hq]] at this;exact this
theorem ZV {b:Int × Int} {q:Rat} {M:Int} (h:In b q M) (hM:M≤1000000000000000000) (hq:jk q=true) (W:World) (ht:ko.Pow W) :
  Calls Tryz.prog 18 #[aB #[Z I b.1,Z I b.2],aB #[O (Fr.of q).n,O (Fr.of q).d]] W (fun e w'=>e= aj (aD #[ak true,Z I 0])∧Bw W w'):=by
 have hle:=h.le;obtain ⟨g1,g2,g3,g4⟩:=id h;have n1:b.1.natAbs≤1000000000000000000:=by omega
 have n2:b.2.natAbs≤1000000000000000000:=by omega
 exact az9 b.1 b.2 (gZ q (un b.1)) (gZ q (un b.2)) _ _ _ _ _ _ W (h.jl hM)
  (by unfold gZ;rw [if_neg (by grind)];split<;>omega)
  (by unfold gZ;split;omega;rw [if_neg (by grind)];omega)
  (fun W2 h2=>Rh b.1 n1 W2 (ht.later h2)) (fun W2 h2=>Rh b.2 n2 W2 (ht.later h2))
  (fun W2=>Rn hq (Om n1) W2) (fun W2=>Rn hq (Om n2) W2)
end Go.Proofs.fB
namespace Go.Proofs.verdigrislaw28
open Go.Proofs.fM Go Go.RowKit Go.SW Go.Num Go.Mem Go.Proofs Go.fG Go.Fx Go.Proofs.view
theorem nY (a b:ByteArray) (W:World):(Op.equalIn 10000 38 (aB #[O a,O b]) (aB #[O a,O b])).run Tryz.prog W= .ok true W:=by go_simp
theorem tO (a b:Int) (W:World):(Op.equalIn 10000 26 (aB #[Z I a,Z I b]) (aB #[Z I a,Z I b])).run Tryz.prog W= .ok true W:=by go_simp
theorem mZ (n:Int) (w:World):Calls Tryz.prog 8 #[Z I n] w (fun e w'=>e= aj (aB #[Z I n,Z I n])∧Bw w w'):=by
 refine Fx.door Tryz.func8 rfl (.nil w []) ?_;refine Fx.bK [] 2 26 [] [] fun iB=>?_;exact Fx.mU 0 iB [3] [(0,#[Z I n,Z I n])] (fun W M=>⟨rfl,M.below⟩)
theorem au2 {x y n d:Int} {s t:ByteArray} (e:Fr.of (q2 n d)=⟨s,t⟩) (h:matrix.In (x,y) (q2 n d) 1000000000000000000) (hq:jk (q2 n d)=true) (w:World) (ht:ko.Pow w) :
  Calls Tryz.prog 18 #[aB #[Z I x,Z I y],aB #[O s,O t]] w (fun e w'=>e= aj (aD #[ak true,Z I 0])∧Bw w w'):=by
 have:=fB.ZV h (Int.le_refl _) hq w ht;rw [e] at this;exact this
theorem aa9 {W:light.ig} {la yb F N n D:Fr} {s nu de:Int} (h:((Bu W la yb s).2=0∧(Bu W la yb s).1.1.1=F∧(Bu W la yb s).1.1.2.1=N∧(Bu W la yb s).1.1.2.2.2.1=n∧(Bu W la yb s).1.1.2.2.2.2=D)∧(Bu W la yb s).1.2.1=(nu,de)) :
  ∃ c1 c2 g1 g2 g3 g4 g5 g6 v1 v2 p1 p2 q1 q2,Tt W la yb s=(((F,N,⟨c1,c2⟩,n,D),(nu,de),⟨⟨g1,g2⟩,⟨g3,g4⟩,⟨g5,g6⟩⟩,(v1,v2),(p1,p2),(q1,q2)),0):=by
 unfold Tt cl;generalize Bu W la yb s=r at *;obtain ⟨⟨⟨F',N',⟨c1,c2⟩,n',D'⟩,⟨nu',de'⟩,⟨⟨g1,g2⟩,⟨g3,g4⟩,⟨g5,g6⟩⟩,⟨v1,v2⟩,⟨p1,p2⟩,⟨q1,q2⟩⟩,k⟩:=r;simp only [fP] at h;obtain ⟨⟨rfl,rfl,rfl,rfl,rfl⟩,rfl,rfl⟩:=h;exact ⟨c1,c2,g1,g2,g3,g4,g5,g6,v1,v2,p1,p2,q1,q2,rfl⟩
end Go.Proofs.verdigrislaw28
namespace Go.Proofs.verdigrislaw28
open Go.Proofs.fM Go Go.RowKit Go.SW Go.Num Go.Mem Go.Proofs Go.Dec Go.fG Go.Fx Go.Proofs.view
theorem Pp {s1 t1 s2 t2 s3 t3:ByteArray} (e1:Fr.of (q2 1 1)=⟨s1,t1⟩) (e2:Fr.of (q2 64 1)=⟨s2,t2⟩) (e3:Fr.of (q2 1 5)=⟨s3,t3⟩) (w:World) (ht:ko.Pow w) :
  Calls Tryz.prog 15 #[] w (fun e w'=>e= aj (aB #[O s1,O t1,O s1,O t1,O s1,O t1,O s2,O t2,O s3,O t3,Z I 1])∧Bw w w'):=by
 have C1:=zh (fun W h=>zO e1 (by decide+kernel) W h);have C2:=zh (fun W h=>zO e2 (by decide+kernel) W h);have C3:=zh (fun W h=>zO e3 (by decide+kernel) W h);refine Fx.door Tryz.func15 rfl (.nil w []) ?_;refine Fx.bK [] 0 42 [] [] fun iB=>?_;refine Fx.call [] 1 [] [] (fun W M=>C1.out _ (ht.later M.below)) ?_;refine Fx.call [] 2 [] [] (fun W M=>C1.out _ (ht.later M.below)) ?_;refine Fx.call [] 3 [] [] (fun W M=>C1.out _ (ht.later M.below)) ?_;refine Fx.call [] 5 [(4,aB #[O s1,O t1,O s1,O t1,O s1,O t1])] [] (fun W M=>C2.out _ (ht.later M.below)) ?_;refine Fx.call [] 6 [] [] (fun W M=>C3.out _ (ht.later M.below)) ?_;exact Fx.mU 0 iB [3] [(0,#[O s1,O t1,O s1,O t1,O s1,O t1,O s2,O t2,O s3,O t3,Z I 1])] (fun W M=>⟨rfl,M.below⟩)
theorem Dr (w:World) (ht:ko.Pow w) (he:whole.Er w) (hc:adapt.kX w) (hs:Aw w):Calls Tryz.prog 7 #[] w (fun e w'=>e= aj (ak true)∧Bw w w'):=by
 have HP:=zh ht;have HE:=zh he;have HC:=zh hc;have HS:=zh hs;obtain ⟨⟨bZ,bY⟩,EF0⟩:∃ y,Hid (Fr.of (q2 1 1)=y):=⟨_,zh rfl⟩;obtain ⟨⟨j6,jZ⟩,EF1⟩:∃ y,Hid (Fr.of (q2 64 1)=y):=⟨_,zh rfl⟩;obtain ⟨⟨jr,jo⟩,EF2⟩:∃ y,Hid (Fr.of (q2 1 5)=y):=⟨_,zh rfl⟩;obtain ⟨⟨Tm,Tk⟩,EF3⟩:∃ y,Hid (Fr.of (q2 587 702)=y):=⟨_,zh rfl⟩;obtain ⟨aM2,aM1,aK1,aK0,aJ9,aJ8,aJ7,aJ6,aD1,aD0,aE8,aE7,aD9,aD8,ED1⟩:=aa9 (W:=⟨⟨bZ,bY⟩,⟨bZ,bY⟩,⟨bZ,bY⟩⟩) (la:=⟨j6,jZ⟩) (yb:=⟨jr,jo⟩) (s:=1) (F:=⟨bZ,bY⟩) (N:=⟨bZ,bY⟩) (n:=⟨jr,jo⟩) (D:=⟨Tm,Tk⟩) (nu:=4) (de:=3) (by rw [← EF0.out,← EF1.out,← EF2.out,← EF3.out];decide+kernel);replace ED1:=zh ED1;have C0:=zh (fun W ht he=>pI (show Py (1000000000000,1000000000000) (0,0)=((0,0),0) by decide+kernel) W ht he)
 have C1:=zh (fun W ht he=>pI (show Py (1000000000000,1000000000000) (1000000000000,1000000000000)=((14219694276573,14219694276574),0) by decide+kernel) W ht he);obtain ⟨⟨bj6,bj5⟩,EF4⟩:∃ y,Hid (Fr.of (q2 40000 2813)=y):=⟨_,zh rfl⟩;have C2:=zh (fun W h=>zO EF4.out (by decide+kernel) W h);have C3:=zh (fun W h=>au2 (x:=14219694276573) (y:=14219694276574) EF4.out ⟨by decide+kernel,by decide+kernel,by decide,by decide⟩ (by decide+kernel) W h)
 have C4:=zh (fun W=>yw (f1:=⟨#[]⟩) (f2:=⟨#[]⟩) (n1:=⟨#[]⟩) (n2:=⟨#[]⟩) (c1:=⟨#[]⟩) (c2:=⟨#[]⟩) (m1:=⟨#[]⟩) (m2:=⟨#[]⟩) (d1:=⟨#[]⟩) (d2:=⟨#[]⟩) (g1:=⟨#[]⟩) (g2:=⟨#[]⟩) (g3:=⟨#[]⟩) (g4:=⟨#[]⟩) (g5:=⟨#[]⟩) (g6:=⟨#[]⟩) (nu:=0) (de:=0) (v1:=0) (v2:=0) (q1:=0) (q2:=0) (show TK (1000000000000,1000000000000) (1000000000000,1000000000000) (1000000000000,1000000000000) (1000000000000,1000000000000)=((3050000000000,3050000000000),0) by decide+kernel) W);obtain ⟨⟨aK6,aK5⟩,EF5⟩:∃ y,Hid (Fr.of (q2 1 2)=y):=⟨_,zh rfl⟩;have C5:=zh (fun W h=>zO EF5.out (by decide+kernel) W h);obtain ⟨⟨aK4,aK3⟩,EF6⟩:∃ y,Hid (Fr.of (q2 2 1)=y):=⟨_,zh rfl⟩;have C6:=zh (fun W h=>zO EF6.out (by decide+kernel) W h);have C7:=zh (fun W h=>zO EF0.out (by decide+kernel) W h);have C8:=zh (fun W h=>zO EF2.out (by decide+kernel) W h);have C9:=zh (fun W h=>zO EF3.out (by decide+kernel) W h)
 have C10:=zh (fun W ht hc hs=>Gz (k:=280) (show (Aj ⟨⟨bZ,bY⟩,⟨bZ,bY⟩,⟨bZ,bY⟩⟩ ⟨aK6,aK5⟩ ⟨jr,jo⟩ 1).2=280 by rw [← EF0.out,← EF5.out,← EF2.out];decide+kernel) W ht hc hs);have C11:=zh (fun W ht hc hs=>Gz (k:=280) (show (Aj ⟨⟨bZ,bY⟩,⟨bZ,bY⟩,⟨bZ,bY⟩⟩ ⟨j6,jZ⟩ ⟨aK4,aK3⟩ 1).2=280 by rw [← EF0.out,← EF1.out,← EF6.out];decide+kernel) W ht hc hs);have C12:=zh (fun W ht hc hs=>Gz (k:=280) (show (Aj ⟨⟨bZ,bY⟩,⟨bZ,bY⟩,⟨bZ,bY⟩⟩ ⟨j6,jZ⟩ ⟨jr,jo⟩ 4).2=280 by rw [← EF0.out,← EF1.out,← EF2.out];decide+kernel) W ht hc hs);clear ht he hc hs;refine Fx.door Tryz.func7 rfl (.nil w []) ?_;refine Fx.call [] 15 [] [] (fun W M=>Pp EF0.out EF1.out EF2.out _ (HP.out.later M.below)) ?_;refine Fx.bK [] 1 42 [] [] fun iB=>?_
 refine Fx.call [3,3] 18 [] [(0,#[O bZ,O bY,O bZ,O bY,O bZ,O bY,O j6,O jZ,O jr,O jo,Z I 1])] (fun W M=>nN ED1.out _ (HP.out.later M.below) (HE.out.later M.below) (HC.out.later M.below) (HS.out.later M.below)) ?_;refine Fx.bK [] 2 45 [(19,aB #[O bZ,O bY,O bZ,O bY,O aM2,O aM1,O jr,O jo,O Tm,O Tk,Z I 4,Z I 3,O aK1,O aK0,O aJ9,O aJ8,O aJ7,O aJ6,Z I aD1,Z I aD0,Z I aE8,Z I aE7,Z I aD9,Z I aD8]),(20,Z I 0)] [] fun jX=>?_
 refine Fx.call [4] 22 [(3,Z I 0)] [(1,#[O bZ,O bY,O bZ,O bY,O aM2,O aM1,O jr,O jo,O Tm,O Tk,Z I 4,Z I 3,O aK1,O aK0,O aJ9,O aJ8,O aJ7,O aJ6,Z I aD1,Z I aD0,Z I aE8,Z I aE7,Z I aD9,Z I aD8])] (fun W M=>mZ 1000000000000 _) ?_;refine Fx.call [] 23 [] [] (fun W M=>mZ 0 _) ?_;refine Fx.call [] 24 [] [] (fun W M=>C0.out _ (HP.out.later M.below) (HE.out.later M.below)) ?_;refine Fx.bK [] 4 26 [(25,aB #[Z I 0,Z I 0]),(26,Z I 0)] [] fun jN=>?_;refine Fx.call [5] 28 [(5,Z I 0)] [(2,#[Z I 0,Z I 0])] (fun W M=>mZ 1000000000000 _) ?_;refine Fx.call [] 29 [] [] (fun W M=>mZ 1000000000000 _) ?_
 refine Fx.call [] 30 [] [] (fun W M=>C1.out _ (HP.out.later M.below) (HE.out.later M.below)) ?_;refine Fx.bK [] 6 26 [(31,aB #[Z I 14219694276573,Z I 14219694276574]),(32,Z I 0)] [] fun yX=>?_;refine Fx.draw [6] [0,1,2,3,4,5,5006,5007] [] [(7,Z I 0)] [(3,#[Z I 14219694276573,Z I 14219694276574])] ?_;refine Fx.call [6] 35 [(34,aB #[Z I 14219694276573,Z I 14219694276574])] [] (fun W M=>C2.out _ (HP.out.later M.below)) ?_;refine Fx.call [] 36 [] [] (fun W M=>C3.out _ (HP.out.later M.below)) ?_;refine Fx.call [] 40 [(8,ak true),(9,Z I 0)] [] (fun W M=>mZ 1000000000000 _) ?_
 refine Fx.call [] 42 [(41,aB #[O ⟨#[]⟩,O ⟨#[]⟩,O ⟨#[]⟩,O ⟨#[]⟩,O ⟨#[]⟩,O ⟨#[]⟩,O ⟨#[]⟩,O ⟨#[]⟩,O ⟨#[]⟩,O ⟨#[]⟩,Z I 0,Z I 0,O ⟨#[]⟩,O ⟨#[]⟩,O ⟨#[]⟩,O ⟨#[]⟩,O ⟨#[]⟩,O ⟨#[]⟩,Z I 0,Z I 0,Z I 1000000000000,Z I 1000000000000,Z I 0,Z I 0])] [] (fun W M=>mZ 1000000000000 _) ?_;refine Fx.call [] 43 [] [] (fun W M=>mZ 1000000000000 _) ?_;refine Fx.call [] 44 [] [] (fun W M=>mZ 1000000000000 _) ?_;refine Fx.call [] 46 [] [] (fun W M=>C4.out _) ?_;refine Fx.bK [] 10 26 [(47,aB #[Z I 3050000000000,Z I 3050000000000]),(48,Z I 0)] [] fun PL=>?_
 refine Fx.aK8 5 [7] [(11,Z I 0)] [(4,#[Z I 3050000000000,Z I 3050000000000])] (fun (x:Nat × Nat × Nat)=>[(14,ay (some ⟨x.2.2,0,none⟩)),(13,ay (some ⟨x.2.1,0,none⟩)),(12,ay (some ⟨x.1,0,none⟩))]) (fun (x:Nat × Nat × Nat)=>[⟨x.1,#[O bZ,O bY,O bZ,O bY,O bZ,O bY,O j6,O jZ,O jr,O jo,Z I 1],42,true⟩,⟨x.2.1,#[O bZ,O bY,O bZ,O bY,O bZ,O bY,O j6,O jZ,O jr,O jo,Z I 1],42,true⟩,⟨x.2.2,#[O bZ,O bY,O bZ,O bY,O bZ,O bY,O j6,O jZ,O jr,O jo,Z I 1],42,true⟩]) rfl ?_ ?_
 ·skip
  refine Fx.RX 6 1 zd ?_ ?_
  ·skip
   refine Fx.RX 6 2 zd ?_ ?_
   ·skip
    refine Fx.RX 7 2 zd ?_ ?_
    ·skip
     refine Fx.Fv [0,3,4,5,6,5001,7,5002,8] ?_;refine Fx.iU [3] 12 42 [(49,aB #[O bZ,O bY,O bZ,O bY,O bZ,O bY,O j6,O jZ,O jr,O jo,Z I 1])] [] fun GJ=>?_;refine Fx.iU [] 13 42 [] [] fun Rt=>?_;refine Fx.iU [] 14 42 [] [] fun bz8=>?_
     exact Fx.uT [8,3,9,3,10] [(5,#[O bZ,O bY,O bZ,O bY,O bZ,O bY,O j6,O jZ,O jr,O jo,Z I 1]),(6,#[O bZ,O bY,O bZ,O bY,O bZ,O bY,O j6,O jZ,O jr,O jo,Z I 1]),(7,#[O bZ,O bY,O bZ,O bY,O bZ,O bY,O j6,O jZ,O jr,O jo,Z I 1])] (GJ,Rt,bz8) (by repeat first|exact Fx.Gn.refl _|refine Fx.Gn.cons ?_|refine Fx.Gn.skip ?_ zk)
    ·skip
     refine Fx.RX 1 2 zd ?_ ?_
     ·skip
      refine Fx.Fv [0,3,4,5,6,5001,5002,7,8] ?_;refine Fx.iU [3] 12 42 [(49,aB #[O bZ,O bY,O bZ,O bY,O bZ,O bY,O j6,O jZ,O jr,O jo,Z I 1])] [] fun bz9=>?_;refine Fx.iU [] 13 42 [] [] fun ab9=>?_;refine Fx.iU [] 14 42 [] [] fun ab8=>?_
      exact Fx.uT [8,3,3,9,10] [(5,#[O bZ,O bY,O bZ,O bY,O bZ,O bY,O j6,O jZ,O jr,O jo,Z I 1]),(6,#[O bZ,O bY,O bZ,O bY,O bZ,O bY,O j6,O jZ,O jr,O jo,Z I 1]),(7,#[O bZ,O bY,O bZ,O bY,O bZ,O bY,O j6,O jZ,O jr,O jo,Z I 1])] (bz9,ab9,ab8) (by repeat first|exact Fx.Gn.refl _|refine Fx.Gn.cons ?_|refine Fx.Gn.skip ?_ zk)
     ·skip
      refine Fx.Fv [0,3,4,5,6,5002,5001,7,8] ?_;refine Fx.iU [3] 12 42 [(49,aB #[O bZ,O bY,O bZ,O bY,O bZ,O bY,O j6,O jZ,O jr,O jo,Z I 1])] [] fun ab7=>?_;refine Fx.iU [] 13 42 [] [] fun ay5=>?_;refine Fx.iU [] 14 42 [] [] fun aZ4=>?_
      exact Fx.uT [8,3,3,9,10] [(5,#[O bZ,O bY,O bZ,O bY,O bZ,O bY,O j6,O jZ,O jr,O jo,Z I 1]),(6,#[O bZ,O bY,O bZ,O bY,O bZ,O bY,O j6,O jZ,O jr,O jo,Z I 1]),(7,#[O bZ,O bY,O bZ,O bY,O bZ,O bY,O j6,O jZ,O jr,O jo,Z I 1])] (ab7,ay5,aZ4) (by repeat first|exact Fx.Gn.refl _|refine Fx.Gn.cons ?_|refine Fx.Gn.skip ?_ zk)
   ·skip
    refine Fx.Fv [0,2,3,4,5,6,5001,7,8] ?_;refine Fx.iU [3,3] 12 42 [(49,aB #[O bZ,O bY,O bZ,O bY,O bZ,O bY,O j6,O jZ,O jr,O jo,Z I 1]),(51,aB #[O bZ,O bY,O bZ,O bY,O bZ,O bY,O j6,O jZ,O jr,O jo,Z I 1])] [] fun aZ3=>?_;refine Fx.iU [] 13 42 [] [] fun aM7=>?_;refine Fx.iU [] 14 42 [] [] fun aZ2=>?_
    exact Fx.uT [8,3,9,10] [(5,#[O bZ,O bY,O bZ,O bY,O bZ,O bY,O j6,O jZ,O jr,O jo,Z I 1]),(6,#[O bZ,O bY,O bZ,O bY,O bZ,O bY,O j6,O jZ,O jr,O jo,Z I 1]),(7,#[O bZ,O bY,O bZ,O bY,O bZ,O bY,O j6,O jZ,O jr,O jo,Z I 1])] (aZ3,aM7,aZ2) (by repeat first|exact Fx.Gn.refl _|refine Fx.Gn.cons ?_|refine Fx.Gn.skip ?_ zk)
  ·skip
   refine Fx.RX 6 2 zd ?_ ?_
   ·skip
    refine Fx.RX 7 2 zd ?_ ?_
    ·skip
     refine Fx.Fv [0,1,3,4,5,6,7,5002,8] ?_;refine Fx.iU [3,3] 12 42 [(49,aB #[O bZ,O bY,O bZ,O bY,O bZ,O bY,O j6,O jZ,O jr,O jo,Z I 1]),(50,aB #[O bZ,O bY,O bZ,O bY,O bZ,O bY,O j6,O jZ,O jr,O jo,Z I 1])] [] fun aZ1=>?_;refine Fx.iU [] 13 42 [] [] fun aM6=>?_;refine Fx.iU [] 14 42 [] [] fun aM5=>?_
     exact Fx.uT [8,9,3,10] [(5,#[O bZ,O bY,O bZ,O bY,O bZ,O bY,O j6,O jZ,O jr,O jo,Z I 1]),(6,#[O bZ,O bY,O bZ,O bY,O bZ,O bY,O j6,O jZ,O jr,O jo,Z I 1]),(7,#[O bZ,O bY,O bZ,O bY,O bZ,O bY,O j6,O jZ,O jr,O jo,Z I 1])] (aZ1,aM6,aM5) (by repeat first|exact Fx.Gn.refl _|refine Fx.Gn.cons ?_|refine Fx.Gn.skip ?_ zk)
    ·skip
     refine Fx.Fv [0,1,3,4,5,6,5002,7,8] ?_;refine Fx.iU [3,3] 12 42 [(49,aB #[O bZ,O bY,O bZ,O bY,O bZ,O bY,O j6,O jZ,O jr,O jo,Z I 1]),(50,aB #[O bZ,O bY,O bZ,O bY,O bZ,O bY,O j6,O jZ,O jr,O jo,Z I 1])] [] fun aZ0=>?_;refine Fx.iU [] 13 42 [] [] fun aY9=>?_;refine Fx.iU [] 14 42 [] [] fun aY8=>?_
     exact Fx.uT [8,3,9,10] [(5,#[O bZ,O bY,O bZ,O bY,O bZ,O bY,O j6,O jZ,O jr,O jo,Z I 1]),(6,#[O bZ,O bY,O bZ,O bY,O bZ,O bY,O j6,O jZ,O jr,O jo,Z I 1]),(7,#[O bZ,O bY,O bZ,O bY,O bZ,O bY,O j6,O jZ,O jr,O jo,Z I 1])] (aZ0,aY9,aY8) (by repeat first|exact Fx.Gn.refl _|refine Fx.Gn.cons ?_|refine Fx.Gn.skip ?_ zk)
   ·skip
    refine Fx.Fv [0,1,2,3,4,5,6,7,8] ?_;refine Fx.iU [3,3,3] 12 42 [(49,aB #[O bZ,O bY,O bZ,O bY,O bZ,O bY,O j6,O jZ,O jr,O jo,Z I 1]),(50,aB #[O bZ,O bY,O bZ,O bY,O bZ,O bY,O j6,O jZ,O jr,O jo,Z I 1]),(51,aB #[O bZ,O bY,O bZ,O bY,O bZ,O bY,O j6,O jZ,O jr,O jo,Z I 1])] [] fun aM4=>?_;refine Fx.iU [] 13 42 [] [] fun aM3=>?_;refine Fx.iU [] 14 42 [] [] fun aY7=>?_
    exact Fx.uT [8,9,10] [(5,#[O bZ,O bY,O bZ,O bY,O bZ,O bY,O j6,O jZ,O jr,O jo,Z I 1]),(6,#[O bZ,O bY,O bZ,O bY,O bZ,O bY,O j6,O jZ,O jr,O jo,Z I 1]),(7,#[O bZ,O bY,O bZ,O bY,O bZ,O bY,O j6,O jZ,O jr,O jo,Z I 1])] (aM4,aM3,aY7) (by repeat first|exact Fx.Gn.refl _|refine Fx.Gn.cons ?_|refine Fx.Gn.skip ?_ zk)
 ·rintro ⟨GJ,Rt,bz8⟩;refine Fx.call [] 52 [] [] (fun W M=>C5.out _ (HP.out.later M.below)) ?_;refine Fx.call [] 53 [] [] (fun W M=>C6.out _ (HP.out.later M.below)) ?_
  refine Fx.draw [8,9,10] [0,1,2,3,4,5,6,7,8,9,10,11,12,13,14,15,16,17,18,19,20,21,22,23,24,25,26,27,28,29,30,31,32,33,34,35,36,37,38,39,40,41,42,43,44,45,46,47,48,49,50,51,52,53,54,55,56,57,58,59,60,61,62,63,64,65,66,67,68,69,70,71,72,73,74,75,76,77,78,79,80,81,82,83,84,85,86,87,5088] [] [] [(5,#[O bZ,O bY,O bZ,O bY,O bZ,O bY,O aK6,O aK5,O jr,O jo,Z I 1]),(6,#[O bZ,O bY,O bZ,O bY,O bZ,O bY,O j6,O jZ,O aK4,O aK3,Z I 1]),(7,#[O bZ,O bY,O bZ,O bY,O bZ,O bY,O j6,O jZ,O jr,O jo,Z I 4])] ?_;refine Fx.call [4] 62 [(59,ak true),(61,aB #[O bZ,O bY])] [] (fun W M=>C7.out _ (HP.out.later M.below)) ?_
  refine Fx.eql 0 [] 63 true true 38 (aB #[O bZ,O bY]) (aB #[O bZ,O bY]) [] [] (fun _=>nY _ _ _) ?_;refine Fx.call [4] 68 [(65,ak true),(67,aB #[O bZ,O bY])] [] (fun W M=>C7.out _ (HP.out.later M.below)) ?_;refine Fx.eql 0 [] 69 true true 38 (aB #[O bZ,O bY]) (aB #[O bZ,O bY]) [] [] (fun _=>nY _ _ _) ?_;refine Fx.call [4,4,4] 84 [(81,ak true),(83,aB #[O jr,O jo])] [] (fun W M=>C8.out _ (HP.out.later M.below)) ?_;refine Fx.eql 0 [] 85 true true 38 (aB #[O jr,O jo]) (aB #[O jr,O jo]) [] [] (fun _=>nY _ _ _) ?_;refine Fx.call [4] 90 [(87,ak true),(89,aB #[O Tm,O Tk])] [] (fun W M=>C9.out _ (HP.out.later M.below)) ?_
  refine Fx.eql 0 [] 91 true true 38 (aB #[O Tm,O Tk]) (aB #[O Tm,O Tk]) [] [] (fun _=>nY _ _ _) ?_;refine Fx.call [5] 99 [(97,ak true),(98,aB #[Z I 0,Z I 0])] [] (fun W M=>mZ 0 _) ?_;refine Fx.call [6,6,7] 127 [(125,ak true),(126,aB #[Z I 3050000000000,Z I 3050000000000])] [] (fun W M=>mZ 3050000000000 _) ?_;refine Fx.call [8] 132 [(130,ak true)] [] (fun W M=>C10.out _ (HP.out.later M.below) (HC.out.later M.below) (HS.out.later M.below)) ?_;refine Fx.call [9] 137 [(135,ak true)] [] (fun W M=>C11.out _ (HP.out.later M.below) (HC.out.later M.below) (HS.out.later M.below)) ?_;refine Fx.call [10] 142 [(140,ak true)] [] (fun W M=>C12.out _ (HP.out.later M.below) (HC.out.later M.below) (HS.out.later M.below)) ?_;exact Fx.Cn [] [] (fun W M=>⟨rfl,M.below⟩)
end Go.Proofs.verdigrislaw28
