/- Lemmas for the proof. No condition. -/
import Derived.Test.YtbngfhgoeoncmaaGreatDoorTB11
set_option linter.unusedVariables false
set_option linter.unusedSimpArgs false
set_option maxRecDepth 100000
set_option maxHeartbeats 16000000
open Go.Ending renaming returned → ah
open Go.IntKind renaming i64 → I
open Go.Value renaming agg → aB, bool → aC, int → Z, slice → aj, tuple → aF
open List renaming all_eq_true → bZ, range → bI, take_length → eX, take_succ_eq_append_getElem → fP
open Nat renaming div_add_mod → bU, eq_zero_or_pos → bA, lt_or_ge → aH, mod_lt → iD, mul_comm → aL, mul_le_mul → dU, mul_le_mul_left → aM
namespace Go.Proofs.dR
open Go Go.RowKit Go.SW Go.Num Go.Mem Go.Proofs Go.d9
theorem X7 (b c:Nat) (zs:List Int) (z0:Int) (h0:zs[0]? =some z0) (arr:Array Value) (T:TypeId) (w:World) (hx:aA w b arr T) (hc:∀ j (h:j<zs.length),arr[j]? =some (.int .i64 zs[j])) (hl:zs.length≤9223372036854775807) :
  Calls Tryz.prog 176 #[aj (some ⟨b,0,none⟩) zs.length c] w (fun e w'=>e= ah (Z I (zs.foldl min z0))∧Below w.heap.size w w'):=by
 have hn:0<zs.length:=by
  rcases bA zs.length with h|h
  ·rw [List.getElem?_eq_none zo] at h0;cases h0
  ·exact h
 have hz0:zs[0]=z0:=by
  rw [List.getElem?_eq_getElem hn] at h0;exact Option.some.inj h0
 have h00:w.cell? ⟨b,0,none⟩=some (.int .i64 z0):=by
  rw [hx.cell,hc 0 hn,hz0]
 have lb:=hx.lt;have g1:decide ((zs.length:Int)<1)=false:=by simp;omega
 have HX:=zh hx;have HC:=zh hc;clear hx hc;go_enter Tryz.func176,Tryz.ntmps176
 go_wp2_with fail
 go_loopw [3,4] (fun m i wr=>∃ k:Nat,0<k∧k≤zs.length∧i= Z I (k:Int)∧m= Z I ((zs.take k).foldl min z0)∧Below w.heap.size w wr) (fun _ i _=>zs.length - (intOf i).toNat)
 case atStart =>
  refine ⟨1,by omega,hn,rfl,?_,Below.refl _ _⟩;cases zs with
  | nil=>simp at hn
  | cons x t =>
   simp only [List.getElem_cons_zero] at hz0;subst hz0;simp
 case round =>
  obtain ⟨k,hk0,hk,rfl,rfl,hb⟩:=hrel
  by_cases hlt:k<zs.length
  ·have hcell:=((HX.out.later hb).cell k).trans (HC.out k hlt)
   have hstep:(zs.take (k+1)).foldl min z0=min ((zs.take k).foldl min z0) zs[k]:=by
    rw [fP hlt,List.foldl_append];rfl
   have HS:=zh hstep;clear hstep;generalize zs[k]=zk at *;generalize (zs.take k).foldl min z0=mk at *;go_wp2_with fail
   go_roundw
   case rel=>exact ⟨k+1,by omega,by omega,by go_num,by rw [HS.out]<;>go_num,hb⟩
   case measure=>exact zM
  ·obtain rfl:k=zs.length:=by omega
   rw [eX];go_wp2_with fail
   go_ret
   exact ⟨rfl,hb⟩
theorem Pn (b c:Nat) (zs:List Int) (z0:Int) (h0:zs[0]? =some z0) (arr:Array Value) (T:TypeId) (w:World) (hx:aA w b arr T) (hc:∀ j (h:j<zs.length),arr[j]? =some (.int .i64 zs[j])) (hl:zs.length≤9223372036854775807) :
  Calls Tryz.prog 106 #[aj (some ⟨b,0,none⟩) zs.length c] w (fun e w'=>e= ah (Z I (zs.foldl min z0))∧Below w.heap.size w w'):=by
 have H:=zh (X7 b c zs z0 h0 arr T w hx hc hl);clear h0 hx hc hl;generalize zs.length=n at *;generalize zs.foldl min z0=z at *;go_enter Tryz.func106,Tryz.ntmps106
 go_wp2_with fail
 refine H.out.mono ?_;rintro e w1 ⟨rfl,hb1⟩;go_wp2_with fail
 go_ret
 exact ⟨rfl,hb1⟩
theorem Cy (x:Int) (h1: -9223372036854775808<x) (h2:x<9223372036854775808) (w:World):Calls Tryz.prog 109 #[Z I x] w (fun e w'=>e= ah (Z .u64 (x.natAbs:Int))∧Below w.heap.size w w'):=by
 by_cases h:x<0
 ·have e:IntKind.u64.wrap (I.wrap (-x))=(x.natAbs:Int):=by rw [IntKind.wrap_i64,IntKind.wrap_u64];omega
  go_enter Tryz.func109,Tryz.ntmps109
  go_wp2_with fail
  go_ret
  refine ⟨?_,Below.refl _ _⟩
  show Ending.returned (Z .u64 (-x))=_
  rw [show -x=(x.natAbs:Int) by omega]
 ·have e:IntKind.u64.wrap x=(x.natAbs:Int):=by rw [IntKind.wrap_u64];omega
  go_enter Tryz.func109,Tryz.ntmps109
  go_wp2_with fail
  go_ret
  exact ⟨rfl,Below.refl _ _⟩
def oF (P d:Nat) (b neg:Bool):Int × Bool:=if qL P d b≤1000000000000000000 then (iZ (qL P d b) neg,true) else (0,false)
theorem Ov {P d:Nat} {b neg:Bool} (h:1000000000000000000<P / d):oF P d b neg=(0,false):=by
 unfold oF qL;generalize P / d=q at *;rw [if_neg];split<;>omega
theorem LQ {P d:Nat} {neg:Bool} (hr:0<P%d) (h:1000000000000000000<P / d+1):oF P d true neg=(0,false):=by
 unfold oF qL;rw [if_pos (⟨hr,rfl⟩:0<P%d∧true=true),if_neg (by generalize P / d=q at*; omega)]
theorem R8 {P d:Nat} {neg:Bool} (hr:0<P%d) (h:P / d+1≤1000000000000000000):oF P d true neg=(iZ (P / d+1) neg,true):=by
 unfold oF qL;rw [if_pos (⟨hr,rfl⟩:0<P%d∧true=true),if_pos h]
theorem R9 {P d:Nat} {b neg:Bool} (hr:P%d=0∨b=false) (h:P / d≤1000000000000000000):oF P d b neg=(iZ (P / d) neg,true):=by
 have hn:¬ (0<P%d∧b=true):=by
  rintro ⟨h1,h2⟩
  rcases hr with h3|h3
  ·omega
  ·rw [h3] at h2;cases h2
 have e:qL P d b=P / d:=if_neg hn;unfold oF;rw [e,if_pos h]
def lJ (x y d:Int) (up:Bool):Int × Bool:=jL (if d<0 then -x else x) y d.natAbs up
theorem LP (d:Nat) (b n1 n2:Bool):oF 0 d b n1=oF 0 d b n2:=by
 have e:qL 0 d b=0:=by unfold qL;simp
 unfold oF iZ;rw [e];cases n1<;>cases n2<;>rfl
theorem R7 (d:Nat) (b c n:Bool):oF 0 d b n=oF 0 d c n:=by
 have e:∀ b,qL 0 d b=0:=fun b=>by unfold qL;simp
 unfold oF;rw [e,e]
theorem Ob (n:Nat):iZ n true= -(n:Int):=rfl
theorem Od (n:Nat):iZ n false=(n:Int):=rfl
theorem Ou (x y d:Int) (hd:d≠0) (up:Bool):lJ x y d up=oF (x.natAbs*y.natAbs) d.natAbs (up != ((decide (x<0) != decide (y<0)) != decide (d<0))) ((decide (x<0) != decide (y<0)) != decide (d<0)):=by
 have hd':0<d.natAbs:=by omega
 unfold lJ
 by_cases h:d<0
 ·rw [if_pos h,decide_eq_true h];have e:=Fg (-x) y hd' up;rw [Int.natAbs_neg] at e;refine e.trans ?_
  show oF _ _ _ _=_
  by_cases h0:x=0
  ·subst h0;rw [Int.natAbs_zero,Nat.zero_mul];exact (LP _ _ _ _).trans (R7 _ _ _ _)
  ·have:decide (-x<0)= !decide (x<0):=by
    by_cases hx:x<0
    ·rw [decide_eq_true hx,decide_eq_false zo];rfl
    ·rw [decide_eq_false hx,decide_eq_true zo];rfl
   rw [this];cases decide (x<0)<;>cases decide (y<0)<;>rfl
 ·rw [if_neg h,decide_eq_false h];refine (Fg x y hd' up).trans ?_;rw [Bool.bne_false];rfl
theorem zq (x y d:Int) (up:Bool) (hx:x.natAbs≤1000000000000000000) (hy:y.natAbs≤1000000000000000000) (hd:d≠0) (hd2:d.natAbs≤1000000000000000000) (w:World) :
    Calls Tryz.prog 57 #[Z I x,Z I y,Z I d,aC up] w (fun e w'=>e= ah (aF #[Z I (lJ x y d up).1,aC (lJ x y d up).2])∧Below w.heap.size w w'):=by
  have S1:=zh (fun W=>Cy x zo zo W);have S2:=zh (fun W=>Cy y zo zo W);have S3:=zh (fun W=>Cy d zo zo W);have hq:=Ou x y d hd up;obtain ⟨nx,ex⟩:∃ b,decide (x<0)=b:=⟨_,rfl⟩;obtain ⟨ny,ey⟩:∃ b,decide (y<0)=b:=⟨_,rfl⟩;obtain ⟨nd,ed⟩:∃ b,decide (d<0)=b:=⟨_,rfl⟩;rw [ex,ey,ed] at hq;obtain ⟨P,eP⟩:∃ P,x.natAbs*y.natAbs=P:=⟨_,rfl⟩;obtain ⟨D,eD⟩:∃ D,d.natAbs=D:=⟨_,rfl⟩;rw [eP,eD] at hq;rw [eD] at S3
  have hP:P<18446744073709551616*18446744073709551616:=by
    rw [← eP]
    calc x.natAbs*y.natAbs≤1000000000000000000*1000000000000000000:=dU hx hy
      _<_:=by decide
  have hD:0<D:=by omega
  have hD2:D≤1000000000000000000:=by omega
  rw [hq]
  have M1:Hid (∀ W,Calls Tryz.prog 108 #[Z .u64 (x.natAbs:Int),Z .u64 (y.natAbs:Int)] W (fun e w'=>e= ah (aF #[Z .u64 ((P / 18446744073709551616:Nat):Int),Z .u64 ((P%18446744073709551616:Nat):Int)])∧Below W.heap.size W w')):=zh fun W=>by
    refine (Tryz.bits_Mul64 x.natAbs y.natAbs zo zo W).mono ?_;rintro e w' ⟨rfl,rfl⟩;rw [eP];exact ⟨rfl,Below.refl _ _⟩
  have hlo:=iD P (show 0<18446744073709551616 by omega);have Te:=bU P 18446744073709551616
  have D1:Hid (P / 18446744073709551616<D→∀ W,Calls Tryz.prog 110 #[Z .u64 ((P / 18446744073709551616:Nat):Int),Z .u64 ((P%18446744073709551616:Nat):Int),Z .u64 (D:Int)] W (fun e w'=>e= ah (aF #[Z .u64 ((P / D:Nat):Int),Z .u64 ((P%D:Nat):Int)])∧Below W.heap.size W w')):=zh fun hlt W=>by
    have:=bits.Q8 (P / 18446744073709551616) (P%18446744073709551616) D hlt zo hlo W;rw [show P / 18446744073709551616*18446744073709551616+P%18446744073709551616=P by rw [aL];exact Te] at this;exact this
  have hbig:D≤P / 18446744073709551616→18446744073709551616≤P / D:=fun h=>by
    rw [Nat.le_div_iff_mul_le hD];have:=aM 18446744073709551616 h;omega
  obtain ⟨hi,ehi⟩:∃ a,P / 18446744073709551616=a:=⟨_,rfl⟩;obtain ⟨lo,elo⟩:∃ a,P%18446744073709551616=a:=⟨_,rfl⟩;rw [ehi,elo] at M1 D1;rw [ehi] at hbig;have Ur:=zh hbig;clear hx hy hd hd2 hq eP eD hP hlo Te ehi elo hbig hD hD2;obtain ⟨q,eq⟩:∃ a,P / D=a:=⟨_,rfl⟩;obtain ⟨r,er⟩:∃ a,P%D=a:=⟨_,rfl⟩;rw [eq,er] at D1;rw [eq] at Ur;have Q1:Hid (∀ b neg,1000000000000000000<q→oF P D b neg=(0,false)):=zh fun b neg h=>Ov (by rw [eq];exact h);have Q2:Hid (∀ neg,0<r→1000000000000000000<q+1→oF P D true neg=(0,false)):=zh fun neg h1 h2=>LQ (by rw [er];exact h1) (by rw [eq];exact h2);have Q3:Hid (∀ neg,0<r→q+1≤1000000000000000000→oF P D true neg=(iZ (q+1) neg,true)):=zh fun neg h1 h2=>by rw [R8 (by rw [er];exact h1) (by rw [eq];exact h2),eq]
  have Q4:Hid (∀ b neg,(r=0∨b=false)→q≤1000000000000000000→oF P D b neg=(iZ q neg,true)):=zh fun b neg h1 h2=>by rw [R9 (by rw [er];exact h1) (by rw [eq];exact h2),eq]
  clear eq er;generalize oF P D=QR at *;obtain ⟨ng,hn⟩:∃ b,((nx != ny) != nd)=b:=⟨_,rfl⟩;rw [hn];obtain ⟨bb,hb0⟩:∃ b,(up != ng)=b:=⟨_,rfl⟩;rw [hb0];obtain ⟨⟨z1,z2⟩,hz⟩:∃ z,QR bb ng=z:=⟨_,rfl⟩;rw [hz];have HZ:=zh hz;clear hz;simp only;cases bb<;>cases nx<;>cases ny<;>cases nd<;>cases up
  all_goals first|(obtain rfl:true=ng:=hn)|(obtain rfl:false=ng:=hn)
  all_goals first|(exfalso;revert hb0;decide)|skip
  all_goals
    clear hb0;go_enter Tryz.func57,Tryz.ntmps57
    go_wp2_with fail
    refine (S1.out _).mono ?_;rintro e w1 ⟨rfl,hb⟩;have HB:=zh hb;clear hb;go_wp2_with fail
    refine (S2.out _).mono ?_;rintro e w2 ⟨rfl,hb⟩;replace HB:=zh (Bt HB.out hb);clear hb;go_wp2_with fail
    refine (M1.out _).mono ?_;rintro e w3 ⟨rfl,hb⟩;replace HB:=zh (Bt HB.out hb);clear hb;go_wp2_with fail
    refine (S3.out _).mono ?_;rintro e w4 ⟨rfl,hb⟩;replace HB:=zh (Bt HB.out hb);clear hb
    rcases aH hi D with c1|c1
    rotate_left
    · have g1:decide (D≤hi)=true:=decide_eq_true zo
      have g1':D≤hi:=c1;obtain ⟨rfl,rfl⟩:z1=0∧z2=false:=by have h:=HZ.out;rw [Q1.out _ _ (by have:=Ur.out c1;omega)] at h;cases h;exact ⟨rfl,rfl⟩
      clear c1 Q1 Q2 Q3 Q4 ex ey ed;go_wp2_with fail
      go_ret2
      exact ⟨rfl,HB.out⟩
    have g1:decide (D≤hi)=false:=decide_eq_false zo;have g1':¬ D≤hi:=by omega
    have D2:=zh (D1.out c1);clear c1 ex ey ed;go_wp2_with fail
    refine (S3.out _).mono ?_;rintro e w5 ⟨rfl,hb⟩;replace HB:=zh (Bt HB.out hb);clear hb;go_wp2_with fail
    refine (D2.out _).mono ?_;rintro e w6 ⟨rfl,hb⟩;replace HB:=zh (Bt HB.out hb);clear hb g1 g1' D1 D2
    rcases aH 1000000000000000000 q with c2|c2
    · have g2:decide ((1000000000000000000:Int)<(q:Int))=true:=decide_eq_true zo
      obtain ⟨rfl,rfl⟩:z1=0∧z2=false:=by have h:=HZ.out;rw [Q1.out _ _ c2] at h;cases h;exact ⟨rfl,rfl⟩
      have C2:=zh c2;clear c2 Q1 Q2 Q3 Q4;go_wp2_with fail
      go_ret2
      exact ⟨rfl,HB.out⟩
    have g2:decide ((1000000000000000000:Int)<(q:Int))=false:=decide_eq_false zo;have w1:I.wrap (q:Int)=(q:Int):=by rw [IntKind.wrap_i64];omega
    have w2:I.wrap (-(q:Int))= -(q:Int):=by rw [IntKind.wrap_i64];omega
    have w3:IntKind.u64.wrap ((q:Int)+1)=((q+1:Nat):Int):=by rw [IntKind.wrap_u64];omega
    rcases bA r with c3|c3
    · subst c3
      have h:=HZ.out;rw [Q4.out _ _ (.inl rfl) c2] at h
      first|rw [Ob] at h|rw [Od] at h
      cases h
      have C2:=zh c2;clear c2 Q1 Q2 Q3 Q4 w3;go_wp2_with fail
      go_ret2
      exact ⟨rfl,HB.out⟩
    have g3:(0:Int)<(r:Int):=by omega
    first
      | (have h:=HZ.out
         rw [Q4.out false _ (Or.inr rfl) c2] at h
         first|rw [Ob] at h|rw [Od] at h
         cases h
         have C2:=zh (And.intro c2 c3);clear c2 c3 Q1 Q2 Q3 Q4 w3;go_wp2_with fail
         go_ret2
         exact ⟨rfl,HB.out⟩)
      | (obtain ⟨q',eq'⟩:∃ a,q+1=a:=⟨_,rfl⟩
         rw [eq'] at w3 Q2 Q3
         rcases aH 1000000000000000000 q' with c4|c4
         · have g4:decide ((1000000000000000000:Int)<(q':Int))=true:=decide_eq_true zo
           obtain ⟨rfl,rfl⟩:z1=0∧z2=false:=by have h:=HZ.out;rw [Q2.out _ c3 c4] at h;cases h;exact ⟨rfl,rfl⟩
           have C2:=zh (And.intro c2 (And.intro c3 (And.intro c4 eq')));clear c2 c3 c4 eq' Q1 Q2 Q3 Q4 w1 w2;go_wp2_with fail
           go_ret2
           exact ⟨rfl,HB.out⟩
         · have g4:decide ((1000000000000000000:Int)<(q':Int))=false:=decide_eq_false zo
           have w1':I.wrap (q':Int)=(q':Int):=by rw [IntKind.wrap_i64];omega
           have w2':I.wrap (-(q':Int))= -(q':Int):=by rw [IntKind.wrap_i64];omega
           have h:=HZ.out;rw [Q3.out _ c3 c4] at h
           first|rw [Ob] at h|rw [Od] at h
           cases h
           have C2:=zh (And.intro c2 (And.intro c3 (And.intro c4 eq')));clear c2 c3 c4 eq' Q1 Q2 Q3 Q4 w1 w2;go_wp2_with fail
           go_ret2
           exact ⟨rfl,HB.out⟩)
theorem Ot (x y:Int) {d:Nat} (up:Bool):lJ x y (d:Int) up=jL x y d up:=by
 unfold lJ;rw [if_neg zo,Int.natAbs_natCast]
theorem Fe (x y:Int) (d:Nat) (up:Bool) (hx:x.natAbs≤1000000000000000000) (hy:y.natAbs≤1000000000000000000) (hd:0<d) (hd2:d≤1000000000000000000) (w:World) :
  Calls Tryz.prog 57 #[Z I x,Z I y,Z I (d:Int),aC up] w (fun e w'=>e= ah (aF #[Z I (jL x y d up).1,aC (jL x y d up).2])∧Below w.heap.size w w'):=by
 have h:=zq x y (d:Int) up hx hy zo zo w;rw [Ot] at h;exact h
theorem Ud (x y:Int) (up:Bool) (hx:x.natAbs≤1000000000000000000) (hy:y.natAbs≤1000000000000000000) (w:World) :
  Calls Tryz.prog 56 #[Z I x,Z I y,aC up] w (fun e w'=>e= ah (aF #[Z I (jL x y 1000000000000 up).1,aC (jL x y 1000000000000 up).2])∧Below w.heap.size w w'):=by
 have H:=zh (fun W=>Fe x y 1000000000000 up hx hy zo zo W);generalize jL x y 1000000000000 up=z at *;obtain ⟨z1,z2⟩:=z;simp only at *;go_enter Tryz.func56,Tryz.ntmps56
 go_wp2_with fail
 refine (H.out _).mono ?_;rintro e w1 ⟨rfl,hb⟩;go_wp2_with fail
 go_ret2
 exact ⟨rfl,hb⟩
def J6 (a:Int × Int) (k:Nat):Int:=if k / 2=0 then a.1 else a.2
def Ic (b:Int × Int) (k:Nat):Int:=if k%2=0 then b.1 else b.2
def sj (Q:Int→Int→Bool→Int × Bool) (a b:Int × Int) (k:Nat):Int × Bool:=Q (J6 a k) (Ic b k) false
def sw (Q:Int→Int→Bool→Int × Bool) (a b:Int × Int) (k:Nat):Int × Bool:=Q (J6 a k) (Ic b k) true
def Qg (Q:Int→Int→Bool→Int × Bool) (a b:Int × Int):Bool:=(bI 4).all fun k=>(sj Q a b k).2&&(sw Q a b k).2
def qV (Q:Int→Int→Bool→Int × Bool) (a b:Int × Int):(Int × Int) × Int:=if Qg Q a b then iV ([(sj Q a b 0).1,(sj Q a b 1).1,(sj Q a b 2).1,(sj Q a b 3).1].foldl min (sj Q a b 0).1) ([(sw Q a b 0).1,(sw Q a b 1).1,(sw Q a b 2).1,(sw Q a b 3).1].foldl max (sw Q a b 0).1) else ((0,0),6)
def ME (f:Nat→Int × Bool) (k q:Nat):Int:=if q<k then (f q).1 else 0
def wh (f:Nat→Int × Bool) (k:Nat):Array Value:=#[Z I (ME f k 0),Z I (ME f k 1),Z I (ME f k 2),Z I (ME f k 3)]
theorem aA.aj4 (w:World) (o o2 o3 o4:Obj) (cs:Array Value) (T:TypeId):aA (((((w.alloc o).alloc o2).alloc o3).alloc o4).alloc (.cells cs T (0,0))) (w.heap.size+1+1+1+1) cs T:=aA.uy zi
theorem af8 (w:World) (c0:Array Value) (T0:TypeId) (c1:Array Value) (T1:TypeId) (c2:Array Value) (T2:TypeId) (c3:Array Value) (T3:TypeId) (c4:Array Value) (T4:TypeId):∃ y,((((w.alloc (.cells c0 T0 (0,0))).alloc (.cells c1 T1 (0,0))).alloc (.cells c2 T2 (0,0))).alloc (.cells c3 T3 (0,0))).alloc (.cells c4 T4 (0,0))=y∧Below w.heap.size w y∧Hid (aA y (w.heap.size) c0 T0)∧Hid (aA y (w.heap.size+1) c1 T1)∧Hid (aA y (w.heap.size+1+1) c2 T2)∧Hid (aA y (w.heap.size+1+1+1) c3 T3)∧Hid (aA y (w.heap.size+1+1+1+1) c4 T4):=⟨_,rfl,bG (bG (bG (bG (bG (Below.refl _ _) _) _) _) _) _,zh (aA.alloc (aA.alloc (aA.alloc (aA.alloc (aA.new _ _ _) _) _) _) _),zh (aA.alloc (aA.alloc (aA.alloc (aA.nX _ _ _ _) _) _) _),zh (aA.alloc (aA.alloc (aA.at2 _ _ _ _ _) _) _),zh (aA.alloc (aA.at3 _ _ _ _ _ _) _),zh (aA.aj4 _ _ _ _ _ _ _)⟩
structure Ie (Q:Int→Int→Bool→Int × Bool) (w0:World) (a b:Int × Int) (wr:World) (k:Nat):Prop where
 ba:aA wr w0.heap.size #[Z I a.1,Z I a.2] 26
 bb:aA wr (w0.heap.size+1) #[Z I b.1,Z I b.2] 26
 br:aA wr (w0.heap.size+1+1) #[Z I 0,Z I 0] 26
 bl:aA wr (w0.heap.size+1+1+1) (wh (sj Q a b) k) 164
 bh:aA wr (w0.heap.size+1+1+1+1) (wh (sw Q a b) k) 164
 bw:Below w0.heap.size w0 wr
 ok:∀ q,q<k→(sj Q a b q).2=true∧(sw Q a b q).2=true
theorem Ie.later {Q:Int→Int→Bool→Int × Bool} {w0 wr w':World} {a b:Int × Int} {k:Nat} (h:Ie Q w0 a b wr k) (hb:Below wr.heap.size wr w'):Ie Q w0 a b w' k :=
 ⟨h.ba.later hb,h.bb.later hb,h.br.later hb,h.bl.later hb,h.bh.later hb,Bt h.bw hb,h.ok⟩
theorem GA (f:Nat→Int × Bool) {k:Nat} (hk:k<4):(wh f k).setIfInBounds k (Z I (f k).1)=wh f (k+1):=by
 have:k=0∨k=1∨k=2∨k=3:=by omega
 rcases this with rfl|rfl|rfl|rfl<;>simp [wh,ME]
theorem Ie.step {Q:Int→Int→Bool→Int × Bool} {w0 wr:World} {a b:Int × Int} {k:Nat} (h:Ie Q w0 a b wr k) (hk:k<4) (h1:(sj Q a b k).2=true) (h2:(sw Q a b k).2=true) :
  Ie Q w0 a b ((wr.setCell ⟨w0.heap.size+1+1+1,k,none⟩ (Z I (sj Q a b k).1)).setCell ⟨w0.heap.size+1+1+1+1,k,none⟩ (Z I (sw Q a b k).1)) (k+1) where
 ba:=aA.setOther (aA.setOther h.ba _ (by first|(simp;done)|(simp;omega))) _ (by first|(simp;done)|(simp;omega))
 bb:=aA.setOther (aA.setOther h.bb _ (by first|(simp;done)|(simp;omega))) _ (by first|(simp;done)|(simp;omega))
 br:=aA.setOther (aA.setOther h.br _ zi) _ (by first|(simp;done)|(simp;omega))
 bl:=by
  have:=aA.setOther (h.bl.set k (Z I (sj Q a b k).1)) (a:=⟨w0.heap.size+1+1+1+1,k,none⟩) (Z I (sw Q a b k).1) zi
  rwa [GA _ hk] at this
 bh:=by
  have:=(aA.setOther h.bh (a:=⟨w0.heap.size+1+1+1,k,none⟩) (Z I (sj Q a b k).1) zi).set k (Z I (sw Q a b k).1)
  rwa [GA _ hk] at this
 bw:=(h.bw.setCell (p:=⟨w0.heap.size+1+1+1,k,none⟩) (by simp;omega) _).setCell (p:=⟨w0.heap.size+1+1+1+1,k,none⟩) (by simp;omega) _
 ok:=fun q hq=>by
  rcases aH q k with h'|h'
  ·exact h.ok q h'
  ·obtain rfl:q=k:=by omega
   exact ⟨h1,h2⟩
theorem Ky (f:Nat→Int × Bool) (j:Nat) (h:j<[(f 0).1,(f 1).1,(f 2).1,(f 3).1].length):(wh f 4)[j]? =some (.int .i64 [(f 0).1,(f 1).1,(f 2).1,(f 3).1][j]):=by
 have:j=0∨j=1∨j=2∨j=3:=by have:j<4:=h;omega
 rcases this with rfl|rfl|rfl|rfl<;>simp [wh,ME]
theorem RO {Q:Int→Int→Bool→Int × Bool} {a b:Int × Int} {k:Nat} (hk:k<4) (h:(sj Q a b k).2=false∨(sw Q a b k).2=false):qV Q a b=((0,0),6):=by
 unfold qV;rw [if_neg];intro hf;unfold Qg at hf;have:=List.all_eq_true.1 hf k (by simp [hk])
 rcases h with h|h<;>simp [h] at this
theorem uf (Q:Int→Int→Bool→Int × Bool) (F:FuncId) (fr:Array Value) (x y z t:Int) (w:World)
  (HC:∀ k up W,Below w.heap.size w W→Calls Tryz.prog F (#[Z I (J6 (x,y) k),Z I (Ic (z,t) k),aC up]++fr) W (fun e w'=>e= ah (aF #[Z I (Q (J6 (x,y) k) (Ic (z,t) k) up).1,aC (Q (J6 (x,y) k) (Ic (z,t) k) up).2])∧Below W.heap.size W w'))
  (hen:∀ args W,(callFunc F args).run Tryz.prog W= .ok (.enter F args) W) :
  Calls Tryz.prog 55 #[aB #[Z I x,Z I y],aB #[Z I z,Z I t],.func (.func F) #[] fr] w (fun e w'=>e= ah (ig (qV Q (x,y) (z,t)))∧Below w.heap.size w w'):=by
 have HL:Hid (∀ k W,Below w.heap.size w W→Calls Tryz.prog F (#[Z I (J6 (x,y) k),Z I (Ic (z,t) k),aC false]++fr) W (fun e w'=>e= ah (aF #[Z I (sj Q (x,y) (z,t) k).1,aC (sj Q (x,y) (z,t) k).2])∧Below W.heap.size W w')):=zh fun k W h=>HC k false W h;have HH:Hid (∀ k W,Below w.heap.size w W→Calls Tryz.prog F (#[Z I (J6 (x,y) k),Z I (Ic (z,t) k),aC true]++fr) W (fun e w'=>e= ah (aF #[Z I (sw Q (x,y) (z,t) k).1,aC (sw Q (x,y) (z,t) k).2])∧Below W.heap.size W w')):=zh fun k W h=>HC k true W h;clear HC;have HN:=zh (fun k (hk:k<4) h=>RO (Q:=Q) (a:=(x,y)) (b:=(z,t)) (k:=k) hk h);obtain ⟨⟨⟨s1,s2⟩,s3⟩,es⟩:∃ s,qV Q (x,y) (z,t)=s:=⟨_,rfl⟩;rw [es];have HS:=zh es;unfold ig;clear es;go_enter Tryz.func55,Tryz.ntmps55
 go_wp2_with fail
 go_step3
 go_wp2_with fail
 go_step3
 go_wp2_with fail
 obtain ⟨w0,EW,hb,X3,X4,X6,X8,X9⟩:=af8 w #[Z I x,Z I y] 26 #[Z I z,Z I t] 26 #[Z I 0,Z I 0] 26 #[Z I 0,Z I 0,Z I 0,Z I 0] 164 #[Z I 0,Z I 0,Z I 0,Z I 0] 164;rw [EW];clear EW;have Vd:Hid (Ie Q w (x,y) (z,t) w0 0):=zh ⟨X3.out,X4.out,X6.out,X8.out,X9.out,hb,fun q h=>absurd h zo⟩;clear X3 X4 X6 X8 X9 hb
 go_loopw [10,24] (fun fv iv wr=>∃ i:Int,fv= aC true∧iv= Z I i∧Hid ((i=0∧Ie Q w (x,y) (z,t) wr 0)∨(i=1∧Ie Q w (x,y) (z,t) wr 2)∨(i=2∧Ie Q w (x,y) (z,t) wr 4))) (fun _ iv _=>2 - (intOf iv).toNat)
 case atStart=>exact ⟨0,rfl,rfl,zh (.inl ⟨rfl,Vd.out⟩)⟩
 case round =>
  clear Vd;obtain ⟨i,rfl,rfl,HI⟩:=hrel
  rcases HI.out with ⟨rfl,hS⟩|⟨rfl,hS⟩|⟨rfl,hS⟩
  ·clear HI;have hix:∀ W,(Instr.index 165 (aB #[Z I x,Z I y]) (Z I 0)).run Tryz.prog W= .ok (Z I x) W:=fun W=>by kernel_rfl
   obtain ⟨c4,l4⟩:=(zh hS.bb).cl;have Vd:=zh hS;clear hS;go_wp2_with fail
   clear hix c4 l4
   go_loopw [10,33] (fun fv jv wr=>∃ j:Int,fv= aC true∧jv= Z I j∧Hid ((j=0∧Ie Q w (x,y) (z,t) wr 0)∨(j=1∧Ie Q w (x,y) (z,t) wr 1)∨(j=2∧Ie Q w (x,y) (z,t) wr 2))) (fun _ jv _=>2 - (intOf jv).toNat)
   case atStart=>exact ⟨0,rfl,rfl,zh (.inl ⟨rfl,Vd.out⟩)⟩
   case round =>
    clear Vd;obtain ⟨j,rfl,rfl,HJ⟩:=hrel
    rcases HJ.out with ⟨rfl,hS⟩|⟨rfl,hS⟩|⟨rfl,hS⟩
    ·clear HJ;obtain ⟨⟨l1,l2⟩,el⟩:∃ v,sj Q (x,y) (z,t) 0=v:=⟨_,rfl⟩;obtain ⟨⟨h1,h2⟩,eh⟩:∃ v,sw Q (x,y) (z,t) 0=v:=⟨_,rfl⟩;have Jz:=zh (HL.out 0);have JA:=zh (HH.out 0);rw [el] at Jz;rw [eh] at JA;have EL:=zh (And.intro el eh);have Hy:=zh hS;clear el eh hS;have I4:∀ W,(Instr.index 165 (aB #[Z I z,Z I t]) (Z I 0)).run Tryz.prog W= .ok (Z I z) W:=fun W=>by kernel_rfl
     go_wp2_with fail
     refine (Jz.out _ Hy.out.bw).mono ?_;rintro e w1 ⟨rfl,hb⟩;have Jy:=zh (Hy.out.later hb);clear hb I4 Jz Hy;go_wp2_with fail
     refine (JA.out _ Jy.out.bw).mono ?_;rintro e w2 ⟨rfl,hb⟩;have mg:=zh (Jy.out.later hb);clear hb JA Jy;cases l2
     ·obtain ⟨rfl,rfl,rfl⟩:s1=0∧s2=0∧s3=6:=by have h:=HS.out;rw [HN.out 0 zo (by rw [EL.out.1];exact .inl rfl)] at h;cases h;exact ⟨rfl,rfl,rfl⟩
      obtain ⟨c6,l6,f6⟩:=(zh mg.out.br).clf;go_wp2_with fail
      rw [Exit.noGoto_ret];exact bodyPost_ret (v:=aF #[aB #[Z I 0,Z I 0],Z I 6]) (by have h6:=((mg.out.br.set 0 (Z I 0)).set 1 (Z I 0)).cell;have FU:=h6 0;have Aa:=h6 1;simp [results,Tryz.results55,go_sem,FU,Aa]) rfl ⟨rfl,(mg.out.bw.setCell (p:=⟨w.heap.size+1+1,0,none⟩) (by simp;omega) _).setCell (p:=⟨w.heap.size+1+1,1,none⟩) (by simp;omega) _⟩
     ·cases h2
      ·obtain ⟨rfl,rfl,rfl⟩:s1=0∧s2=0∧s3=6:=by have h:=HS.out;rw [HN.out 0 zo (by rw [EL.out.2];exact .inr rfl)] at h;cases h;exact ⟨rfl,rfl,rfl⟩
       obtain ⟨c6,l6,f6⟩:=(zh mg.out.br).clf;go_wp2_with fail
       rw [Exit.noGoto_ret];exact bodyPost_ret (v:=aF #[aB #[Z I 0,Z I 0],Z I 6]) (by have h6:=((mg.out.br.set 0 (Z I 0)).set 1 (Z I 0)).cell;have FU:=h6 0;have Aa:=h6 1;simp [results,Tryz.results55,go_sem,FU,Aa]) rfl ⟨rfl,(mg.out.bw.setCell (p:=⟨w.heap.size+1+1,0,none⟩) (by simp;omega) _).setCell (p:=⟨w.heap.size+1+1,1,none⟩) (by simp;omega) _⟩
      ·obtain ⟨c8,l8,f8⟩:=(zh mg.out.bl).clf;obtain ⟨c9,l9,f9⟩:=(zh mg.out.bh).clf;unfold wh at c8 c9;have Jw:=zh (mg.out.step (k:=0) zo (by rw [EL.out.1]) (by rw [EL.out.2]));rw [EL.out.1,EL.out.2] at Jw;clear mg;go_wp2_with fail
       go_roundw
       case rel=>exact ⟨1,rfl,rfl,zh (.inr<| .inl ⟨rfl,Jw.out⟩)⟩
       case measure=>simp [intOf]
    ·clear HJ;obtain ⟨⟨l1,l2⟩,el⟩:∃ v,sj Q (x,y) (z,t) 1=v:=⟨_,rfl⟩;obtain ⟨⟨h1,h2⟩,eh⟩:∃ v,sw Q (x,y) (z,t) 1=v:=⟨_,rfl⟩;have Jz:=zh (HL.out 1);have JA:=zh (HH.out 1);rw [el] at Jz;rw [eh] at JA;have EL:=zh (And.intro el eh);have Hy:=zh hS;clear el eh hS;have I4:∀ W,(Instr.index 165 (aB #[Z I z,Z I t]) (Z I 1)).run Tryz.prog W= .ok (Z I t) W:=fun W=>by kernel_rfl
     go_wp2_with fail
     refine (Jz.out _ Hy.out.bw).mono ?_;rintro e w1 ⟨rfl,hb⟩;have Jy:=zh (Hy.out.later hb);clear hb I4 Jz Hy;go_wp2_with fail
     refine (JA.out _ Jy.out.bw).mono ?_;rintro e w2 ⟨rfl,hb⟩;have mg:=zh (Jy.out.later hb);clear hb JA Jy;cases l2
     ·obtain ⟨rfl,rfl,rfl⟩:s1=0∧s2=0∧s3=6:=by have h:=HS.out;rw [HN.out 1 zo (by rw [EL.out.1];exact .inl rfl)] at h;cases h;exact ⟨rfl,rfl,rfl⟩
      obtain ⟨c6,l6,f6⟩:=(zh mg.out.br).clf;go_wp2_with fail
      rw [Exit.noGoto_ret];exact bodyPost_ret (v:=aF #[aB #[Z I 0,Z I 0],Z I 6]) (by have h6:=((mg.out.br.set 0 (Z I 0)).set 1 (Z I 0)).cell;have FU:=h6 0;have Aa:=h6 1;simp [results,Tryz.results55,go_sem,FU,Aa]) rfl ⟨rfl,(mg.out.bw.setCell (p:=⟨w.heap.size+1+1,0,none⟩) (by simp;omega) _).setCell (p:=⟨w.heap.size+1+1,1,none⟩) (by simp;omega) _⟩
     ·cases h2
      ·obtain ⟨rfl,rfl,rfl⟩:s1=0∧s2=0∧s3=6:=by have h:=HS.out;rw [HN.out 1 zo (by rw [EL.out.2];exact .inr rfl)] at h;cases h;exact ⟨rfl,rfl,rfl⟩
       obtain ⟨c6,l6,f6⟩:=(zh mg.out.br).clf;go_wp2_with fail
       rw [Exit.noGoto_ret];exact bodyPost_ret (v:=aF #[aB #[Z I 0,Z I 0],Z I 6]) (by have h6:=((mg.out.br.set 0 (Z I 0)).set 1 (Z I 0)).cell;have FU:=h6 0;have Aa:=h6 1;simp [results,Tryz.results55,go_sem,FU,Aa]) rfl ⟨rfl,(mg.out.bw.setCell (p:=⟨w.heap.size+1+1,0,none⟩) (by simp;omega) _).setCell (p:=⟨w.heap.size+1+1,1,none⟩) (by simp;omega) _⟩
      ·obtain ⟨c8,l8,f8⟩:=(zh mg.out.bl).clf;obtain ⟨c9,l9,f9⟩:=(zh mg.out.bh).clf;unfold wh at c8 c9;have Jw:=zh (mg.out.step (k:=1) zo (by rw [EL.out.1]) (by rw [EL.out.2]));rw [EL.out.1,EL.out.2] at Jw;clear mg;go_wp2_with fail
       go_roundw
       case rel=>exact ⟨2,rfl,rfl,zh (.inr<| .inr ⟨rfl,Jw.out⟩)⟩
       case measure=>simp [intOf]
    ·have Jw:=zh hS;clear hS HJ;go_wp2_with fail
     go_roundw
     case rel=>exact ⟨1,rfl,rfl,zh (.inr<| .inl ⟨rfl,Jw.out⟩)⟩
     case measure=>simp [intOf]
  ·clear HI;have hix:∀ W,(Instr.index 165 (aB #[Z I x,Z I y]) (Z I 1)).run Tryz.prog W= .ok (Z I y) W:=fun W=>by kernel_rfl
   obtain ⟨c4,l4⟩:=(zh hS.bb).cl;have Vd:=zh hS;clear hS;go_wp2_with fail
   clear hix c4 l4
   go_loopw [10,33] (fun fv jv wr=>∃ j:Int,fv= aC true∧jv= Z I j∧Hid ((j=0∧Ie Q w (x,y) (z,t) wr 2)∨(j=1∧Ie Q w (x,y) (z,t) wr 3)∨(j=2∧Ie Q w (x,y) (z,t) wr 4))) (fun _ jv _=>2 - (intOf jv).toNat)
   case atStart=>exact ⟨0,rfl,rfl,zh (.inl ⟨rfl,Vd.out⟩)⟩
   case round =>
    clear Vd;obtain ⟨j,rfl,rfl,HJ⟩:=hrel
    rcases HJ.out with ⟨rfl,hS⟩|⟨rfl,hS⟩|⟨rfl,hS⟩
    ·clear HJ;obtain ⟨⟨l1,l2⟩,el⟩:∃ v,sj Q (x,y) (z,t) 2=v:=⟨_,rfl⟩;obtain ⟨⟨h1,h2⟩,eh⟩:∃ v,sw Q (x,y) (z,t) 2=v:=⟨_,rfl⟩;have Jz:=zh (HL.out 2);have JA:=zh (HH.out 2);rw [el] at Jz;rw [eh] at JA;have EL:=zh (And.intro el eh);have Hy:=zh hS;clear el eh hS;have I4:∀ W,(Instr.index 165 (aB #[Z I z,Z I t]) (Z I 0)).run Tryz.prog W= .ok (Z I z) W:=fun W=>by kernel_rfl
     go_wp2_with fail
     refine (Jz.out _ Hy.out.bw).mono ?_;rintro e w1 ⟨rfl,hb⟩;have Jy:=zh (Hy.out.later hb);clear hb I4 Jz Hy;go_wp2_with fail
     refine (JA.out _ Jy.out.bw).mono ?_;rintro e w2 ⟨rfl,hb⟩;have mg:=zh (Jy.out.later hb);clear hb JA Jy;cases l2
     ·obtain ⟨rfl,rfl,rfl⟩:s1=0∧s2=0∧s3=6:=by have h:=HS.out;rw [HN.out 2 zo (by rw [EL.out.1];exact .inl rfl)] at h;cases h;exact ⟨rfl,rfl,rfl⟩
      obtain ⟨c6,l6,f6⟩:=(zh mg.out.br).clf;go_wp2_with fail
      rw [Exit.noGoto_ret];exact bodyPost_ret (v:=aF #[aB #[Z I 0,Z I 0],Z I 6]) (by have h6:=((mg.out.br.set 0 (Z I 0)).set 1 (Z I 0)).cell;have FU:=h6 0;have Aa:=h6 1;simp [results,Tryz.results55,go_sem,FU,Aa]) rfl ⟨rfl,(mg.out.bw.setCell (p:=⟨w.heap.size+1+1,0,none⟩) (by simp;omega) _).setCell (p:=⟨w.heap.size+1+1,1,none⟩) (by simp;omega) _⟩
     ·cases h2
      ·obtain ⟨rfl,rfl,rfl⟩:s1=0∧s2=0∧s3=6:=by have h:=HS.out;rw [HN.out 2 zo (by rw [EL.out.2];exact .inr rfl)] at h;cases h;exact ⟨rfl,rfl,rfl⟩
       obtain ⟨c6,l6,f6⟩:=(zh mg.out.br).clf;go_wp2_with fail
       rw [Exit.noGoto_ret];exact bodyPost_ret (v:=aF #[aB #[Z I 0,Z I 0],Z I 6]) (by have h6:=((mg.out.br.set 0 (Z I 0)).set 1 (Z I 0)).cell;have FU:=h6 0;have Aa:=h6 1;simp [results,Tryz.results55,go_sem,FU,Aa]) rfl ⟨rfl,(mg.out.bw.setCell (p:=⟨w.heap.size+1+1,0,none⟩) (by simp;omega) _).setCell (p:=⟨w.heap.size+1+1,1,none⟩) (by simp;omega) _⟩
      ·obtain ⟨c8,l8,f8⟩:=(zh mg.out.bl).clf;obtain ⟨c9,l9,f9⟩:=(zh mg.out.bh).clf;unfold wh at c8 c9;have Jw:=zh (mg.out.step (k:=2) zo (by rw [EL.out.1]) (by rw [EL.out.2]));rw [EL.out.1,EL.out.2] at Jw;clear mg;go_wp2_with fail
       go_roundw
       case rel=>exact ⟨1,rfl,rfl,zh (.inr<| .inl ⟨rfl,Jw.out⟩)⟩
       case measure=>simp [intOf]
    ·clear HJ;obtain ⟨⟨l1,l2⟩,el⟩:∃ v,sj Q (x,y) (z,t) 3=v:=⟨_,rfl⟩;obtain ⟨⟨h1,h2⟩,eh⟩:∃ v,sw Q (x,y) (z,t) 3=v:=⟨_,rfl⟩;have Jz:=zh (HL.out 3);have JA:=zh (HH.out 3);rw [el] at Jz;rw [eh] at JA;have EL:=zh (And.intro el eh);have Hy:=zh hS;clear el eh hS;have I4:∀ W,(Instr.index 165 (aB #[Z I z,Z I t]) (Z I 1)).run Tryz.prog W= .ok (Z I t) W:=fun W=>by kernel_rfl
     go_wp2_with fail
     refine (Jz.out _ Hy.out.bw).mono ?_;rintro e w1 ⟨rfl,hb⟩;have Jy:=zh (Hy.out.later hb);clear hb I4 Jz Hy;go_wp2_with fail
     refine (JA.out _ Jy.out.bw).mono ?_;rintro e w2 ⟨rfl,hb⟩;have mg:=zh (Jy.out.later hb);clear hb JA Jy;cases l2
     ·obtain ⟨rfl,rfl,rfl⟩:s1=0∧s2=0∧s3=6:=by have h:=HS.out;rw [HN.out 3 zo (by rw [EL.out.1];exact .inl rfl)] at h;cases h;exact ⟨rfl,rfl,rfl⟩
      obtain ⟨c6,l6,f6⟩:=(zh mg.out.br).clf;go_wp2_with fail
      rw [Exit.noGoto_ret];exact bodyPost_ret (v:=aF #[aB #[Z I 0,Z I 0],Z I 6]) (by have h6:=((mg.out.br.set 0 (Z I 0)).set 1 (Z I 0)).cell;have FU:=h6 0;have Aa:=h6 1;simp [results,Tryz.results55,go_sem,FU,Aa]) rfl ⟨rfl,(mg.out.bw.setCell (p:=⟨w.heap.size+1+1,0,none⟩) (by simp;omega) _).setCell (p:=⟨w.heap.size+1+1,1,none⟩) (by simp;omega) _⟩
     ·cases h2
      ·obtain ⟨rfl,rfl,rfl⟩:s1=0∧s2=0∧s3=6:=by have h:=HS.out;rw [HN.out 3 zo (by rw [EL.out.2];exact .inr rfl)] at h;cases h;exact ⟨rfl,rfl,rfl⟩
       obtain ⟨c6,l6,f6⟩:=(zh mg.out.br).clf;go_wp2_with fail
       rw [Exit.noGoto_ret];exact bodyPost_ret (v:=aF #[aB #[Z I 0,Z I 0],Z I 6]) (by have h6:=((mg.out.br.set 0 (Z I 0)).set 1 (Z I 0)).cell;have FU:=h6 0;have Aa:=h6 1;simp [results,Tryz.results55,go_sem,FU,Aa]) rfl ⟨rfl,(mg.out.bw.setCell (p:=⟨w.heap.size+1+1,0,none⟩) (by simp;omega) _).setCell (p:=⟨w.heap.size+1+1,1,none⟩) (by simp;omega) _⟩
      ·obtain ⟨c8,l8,f8⟩:=(zh mg.out.bl).clf;obtain ⟨c9,l9,f9⟩:=(zh mg.out.bh).clf;unfold wh at c8 c9;have Jw:=zh (mg.out.step (k:=3) zo (by rw [EL.out.1]) (by rw [EL.out.2]));rw [EL.out.1,EL.out.2] at Jw;clear mg;go_wp2_with fail
       go_roundw
       case rel=>exact ⟨2,rfl,rfl,zh (.inr<| .inr ⟨rfl,Jw.out⟩)⟩
       case measure=>simp [intOf]
    ·have Jw:=zh hS;clear hS HJ;go_wp2_with fail
     go_roundw
     case rel=>exact ⟨2,rfl,rfl,zh (.inr<| .inr ⟨rfl,Jw.out⟩)⟩
     case measure=>simp [intOf]
  ·clear HI;have HP:=zh hS;clear hS;have HMn:=zh (fun W h=>Pn (w.heap.size+1+1+1) 4 [(sj Q (x,y) (z,t) 0).1,(sj Q (x,y) (z,t) 1).1,(sj Q (x,y) (z,t) 2).1,(sj Q (x,y) (z,t) 3).1] _ rfl (wh (sj Q (x,y) (z,t)) 4) 164 W h (Ky _) zi);have HMx:=zh (fun W h=>FW (w.heap.size+1+1+1+1) 4 [(sw Q (x,y) (z,t) 0).1,(sw Q (x,y) (z,t) 1).1,(sw Q (x,y) (z,t) 2).1,(sw Q (x,y) (z,t) 3).1] _ rfl (wh (sw Q (x,y) (z,t)) 4) 164 W h (Ky _) zi);have YV:=zh (fun lo hi W=>CY lo hi W);obtain ⟨mn,emn⟩:∃ v,[(sj Q (x,y) (z,t) 0).1,(sj Q (x,y) (z,t) 1).1,(sj Q (x,y) (z,t) 2).1,(sj Q (x,y) (z,t) 3).1].foldl min (sj Q (x,y) (z,t) 0).1=v:=⟨_,rfl⟩;obtain ⟨mx,emx⟩:∃ v,[(sw Q (x,y) (z,t) 0).1,(sw Q (x,y) (z,t) 1).1,(sw Q (x,y) (z,t) 2).1,(sw Q (x,y) (z,t) 3).1].foldl max (sw Q (x,y) (z,t) 0).1=v:=⟨_,rfl⟩
   have hsp:iV mn mx=((s1,s2),s3):=by
    rw [← HS.out,← emn,← emx];unfold qV;rw [if_pos];unfold Qg;rw [bZ];intro q hq;have hq4:q<4:=by simpa using hq
    have:=HP.out.ok q hq4;simp [this.1,this.2]
   rw [emn] at HMn;rw [emx] at HMx;replace YV:=zh (fun W=>YV.out mn mx W);rw [hsp] at YV;unfold ig at YV;clear emn emx hsp HL HH HN HS;go_wp2_with fail
   refine aQ [(.pure,0),(.pure,2),(.ext,1),(.ext,3),(.ext,4),(.pure,5),(.pure,6),(.fin,7),(.fin,8)] zk zk zR zP ?_;refine Wk.out ?_
   (iterate 2 refine zU ?_)
   refine Ih rfl rfl (fun wa hba J hJ=>?_);go_simp;have za:Below wr.heap.size wr wa:=aO;refine (HMn.out _ (HP.out.bl.later za)).mono ?_;rintro e wb ⟨rfl,hb⟩;have zb:=Bt za hb;refine hJ _ _ hb ?_;clear hJ J hb hba za HMn;refine Ih rfl rfl (fun wc hbc J hJ=>?_);go_simp;have zc:=Bt zb hbc;refine (HMx.out _ (HP.out.bh.later zc)).mono ?_;rintro e wd ⟨rfl,hb⟩;have zd:=Bt zc hb;refine hJ _ _ hb ?_;clear hJ J hb hbc zb zc HMx;refine Ih rfl rfl (fun we hbe J hJ=>?_);go_simp;have ze:=Bt zd hbe;refine (YV.out _).mono ?_;rintro e wf ⟨rfl,hb⟩;have zf:=Bt ze hb;refine hJ _ _ hb ?_;clear hJ J hb hbe zd ze YV
   (iterate 2 refine zU ?_)
   refine NM [_,_] rfl (fun wg hbg=>?_);have mg:=zh (HP.out.later (Bt zf hbg));clear zf hbg HP;obtain ⟨c6,l6,f6⟩:=(zh mg.out.br).clf;go_wp2_with fail
   rw [Exit.noGoto_ret];exact bodyPost_ret (v:=aF #[aB #[Z I s1,Z I s2],Z I s3]) (by have h6:=((mg.out.br.set 0 (Z I s1)).set 1 (Z I s2)).cell;have FU:=h6 0;have Aa:=h6 1;simp [results,Tryz.results55,go_sem,FU,Aa]) rfl ⟨rfl,(mg.out.bw.setCell (p:=⟨w.heap.size+1+1,0,none⟩) (by simp;omega) _).setCell (p:=⟨w.heap.size+1+1,1,none⟩) (by simp;omega) _⟩
end Go.Proofs.dR
