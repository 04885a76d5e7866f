/- Lemmas for the proof. No condition. -/
import Derived.Test.YtlpjmogillpnbaaGreatDoorTB11
import Derived.Test.YtlpjmogillpnbaaGreatDoorTB22
set_option linter.unusedVariables false
set_option linter.unusedSimpArgs false
set_option maxRecDepth 100000
set_option maxHeartbeats 16000000
open Bool renaming and_eq_true → aF
open Go.Ending renaming returned → ah
open Go.IntKind renaming i64 → I
open Go.Value renaming agg → au, bool → ay, int → Z, pointer → aA, slice → aj, string → O, tuple → aD
open List renaming getD_eq_getElem?_getD → bM, getElem?_append_right → dK, getElem_mem → eX, replicate → bD, set_append_right → iy, set_cons_succ → aH, set_cons_zero → aG
open Nat renaming eq_zero_or_pos → aS, le_refl → aI, le_trans → aB, lt_or_ge → aO, mul_comm → aJ, mul_le_mul → dJ, mul_le_mul_left → aK, pow_add → d9, pow_le_pow_right → bE, pow_succ → bF, zero_add → dw
namespace Go.Proofs.aQ
open Go Go.RowKit Go.SW Go.Num Go.Mem Go.Proofs Go.Dec Go.gW
theorem Qo (z:Int) {E:Nat} (hE:0<E) (hz:z.natAbs<9223372036854775809) (hE2:E<9223372036854775809) :
  ∃ s t,Fr.res (tH z (E:Int))= aD #[au #[O s,O t],Z I 0]∧rd ⟨s,t⟩=some ((z:Rat) / ((E:Nat):Rat)):=by
 have hk:zF ((z:Rat) / ((E:Nat):Rat))=true:=by
  rw [← Rat.mkRat_eq_div];have hp:=qo z hE;have ht:9223372036854775809≤jN 600:=by unfold jN;decide+kernel
  unfold zF kg;rw [aF];refine ⟨decide_eq_true ?_,decide_eq_true ?_⟩
  ·rw [hp.1,iJ];have:=Nat.div_le_self z.natAbs (z.natAbs.gcd E);omega
  ·rw [hp.2];have:=Nat.div_le_self E (z.natAbs.gcd E);omega
 refine ⟨(Fr.of ((z:Rat) / ((E:Nat):Rat))).n,(Fr.of ((z:Rat) / ((E:Nat):Rat))).d,?_,xM hk⟩;unfold tH wr;rw [if_neg zo,Rat.intCast_natCast,if_pos hk];rfl
theorem ac2 (o:Int):∃ m:Int,(m=if o<0 then o else 0)∧(∀ (ts:Array TypeId) (t:TypeId) (W:World),(Builtin.min_ ts t #[Z I o,Z I 0]).run Tryz.prog W= .ok (Z I m) W):=by
 by_cases h:o<0
 ·refine ⟨o,by rw [if_pos h],fun ts t W=>?_⟩;have h1:¬ (0:Int)<o:=by omega
  rw [run_min_int2];simp [h1]
 ·refine ⟨0,by rw [if_neg h],fun ts t W=>?_⟩;rw [run_min_int2]
  by_cases h1:(0:Int)<o
  ·simp [h1]
  ·obtain rfl:o=0:=by omega
   simp
theorem ac3 (o:Int):∃ m:Int,(m=if 0<o then o else 0)∧(∀ (ts:Array TypeId) (t:TypeId) (W:World),(Builtin.max_ ts t #[Z I o,Z I 0]).run Tryz.prog W= .ok (Z I m) W):=by
 by_cases h:0<o
 ·refine ⟨o,by rw [if_pos h],fun ts t W=>?_⟩;have h1:¬ o<(0:Int):=by omega
  rw [run_max_int2];simp [h1]
 ·refine ⟨0,by rw [if_neg h],fun ts t W=>?_⟩;rw [run_max_int2]
  by_cases h1:o<(0:Int)
  ·simp [h1]
  ·obtain rfl:o=0:=by omega
   simp
theorem yP (s t:ByteArray) (k:Int) (hk:¬ k=0) (w:World) (HN:Hid (∀ W,Below w.heap.size w W→Calls Tryz.prog 57 #[au #[O s,O t],Z I 1000000000000] W (fun e w'=>e= ah (aD #[Z I 0,Z I k])∧Below W.heap.size W w'))) :
  Calls Tryz.prog 24 #[au #[O s,O t]] w (fun e w'=>e= ah (dH ((0,0),k))∧Below w.heap.size w w'):=by
 unfold dH;have hk0:decide (k=0)=false:=decide_eq_false hk;go_enter Tryz.func24,Tryz.ntmps24
 go_wp2_with fail
 refine (HN.out _ aN).mono ?_;rintro e v1 ⟨rfl,hc1⟩;have BR:=aC.later (aC.nS _ _ _ _) hc1;have bT:=BR.cell;have bS:=BR.free;have jd:=BR.lt;go_wp2_with fail
 refine aY rfl rfl bf Tryz.underlying35 rfl zk ?_;exact ⟨rfl,aN⟩
theorem EM (s t s1 t1:ByteArray) (z o:Int) (w:World) (ho: -1≤o∧o≤1) (HN:Hid (∀ W,Below w.heap.size w W→Calls Tryz.prog 57 #[au #[O s,O t],Z I 1000000000000] W (fun e w'=>e= ah (aD #[Z I z,Z I 0])∧Below W.heap.size W w')))
  (HO:Hid (∀ W,Below w.heap.size w W→Calls Tryz.prog 26 #[Z I z,Z I 1000000000000] W (fun e w'=>e= ah (aD #[au #[O s1,O t1],Z I 0])∧Below W.heap.size W w')))
  (HC:Hid (∀ W,Calls Tryz.prog 40 #[au #[O s,O t],au #[O s1,O t1]] W (fun e w'=>e= ah (aD #[Z I o,Z I 0])∧Below W.heap.size W w'))) :
  Calls Tryz.prog 24 #[au #[O s,O t]] w (fun e w'=>e= ah (dH (if jc z z then iH (z+(if o<0 then -1 else 0)) (z+(if 0<o then 1 else 0)) else ((0,0),6)))∧Below w.heap.size w w'):=by
 have HV:=zh (fun W=>ku z z W);cases hb:jc z z with
 | false =>
  rw [if_neg zi];unfold dH;rw [hb] at HV;clear hb ho;go_enter Tryz.func24,Tryz.ntmps24
  go_wp2_with fail
  refine (HN.out _ aN).mono ?_;rintro e v1 ⟨rfl,hc1⟩;have BR:=aC.later (aC.nS _ _ _ _) hc1;have bT:=BR.cell;have bS:=BR.free;have jd:=BR.lt;have B0:=aC.later (aC.alloc (aC.new _ _ _) _) hc1;have cB0:=B0.cell;have jI:=B0.free;have lB0:=B0.lt;go_wp2_with fail
  refine (HO.out _ aN).mono ?_;rintro e v2 ⟨rfl,hc2⟩;replace BR:=aC.later (BR) hc2;replace bT:=BR.cell;replace bS:=BR.free;replace jd:=BR.lt;replace B0:=aC.later (B0) hc2;replace cB0:=B0.cell;replace jI:=B0.free;replace lB0:=B0.lt;go_wp2_with fail
  refine (HC.out _).mono ?_;rintro e v3 ⟨rfl,hc3⟩;replace BR:aC _ (w.heap.size+1) _ _:=aC.later bf hc3;(try simp only [List.setIfInBounds_toArray,aG,aH] at BR);replace bT:=BR.cell;replace bS:=BR.free;replace jd:=BR.lt;go_wp2_with fail
  refine (HV.out _).mono ?_;rintro e v4 ⟨rfl,hc4⟩;replace BR:=aC.later (BR) hc4;replace bT:=BR.cell;replace bS:=BR.free;replace jd:=BR.lt;go_wp2_with fail
  refine aY rfl rfl bf Tryz.underlying35 rfl zk ?_;exact ⟨rfl,aN⟩
 | true =>
  rw [if_pos rfl];rw [hb] at HV;obtain ⟨l,hl,hmin⟩:=ac2 o;obtain ⟨m,hm,hmax⟩:=ac3 o;have el:(if o<0 then (-1:Int) else 0)=l:=by rw [hl];by_cases h:o<0<;>simp only [if_pos,if_neg,h,if_true,if_false]<;>omega
  have em:(if 0<o then (1:Int) else 0)=m:=by rw [hm];by_cases h:0<o<;>simp only [if_pos,if_neg,h,if_true,if_false]<;>omega
  rw [el,em]
  have hr: -1000000000000000000≤z∧z≤1000000000000000000:=by
   unfold jc at hb;simp only [aF,decide_eq_true_eq] at hb;omega
  have hl2: -1≤l∧l≤0:=by rw [← el];by_cases h:o<0<;>simp [h]
  have hm2:0≤m∧m≤1:=by rw [← em];by_cases h:0<o<;>simp [h]
  have w1:I.wrap (z+l)=z+l:=by simp [IntKind.wrap,IntKind.bits,IntKind.signed];omega
  have w2:I.wrap (z+m)=z+m:=by simp [IntKind.wrap,IntKind.bits,IntKind.signed];omega
  have HM:=zh (fun W=>kK (z+l) (z+m) W);clear hb ho hl hm el em hr hl2 hm2;generalize iH (z+l) (z+m)=x at *;obtain ⟨⟨x1,x2⟩,x3⟩:=x;unfold dH at *;simp only at *;go_enter Tryz.func24,Tryz.ntmps24
  go_wp2_with fail
  refine (HN.out _ aN).mono ?_;rintro e v1 ⟨rfl,hc1⟩;have BR:=aC.later (aC.nS _ _ _ _) hc1;have bT:=BR.cell;have bS:=BR.free;have jd:=BR.lt;have B0:=aC.later (aC.alloc (aC.new _ _ _) _) hc1;have cB0:=B0.cell;have jI:=B0.free;have lB0:=B0.lt;go_wp2_with fail
  refine (HO.out _ aN).mono ?_;rintro e v2 ⟨rfl,hc2⟩;replace BR:=aC.later (BR) hc2;replace bT:=BR.cell;replace bS:=BR.free;replace jd:=BR.lt;replace B0:=aC.later (B0) hc2;replace cB0:=B0.cell;replace jI:=B0.free;replace lB0:=B0.lt;go_wp2_with fail
  refine (HC.out _).mono ?_;rintro e v3 ⟨rfl,hc3⟩;replace BR:aC _ (w.heap.size+1) _ _:=aC.later bf hc3;(try simp only [List.setIfInBounds_toArray,aG,aH] at BR);replace bT:=BR.cell;replace bS:=BR.free;replace jd:=BR.lt;go_wp2_with fail
  refine (HV.out _).mono ?_;rintro e v4 ⟨rfl,hc4⟩;replace BR:=aC.later (BR) hc4;replace bT:=BR.cell;replace bS:=BR.free;replace jd:=BR.lt;go_wp2_with fail
  refine (HM.out _).mono ?_;rintro e v5 ⟨rfl,mg⟩;replace BR:=aC.later (BR) mg;replace bT:=BR.cell;replace bS:=BR.free;replace jd:=BR.lt;go_wp2_with fail
  refine aY rfl rfl bf Tryz.underlying35 rfl zk ?_;exact ⟨rfl,aN⟩
def jE (a:Fr):(Int × Int) × Int:=match rd a with
 | some q=>iH (Ij (q.num*1000000000000) q.den false) (Ij (q.num*1000000000000) q.den true)
 | none=>((0,0),20)
theorem KX (a:Fr) (w:World) (ht:gJ.Pow w) (he:whole.Er w) :
  Calls Tryz.prog 24 #[a.v] w (fun e w'=>e= ah (dH (jE a))∧Below w.heap.size w w'):=by
 obtain ⟨s,t⟩:=a
 show Calls _ _ #[au #[O s,O t]] _ _
 unfold jE;cases h:rd ⟨s,t⟩ with
 | none=>exact yP s t 20 zo w (zh fun W _=>dD.KC s t 1000000000000 h W)
 | some q =>
  have hd:0<q.den:=q.den_pos;simp only;rw [← U0 _ hd];have hn:∀ W,Below w.heap.size w W→ _:=fun W hW=>dD.Kz s t 1000000000000 q h zo zo W (ht.later hW) (he.later hW);have e1:((1000000000000:Nat):Int)=1000000000000:=rfl;rw [e1] at hn;unfold arE;unfold dD.Bh at hn;generalize hz:iN (q.num*1000000000000) q.den=z at *
  by_cases c: -9223372036854775808≤z∧z<9223372036854775808
  ·rw [if_pos c];rw [decide_eq_true c,if_pos rfl] at hn;obtain ⟨s1,t1,hof,hrd⟩:=Qo z (E:=1000000000000) zo zo zo;rw [e1] at hof;have hc:=fun W=>dD.O1 ⟨s,t⟩ ⟨s1,t1⟩ W;have hce:wh ⟨s,t⟩ ⟨s1,t1⟩=(oo q ((z:Rat) / ((1000000000000:Nat):Rat)),0):=by unfold wh;rw [h,hrd]
   rw [hce,J7 q z zo,e1] at hc;have XW:∀ W,Below w.heap.size w W→ _:=fun W hW=>dD.qI z 1000000000000 zo zo zo zo W (ht.later hW);rw [hof] at XW;refine (EM s t s1 t1 z _ w ?_ (zh hn) (zh XW) (zh hc)).mono ?_
   ·split
    ·omega
    ·split<;>omega
   ·rintro e w1 ⟨rfl,hb⟩;refine ⟨?_,hb⟩
    congr 2
    by_cases h1:q.num*1000000000000<z*(q.den:Int)
    ·have h2:¬ z*(q.den:Int)<q.num*1000000000000:=by omega
     simp [h1,h2]
    ·by_cases h2:z*(q.den:Int)<q.num*1000000000000
     ·simp [h1,h2]
     ·simp [h1,h2]
  ·rw [if_neg c];rw [decide_eq_false c,if_neg zi] at hn;exact yP s t 6 zo w (zh hn)
end Go.Proofs.aQ
namespace Go.Proofs.whole
open Go Go.RowKit Go.SW Go.Num Go.Mem Go.Proofs Go.Dec
theorem sV (z:Int) (hz:(Lib.decDigits z.natAbs).length≤600) (w:World) :
  Calls Tryz.prog 134 #[dA z] w (fun e w'=>∃ v,e= ah (aD #[v,ay true])∧Below w.heap.size w w'∧dN w' v z):=by
 have HC:=zh (mo ⟨(Lib.itoa z).toArray⟩);have e1:(⟨(Lib.itoa z).toArray⟩:ByteArray).data.toList=Lib.itoa z:=rfl;rw [e1,DU] at HC;have hd:=jT z.natAbs;have hn:=kI z.natAbs;have hl:=qC z.natAbs;have hh:(Lib.decDigits z.natAbs).head? =some 48→z=0:=fun h=>Int.natAbs_eq_zero.1 (qD h);have hz1:z=0→(Lib.decDigits z.natAbs).length≤1:=fun h=>by rw [h];decide+kernel
 unfold dA;generalize (Lib.itoa z).toArray=txt at *;generalize Lib.decDigits z.natAbs=d at *;have hsz:(⟨d.toArray⟩:ByteArray).size=d.length:=rfl;have g0:((d.length:Int) == 0)=false:=beq_eq_false_iff_ne.2 zo;have g1:decide ((600:Int)<(d.length:Int))=false:=by simp;omega
 have g2:¬ d=[]:=fun h=>by rw [h] at hl;simp at hl
 have hbx:aC (w.alloc (.cells #[aj none 0 0,ay false] 177 (0,0))) w.heap.size #[aj none 0 0,ay false] 177:=aC.new _ _ _;have hbl:Below w.heap.size w (w.alloc (.cells #[aj none 0 0,ay false] 177 (0,0))):=(Below.refl _ _).alloc (aI _) _;have oL:=zh hbx;have HD:=zh hd;have HN:=zh hn;have HH:=zh hh;have HZ:=zh hz1;clear hbx hd hn hh hz1 e1;go_enter Tryz.func134,Tryz.ntmps134
 go_wp2_with (go_at_call 135;refine (HC.out _).mono ?_;rintro e w1 ⟨rfl,rfl⟩)
 go_loopw [23] (fun v wr=>∃ i:Nat,v= Z I (i:Int)∧i≤d.length∧w.alloc (.cells #[aj none 0 0,ay false] 177 (0,0))=wr) (fun v _=>d.length - (intOf v).toNat)
 case atStart=>exact ⟨0,rfl,by omega,rfl⟩
 case round =>
  obtain ⟨i,rfl,hi,rfl⟩:=hrel
  rcases aO i d.length with hlt|hge
  ·have hgt:(⟨d.toArray⟩:ByteArray)[i]'(by exact hlt)=d[i]:=rfl;have hdig:=HD.out d[i] (eX hlt);have q1:decide (((⟨d.toArray⟩:ByteArray)[i]'(by exact hlt)).toNat<(48:Int))=false:=by rw [hgt];simp;omega
   have q2:decide ((57:Int)<((⟨d.toArray⟩:ByteArray)[i]'(by exact hlt)).toNat)=false:=by rw [hgt];simp;omega
   clear hgt hdig;go_wp2_with fail
   exact ⟨⟨i+1,rfl,by omega,trivial⟩,by simp only [intOf];omega⟩
  ·obtain rfl:i=d.length:=by omega
   have hgt:(⟨d.toArray⟩:ByteArray)[0]'(by exact hl)=d[0]:=rfl;have HG:=zh (mF ⟨d.toArray⟩ (by rw [hsz];omega) HD.out (w.alloc (.cells #[aj none 0 0,ay false] 177 (0,0))));have e2:num (⟨d.toArray⟩:ByteArray).data.toList=z.natAbs:=HN.out;rw [e2] at HG;have hx:d[0].toNat=48→z=0:=fun h=>HH.out (by rw [List.head?_eq_getElem?, List.getElem?_eq_getElem hl];exact congrArg some (UInt8.toNat_inj.mp h));cases hq:decide (d[0].toNat=48) with
   | true =>
    have h0:=hx (of_decide_eq_true hq);have h1:=HZ.out h0;have q1:decide ((1:Int)<(d.length:Int))=false:=by simp;omega
    have q2:decide (z<0)=false:=by simp;omega
    have q0:((((⟨d.toArray⟩:ByteArray)[0]'(by exact hl)).toNat:Int) == 48)=true:=by rw [hgt];simp at hq ⊢;omega
    clear hgt hx hq e2 hge hi h0;go_wp2_with (go_at_call 178;refine (HG.out).mono ?_;rintro e w2 ⟨v,rfl,hb2,hv⟩;have HV:=zh hv;obtain ⟨pa,ca,rfl, -⟩:=hv;have tX:=oL.out.later hb2;have cb:=tX.cell;have fb:=tX.free)
    refine aY rfl rfl (((oL.out.later hb2).set 0 _).set 1 _) Tryz.underlying177 rfl zk ?_;refine ⟨_,rfl,((Bt hbl hb2).setCell (aI _) _).setCell (aI _) _,pa,_,ca,?_,(HV.out.setOther tX zd 0 _).setOther (tX.set 0 _) zd 1 _⟩;rw [q2];rfl
   | false =>
    have q0:((((⟨d.toArray⟩:ByteArray)[0]'(by exact hl)).toNat:Int) == 48)=false:=by rw [hgt];simp at hq ⊢;omega
    clear hgt hx hq e2 hge hi;go_wp2_with (go_at_call 178;refine (HG.out).mono ?_;rintro e w2 ⟨v,rfl,hb2,hv⟩;have HV:=zh hv;obtain ⟨pa,ca,rfl, -⟩:=hv;have tX:=oL.out.later hb2;have cb:=tX.cell;have fb:=tX.free)
    refine aY rfl rfl (((oL.out.later hb2).set 0 _).set 1 _) Tryz.underlying177 rfl zk ?_;exact ⟨_,rfl,((Bt hbl hb2).setCell (aI _) _).setCell (aI _) _,pa,_,ca,rfl,(HV.out.setOther tX zd 0 _).setOther (tX.set 0 _) zd 1 _⟩
end Go.Proofs.whole
namespace Go.Proofs.whole
open Go Go.RowKit Go.SW Go.Num Go.Mem Go.Proofs
theorem gL (v:Value) (n:Nat) (w:World) (h:bC w v n) :
  Calls Tryz.prog 245 #[v] w fun e w'=>e= ah (ay (decide (n=0)))∧w=w':=zs4
def qM (a b:Nat):Int:=if a<b then -1 else if b<a then 1 else 0
theorem nO {a b:Nat} (h:a<b):qM a b= -1:=if_pos h
theorem mQ {a b:Nat} (h:b<a):qM a b=1:=by unfold qM;rw [if_neg zo,if_pos h]
theorem oW (a:Nat):qM a a=0:=by unfold qM;simp
theorem I7 (a b:Nat) (w:World):Calls Tryz.prog 137 #[Z I a,Z I b] w fun e w'=>e= ah (Z I (qM a b))∧w=w':=zs5
theorem I6 (a b:Nat) (w:World):Calls Tryz.prog 138 #[Z .u32 a,Z .u32 b] w fun e w'=>e= ah (Z I (qM a b))∧w=w':=zs6
theorem vP (a b:Option Addr) (m n c d:Nat) (w:World) (h:m≠n) :
  Calls Tryz.prog 257 #[aj a m c,aj b n d] w fun e w'=>e= ah (Z I (qM m n))∧w=w':=zs7
theorem um (pa pb:Option Addr) (ca cb:Nat) (l m:List Nat) (w:World) (hlen:l.length=m.length) (hm:l.length≤9223372036854775807) (hl:fD 1000000000 l) (hmd:fD 1000000000 m)
   (hc:∀ k,k<l.length→∃ b off,pa=some ⟨b,off,none⟩∧b<w.heap.size∧w.cell? ⟨b,off+k,none⟩=some (.int .u32 (l.getD k 0:Nat)))
   (hd:∀ k,k<m.length→∃ b off,pb=some ⟨b,off,none⟩∧b<w.heap.size∧w.cell? ⟨b,off+k,none⟩=some (.int .u32 (m.getD k 0:Nat))) :
    Calls Tryz.prog 257 #[aj pa l.length ca,aj pb m.length cb] w fun e w'=>e= ah (Z I (qM (val 1000000000 l) (val 1000000000 m)))∧Below w.heap.size w w':=zs8
theorem ji (x y:Value) (a b:Nat) (w:World) (hx:bC w x a) (hy:bC w y b) :
  Calls Tryz.prog 257 #[x,y] w fun e w'=>e= ah (Z I (qM a b))∧Below w.heap.size w w':=zs9
theorem vK:(Tryz.prog.info? 133).map (fun i=>(i.zero,i.size,i.bytes))=some (some (.int .u32 0),1,4):=by kernel_rfl
theorem uR {B:Nat} {l m s:List Nat} {k c d c':Nat} (hk:k<l.length) (hs:s.length=k) (he:val B s+c*B^k=val B (l.take k)+val B (m.take k)) (h:d+c'*B=l.getD k 0+c+m.getD k 0) :
  val B (s++[d])+c'*B^(k+1)=val B (l.take (k+1))+val B (m.take (k+1)):=WW
theorem uQ (pl ps:Option Addr) (cl cs:Nat) (l m:List Nat) (v0 v1:Value) (w:World) (hl:fD 1000000000 l) (hmd:fD 1000000000 m) (hb1:l.length≤1099511627776) (hml:m.length≤l.length)
   (hv:(v0= aj pl l.length cl∧v1= aj ps m.length cs)∨(v1= aj pl l.length cl∧v0= aj ps m.length cs∧m.length<l.length))
   (hc:∀ k,k<l.length→∃ b off,pl=some ⟨b,off,none⟩∧b<w.heap.size∧w.cell? ⟨b,off+k,none⟩=some (.int .u32 (l.getD k 0:Nat)))
   (hd:∀ k,k<m.length→∃ b off,ps=some ⟨b,off,none⟩∧b<w.heap.size∧w.cell? ⟨b,off+k,none⟩=some (.int .u32 (m.getD k 0:Nat))) :
    Calls Tryz.prog 255 #[v0,v1] w fun e w'=>∃ s v,e= ah v∧Below w.heap.size w w'∧kQ w' v s∧fD 1000000000 s∧val 1000000000 s=val 1000000000 l+val 1000000000 m∧l.length≤s.length∧(l.length<s.length→Top s):=WV
theorem wH (x y:Value) (a b:Nat) (w:World) (hx:bC w x a) (hy:bC w y b) (ha:sz 1000000000 a≤1099511627776) (hb:sz 1000000000 b≤1099511627776) :
  Calls Tryz.prog 255 #[x,y] w fun e w'=>∃ v,e= ah v∧Below w.heap.size w w'∧bC w' v (a+b):=zs12
theorem xW (pl ps:Option Addr) (cl cs:Nat) (l m:List Nat) (w:World) (hl:fD 1000000000 l) (hmd:fD 1000000000 m) (hb1:l.length≤1099511627776) (hml:m.length≤l.length) (hle:val 1000000000 m≤val 1000000000 l)
   (hc:∀ k,k<l.length→∃ b off,pl=some ⟨b,off,none⟩∧b<w.heap.size∧w.cell? ⟨b,off+k,none⟩=some (.int .u32 (l.getD k 0:Nat)))
   (hd:∀ k,k<m.length→∃ b off,ps=some ⟨b,off,none⟩∧b<w.heap.size∧w.cell? ⟨b,off+k,none⟩=some (.int .u32 (m.getD k 0:Nat))) :
    Calls Tryz.prog 268 #[aj pl l.length cl,aj ps m.length cs] w fun e w'=>∃ v,e= ah v∧Below w.heap.size w w'∧bC w' v (val 1000000000 l - val 1000000000 m):=WU
theorem xY (x y:Value) (a b:Nat) (w:World) (hx:bC w x a) (hy:bC w y b) (ha:sz 1000000000 a≤1099511627776) (hle:b≤a) :
  Calls Tryz.prog 268 #[x,y] w fun e w'=>∃ v,e= ah v∧Below w.heap.size w w'∧bC w' v (a - b):=WT
theorem Il {x y:Nat} (hx:x<1000000000) (hy:y<1000000000):(0:Int)≤(x:Int)*(y:Int)∧(x:Int)*(y:Int)≤999999998000000001:=by
 have h:x*y≤999999999*999999999:=dJ zo zo;rw [← Int.natCast_mul];omega
theorem xq (pl ps:Option Addr) (cl cs:Nat) (l m:List Nat) (w:World) (hl:fD 1000000000 l) (hmd:fD 1000000000 m) (hb1:l.length≤1099511627776) (hb2:m.length≤1099511627776)
   (hc:∀ k,k<l.length→∃ b off,pl=some ⟨b,off,none⟩∧b<w.heap.size∧w.cell? ⟨b,off+k,none⟩=some (.int .u32 (l.getD k 0:Nat)))
   (hd:∀ k,k<m.length→∃ b off,ps=some ⟨b,off,none⟩∧b<w.heap.size∧w.cell? ⟨b,off+k,none⟩=some (.int .u32 (m.getD k 0:Nat))) :
    Calls Tryz.prog 246 #[aj pl l.length cl,aj ps m.length cs] w fun e w'=>∃ v,e= ah v∧Below w.heap.size w w'∧bC w' v (val 1000000000 l*val 1000000000 m):=WS
theorem jm (x y:Value) (a b:Nat) (w:World) (hx:bC w x a) (hy:bC w y b) (ha:sz 1000000000 a≤1099511627776) (hb:sz 1000000000 b≤1099511627776) :
  Calls Tryz.prog 246 #[x,y] w fun e w'=>∃ v,e= ah v∧Below w.heap.size w w'∧bC w' v (a*b):=WR
theorem rQ (pl:Option Addr) (cl:Nat) (l:List Nat) (d:Nat) (w:World) (hl:fD 1000000000 l) (hb1:l.length≤1099511627776) (hd0:0<d) (hd1:d≤1000000000)
   (hc:∀ k,k<l.length→∃ b off,pl=some ⟨b,off,none⟩∧b<w.heap.size∧w.cell? ⟨b,off+k,none⟩=some (.int .u32 (l.getD k 0:Nat))) :
    Calls Tryz.prog 256 #[aj pl l.length cl,Z .u32 d] w fun e w'=>∃ v,e= ah (aD #[v,Z .u32 (val 1000000000 l%d:Nat)])∧Below w.heap.size w w'∧bC w' v (val 1000000000 l / d):=WQ
theorem sO (x:Value) (a d:Nat) (w:World) (hx:bC w x a) (ha:sz 1000000000 a≤1099511627776) (hd0:0<d) (hd1:d≤1000000000) :
  Calls Tryz.prog 256 #[x,Z .u32 d] w fun e w'=>∃ v,e= ah (aD #[v,Z .u32 (a%d:Nat)])∧Below w.heap.size w w'∧bC w' v (a / d):=by
 obtain ⟨pa,ca,rfl,h1,h2,h3⟩:=kQ.read hx.yJ;have:=rQ pa ca _ d w (bN zo a) ha hd0 hd1 h3
 rwa [bH zo] at this
theorem kM (a:Nat) (w:World) (ha:a≤18446744073709551615) :
  Calls Tryz.prog 254 #[Z .u64 a] w fun e w'=>∃ v,e= ah v∧Below w.heap.size w w'∧bC w' v a:=WO
def uG (w:World) (g k:Nat) (pre u post v:List Nat) (e:Ending) (w':World):Prop :=
 e= ah (Z .u32 (val 1000000000 u / val 1000000000 v:Nat))∧w.grownBy w' (some g) ∧
   ∃ s,aC w' g (dB (pre++(s++[0])++post)).toArray 133∧s.length=k+2∧fD 1000000000 s∧val 1000000000 s=val 1000000000 u%val 1000000000 v
theorem vG (g j k cu:Nat) (pv:Option Addr) (cv:Nat) (pre u post v:List Nat) (w:World) (hj:pre.length=j) (hu:u.length=k+3) (hv:v.length=k+2) (du:fD 1000000000 u) (dv:fD 1000000000 v) (hk:k≤1099511627776)
  (ht:1000000000≤2*v.getD (k+1) 0) (hlt:val 1000000000 u<val 1000000000 v*1000000000) (Ua:aC w g (dB (pre++u++post)).toArray 133)
  (hd:∀ i,i<k+2→∃ b off,pv=some ⟨b,off,none⟩∧b≠g∧b<w.heap.size∧w.cell? ⟨b,off+i,none⟩=some (.int .u32 (v.getD i 0:Nat))) :
  Calls Tryz.prog 286 #[aj (some ⟨g,j,none⟩) (k+3) cu,aj pv (k+2) cv] w (uG w g k pre u post v):=WM
def kY (w:World) (q r:Nat) (e:Ending) (w':World):Prop:=∃ vq vr,e= ah (aD #[vq,vr])∧Below w.heap.size w w'∧bC w' vq q∧bC w' vr r
theorem vN (x y:Value) (a b:Nat) (w:World) (hx:bC w x a) (hy:bC w y b) (h:a<b) :
  Calls Tryz.prog 253 #[x,y] w (kY w (a / b) (a%b)):=WL
theorem tZ (pa pb:Option Addr) (ca cb:Nat) (a b:Nat) (w:World) (hx:bC w (aj pa (sz 1000000000 a) ca) a) (hy:bC w (aj pb 1 cb) b) (hb0:0<b) (hb1:b<1000000000) (h:b≤a) (ha:sz 1000000000 a≤549755813888) :
  Calls Tryz.prog 253 #[aj pa (sz 1000000000 a) ca,aj pb 1 cb] w (kY w (a / b) (a%b)):=WK
theorem vM (pa pb:Option Addr) (ca cb:Nat) (a b k:Nat) (w:World) (hx:bC w (aj pa (sz 1000000000 a) ca) a) (hy:bC w (aj pb (k+2) cb) b) (hsb:sz 1000000000 b=k+2) (h:b≤a) (ha:sz 1000000000 a≤549755813888) :
  Calls Tryz.prog 253 #[aj pa (sz 1000000000 a) ca,aj pb (k+2) cb] w (kY w (a / b) (a%b)):=WJ
theorem fO (x y:Value) (a b:Nat) (w:World) (hx:bC w x a) (hy:bC w y b) (hb:0<b) (ha:sz 1000000000 a≤549755813888) :
  Calls Tryz.prog 253 #[x,y] w (kY w (a / b) (a%b)):=WI
end Go.Proofs.whole
namespace Go.Proofs.whole
open Go Go.RowKit Go.SW Go.Num Go.Mem Go.Proofs Go.Proofs.gJ Go.Dec
theorem FN (B b d wd:Nat) (l:List UInt8) (w:World) (h:KH B b (Lib.byteCells l) w) (hB:B≤w.heap.size) (hw:wd≤9) (hd:d<1000000000) (hl:l.length≤140737488355000) (ht:Pow w) :
  Calls Tryz.prog 283 #[Z .u32 d,Z I wd,aA (some ⟨b,0,none⟩)] w fun e w'=>e= ah (aD #[])∧KH B b (Lib.byteCells (l++(bD (wd - (Lib.decDigits d).length) 48++Lib.decDigits d))) w'∧Below B w w':=WH
def yS (w:World) (n:Nat) (e:Ending) (w':World):Prop:=e= ah (O ⟨(Lib.decDigits n).toArray⟩)∧Below w.heap.size w w'
theorem om (x:Value) (a:Nat) (w:World) (hx:bC w x a) (ha:sz 1000000000 a≤1099511627776) (ht:Pow w) :
  Calls Tryz.prog 244 #[x] w (yS w a):=WG
theorem j3 (x:Value) (a:Nat) (w:World) (hx:bC w x a) (ha:sz 1000000000 a≤1099511627776) (ht:Pow w) :
  Calls Tryz.prog 243 #[x] w (fun e w'=>e= ah (Z I ((Lib.decDigits a).length:Nat))∧Below w.heap.size w w'):=WE
end Go.Proofs.whole
namespace Go.Proofs.whole
open Go Go.RowKit Go.SW Go.Num Go.Mem Go.Proofs
theorem bC.inj {w:World} {v:Value} {m n:Nat} (h:bC w v m) (k:bC w v n):m=n:=WC
open Classical in
noncomputable def yc (w:World) (v:Value):Nat:=if h:∃ n,bC w v n then h.choose else 0
theorem qp {w:World} {v:Value} {n:Nat} (h:bC w v n):yc w v=n:=by
 unfold yc;rw [dif_pos ⟨n,h⟩];exact bC.inj (Exists.choose_spec (⟨n,h⟩:∃ n,bC w v n)) h
end Go.Proofs.whole
namespace Go.Proofs.whole
open Go Go.RowKit Go.SW Go.Num Go.Mem Go.Proofs Go.Dec
theorem dU (m:Value) (n:Nat) (b:Bool) (w:World) (h:bC w m n) :
  Calls Tryz.prog 193 #[m,ay b] w (fun e w'=>∃ v,e= ah v∧Below w.heap.size w w'∧dN w' v (iM n b)):=WB
theorem Ct (pa pb:Option Addr) (l m ca cb:Nat) (z y:Int) (b:Bool) (w:World) (h:bC w (aj pa l ca) z.natAbs) (h2:bC w (aj pb m cb) y.natAbs) (hz:decide (z<0)=b) (hy:decide (y<0)=b) (kz:sz 1000000000 z.natAbs≤549755813888) (ky:sz 1000000000 y.natAbs≤549755813888) :
  Calls Tryz.prog 248 #[au #[aj pa l ca,ay b],au #[aj pb m cb,ay b]] w (fun e w'=>∃ v,e= ah v∧Below w.heap.size w w'∧dN w' v (z+y)):=WA
theorem Cu (pa pb:Option Addr) (l m ca cb:Nat) (z y:Int) (b:Bool) (w:World) (h:bC w (aj pa l ca) z.natAbs) (h2:bC w (aj pb m cb) y.natAbs) (hz:decide (z<0)=b) (hy:decide (y<0)= !b) (kz:sz 1000000000 z.natAbs≤549755813888) (ky:sz 1000000000 y.natAbs≤549755813888) :
  Calls Tryz.prog 248 #[au #[aj pa l ca,ay b],au #[aj pb m cb,ay !b]] w (fun e w'=>∃ v,e= ah v∧Below w.heap.size w w'∧dN w' v (z+y)):=Wz
theorem xA (v u:Value) (z y:Int) (w:World) (h:dN w v z) (h2:dN w u y) (kz:sz 1000000000 z.natAbs≤549755813888) (ky:sz 1000000000 y.natAbs≤549755813888) :
  Calls Tryz.prog 248 #[v,u] w (fun e w'=>∃ v,e= ah v∧Below w.heap.size w w'∧dN w' v (z+y)):=Wy
end Go.Proofs.whole
namespace Go.Proofs.whole
open Go Go.RowKit Go.SW Go.Num Go.Mem Go.Proofs
theorem CP (x:Value) (a k:Nat) (w:World) (hx:bC w x a) (hk:k≤9223372036854775807) (hb:∀ i,i≤k→sz 1000000000 (a^i)≤1099511627776) (ha:sz 1000000000 a≤1099511627776) :
  Calls Tryz.prog 194 #[x,Z I (k:Int)] w (fun e w'=>∃ v,e= ah v∧Below w.heap.size w w'∧bC w' v (a^k)):=by
 have ZG:∀ (fn:Fn) (first cap:Array Value) (w:World),(Instr.makeFunc fn first cap).run Tryz.prog w= .ok (.func fn first cap) w:=fun _ _ _ _=>rfl;obtain ⟨pa,l,ca,rfl⟩:=hx.slice;have HX:=zh hx;have HBD:=zh hb;have HA:=zh ha;clear hx hb ha;go_enter Tryz.func194,Tryz.ntmps194
 go_wp2_with fail
 have hb1:Below w.heap.size w (w.alloc (.cells #[Z .u32 1] 133)):=aN;have h1:Hid (bC (w.alloc (.cells #[Z .u32 1] 133)) (aj (some ⟨w.heap.size,0,none⟩) 1 1) 1):=zh (by have:=bC.lit (w:=w) (d:=1) zo zo;simpa using this);obtain ⟨w1,EW⟩:∃ y,w.alloc (.cells #[Z .u32 1] 133)=y:=⟨_,rfl⟩;rw [EW] at hb1 h1 ⊢;have HB1:=zh hb1;clear EW hb1
 go_loopw [5,11] (fun pv iv wr=>∃ i:Nat,iv= Z I (i:Int)∧i≤k∧Hid (bC wr pv (a^i))∧Below w1.heap.size w1 wr) (fun _ iv _=>k - (intOf iv).toNat)
 case atStart=>exact ⟨0,rfl,by omega,zh (by rw [Nat.pow_zero];exact h1.out),Below.refl _ _⟩
 case round =>
  obtain ⟨i,rfl,hi,HP,hb⟩:=hrel;obtain ⟨pp,lp,cp,rfl⟩:=HP.out.slice
  rcases aO i k with hlt|hge
  ·have HT:=zh (jm _ _ a (a^i) wr (HX.out.later (Bt HB1.out hb)) HP.out HA.out (HBD.out i hi));go_wp2_with fail
   refine HT.out.mono ?_;rintro e w2 ⟨v,rfl,hb2,hv⟩;obtain ⟨pq,lq,cq,rfl⟩:=hv.slice;have kV:Hid (bC w2 (aj pq lq cq) (a^(i+1))):=zh (by rw [bF,aJ];exact hv);have hz:=Bt hb hb2;clear hv hb2 HT HP;go_wp2_with fail
   go_roundw
   case rel=>exact ⟨i+1,by go_num,by omega,kV,hz⟩
   case measure=>exact zM
  ·obtain rfl:i=k:=by omega
   go_wp2_with fail
   go_ret
   exact ⟨_,rfl,Bt HB1.out hb,HP.out⟩
theorem LJ (k d:Nat):(bD (k+1) 0).set k d=bD k 0++[d]:=by
 rw [List.replicate_succ'];rw [iy _ _ zi];simp
theorem Pw {w:World} {v:Value} {k d:Nat} (h:kQ w v ((bD (k+1) 0).set k d)) (h0:0<d) (h1:d<1000000000):bC w v (1000000000^k*d):=by
 rw [LJ] at h
 have:=bC.F5 h (fun x hx=>by
  rcases List.mem_append.1 hx with hx|hx
  ·rw [List.eq_of_mem_replicate hx];omega
  ·simp at hx;omega) (fun j hj=>by
  have e:j=k:=by simpa using hj.symm
  subst e;rw [bM,dK zi];simp
  omega)
 rwa [jQ,qK,List.length_replicate,dw] at this
theorem oP (n:Nat) (hn:n≤100000) (w:World) :
  Calls Tryz.prog 252 #[Z I (n:Int)] w (fun e w'=>∃ v,e= ah v∧Below w.heap.size w w'∧bC w' v (10^n)):=by
 obtain ⟨i0,hi,hz0,hz1,hz2⟩:=info_parts vK;have W0:∀ z:Int,0≤z∧z≤1000000000→I.wrap z=z:=fun z h=>by unfold IntKind.wrap;simp [IntKind.bits,IntKind.signed];omega
 obtain ⟨k,hk⟩:∃ k,n / 9=k:=⟨_,rfl⟩;obtain ⟨r,hr⟩:∃ r,n%9=r:=⟨_,rfl⟩
 have e10:10^n=1000000000^k*10^r:=by
  rw [show (1000000000:Nat)=10^9 by decide,← Nat.pow_mul,← d9]
  congr 1
  omega
 rw [e10];have t1:(n:Int).tdiv 9=(k:Int):=by rw [Int.tdiv_eq_ediv_of_nonneg zo];omega
 have t2:(n:Int).tmod 9=(r:Int):=by rw [Int.tmod_eq_emod_of_nonneg zo];omega
 have u1:=W0 (k:Int) zo;have u2:=W0 ((k:Int)+1) zo;have u3:=W0 (r:Int) zo;have hr8:r≤8:=by omega
 have hk9:k≤100000:=by omega
 have HT:Hid (∀ i,i≤r→0<10^i∧10^i≤100000000):=zh fun i hi=>⟨Nat.pow_pos zo,aB (bE zo (show i≤8 by omega)) zd⟩;clear e10 hk hr W0;go_enter Tryz.func252,Tryz.ntmps252
 go_wp2_with (at_make;refine wpList_make_full _ rfl _ _ 175 rfl w.heap.size 133 i0 (Z .u32 0) 1 Tryz.underlying175 hi hz0 hz1 _ _ _ _ (k+1) rfl rfl zo zo (by rw [hz2];omega) (by unfold maxLen;omega) (aI _) ?_)
 intro w0 hown0 jH;rw [nZ] at hown0;have hb0:Below w.heap.size w w0:=(Below.refl _ _).grown jH (aI _) (fun k h=>by cases h);have HO:=zh hown0;have HB:=zh hb0;clear hown0 jH hb0;go_wp2_with fail
 go_loopw [4,11] (fun tv iv wr=>∃ i:Nat,iv= Z I (i:Int)∧i≤r∧tv= Z .u32 ((10^i:Nat):Int)∧wr=w0) (fun _ iv _=>r - (intOf iv).toNat)
 case atStart=>exact ⟨0,rfl,by omega,rfl,rfl⟩
 case round =>
  obtain ⟨i,rfl,hi,rfl,rfl⟩:=hrel;obtain ⟨h1,h2⟩:=HT.out i hi
  rcases aO i r with hlt|hge
  ·have h3:=(HT.out (i+1) zo).2;obtain ⟨b,hB⟩:∃ b,Hid (10^(i+1)=b):=⟨_,zh rfl⟩;rw [hB.out] at h3;have e:((10^i:Nat):Int)*10=(b:Int):=by rw [← hB.out,bF];omega
   have he:IntKind.u32.wrap (((10^i:Nat):Int)*10)=(b:Int):=by rw [e];unfold IntKind.wrap;simp [IntKind.bits,IntKind.signed];omega
   clear e h3 h1 h2;generalize 10^i=a at *;go_wp2_with fail
   go_roundw
   case rel=>exact ⟨i+1,by go_num,by omega,by rw [hB.out],trivial⟩
   case measure=>exact zM
  ·obtain rfl:i=r:=by omega
   obtain ⟨d,hD⟩:∃ d,Hid (10^i=d):=⟨_,zh rfl⟩;rw [hD.out] at h1 h2 ⊢;have q1:wr.cell? ⟨w.heap.size,k,none⟩=some (.int .u32 0):=by rw [HO.out.cellAt k zo,kZ zi];simp
   have q2:wr.frozen? ⟨w.heap.size,k,none⟩=false:=HO.out.frozenAt k
   have HS:Hid (bC (wr.setCell ⟨w.heap.size,k,none⟩ (Z .u32 (d:Int))) (aj (some ⟨w.heap.size,0,none⟩) (k+1) (k+1)) (1000000000^k*d)):=zh (by
    have h3:=(HO.out.stored k (Z .u32 (d:Int))).1;rw [jR] at h3;exact Pw (kQ.iA h3) h1 zo)
   have hb:Below w.heap.size w (wr.setCell ⟨w.heap.size,k,none⟩ (Z .u32 (d:Int))):=HB.out.setCell (aI _) _;go_wp2_with fail
   go_ret
   exact ⟨_,rfl,hb,by rw [hD.out];exact HS.out⟩
end Go.Proofs.whole
namespace Go.Proofs.whole
open Go Go.RowKit Go.SW Go.Num Go.Mem Go.Proofs Go.Dec
theorem Fw {y s:Nat} (hy:sz 1000000000 y≤s):∀ i,sz 1000000000 (y^i)≤s*i+1
 | 0=>bY zo _ _ (by rw [Nat.mul_zero,Nat.pow_zero];decide)
 | i+1=>by
  rw [bF];have h:=kC (B:=1000000000) zo (y^i) y;have:=Fw hy i;rw [Nat.mul_succ];omega
theorem Ti {l:Nat}:sz 1000000000 (10^l)≤l+1:=by
 refine bY zo _ _ ?_;have h1:10^l≤1000000000^l:=Nat.pow_le_pow_left zo l;have h2:1000000000^l<1000000000^(l+1):=Nat.pow_lt_pow_right zo zo;omega
theorem sQ (x:Value) (a k:Nat) (w:World) (hx:bC w x a) (hk:1≤k) (k12:k≤12) (hl:(Lib.decDigits a).length≤10000) (ha:sz 1000000000 a≤10000) (ht:gJ.Pow w) :
  Calls Tryz.prog 196 #[x,Z I (k:Int)] w (fun e w'=>∃ v,e= ah v∧Below w.heap.size w w'∧bC w' v (eH k a)):=by
 obtain ⟨pa,la,ca,rfl⟩:=hx.slice
 rcases aS a with rfl|ha0
 ·have hr:eH k 0=0:=Nat.le_antisymm (Dr hk (by rw [dw,Nat.one_pow];omega)) (Nat.zero_le _);rw [hr];have HX:=zh hx;clear hx hl ha ht hr;go_enter Tryz.func196,Tryz.ntmps196
  go_wp2_with fail
  refine (gL _ 0 _ HX.out).mono ?_;rintro e w1 ⟨rfl,rfl⟩;go_wp2_with fail
  go_ret
  exact ⟨_,rfl,Below.refl _ _,bC.zero _⟩
 ·have W0:∀ z:Int,0≤z∧z≤1000000000→I.wrap z=z:=fun z h=>by unfold IntKind.wrap;simp [IntKind.bits,IntKind.signed];omega
  have d0:decide (a=0)=false:=by simp;omega
  have hs:=F6 (k:=k) (m:=a) hk (yK a);obtain ⟨l,El⟩:∃ l,Hid ((Lib.decDigits a).length=l):=⟨_,zh rfl⟩;have HLEN:=zh (fun W (hW:Below w.heap.size w W)=>j3 _ a W (hx.later hW) (aB ha zo) (ht.later hW));rw [El.out] at hs hl HLEN;obtain ⟨j,Ej⟩:∃ j,l / k=j:=⟨_,rfl⟩;have hjl:j≤l:=by rw [← Ej];exact Nat.div_le_self _ _
  have t1:(l:Int).tdiv (k:Int)=(j:Int):=by rw [Int.tdiv_eq_ediv_of_nonneg zo,← Ej];rfl
  rw [Ej] at hs;have kz:¬ k=0:=by omega
  have kz2:(k:Int)≠0:=by omega
  have kz3:((k:Int) == 0)=false:=by simp;omega
  have u1:=W0 (j:Int) zo;have u2:=W0 ((j:Int)+1) zo;obtain ⟨m,hm⟩:∃ m,Hid (k=m+1):=⟨k - 1,zh zo⟩;have e1:(k:Int) - 1=(m:Int):=by have:=hm.out;omega
  have aq9:m≤11:=by have:=hm.out;omega
  have u3:=W0 (m:Int) zo;have u4:IntKind.u64.wrap (m:Int)=(m:Int):=by unfold IntKind.wrap;simp [IntKind.bits,IntKind.signed];omega
  have u5:IntKind.u32.wrap (k:Int)=(k:Int):=by unfold IntKind.wrap;simp [IntKind.bits,IntKind.signed];omega
  have ah7:=zh (fun W=>oP (j+1) zo W);have HX:=zh hx;have HA:=zh ha;have HS:=zh hs;have HA0:=zh ha0;have HRP:Hid (1≤eH k a):=zh (tO hk (by rw [Nat.one_pow];exact ha0));clear hx ha hs ht W0 Ej;go_enter Tryz.func196,Tryz.ntmps196
  go_wp2_with fail
  refine (gL _ a _ HX.out).mono ?_;rintro e w1 ⟨rfl,rfl⟩;rw [d0];go_wp2_with fail
  refine (HLEN.out _ (Below.refl _ _)).mono ?_;rintro e w2 ⟨rfl,hb2⟩;go_wp2_with fail
  refine (ah7.out _).mono ?_;rintro e w3 ⟨v,rfl,hb3,hv⟩;obtain ⟨pv,lv,cv,rfl⟩:=hv.slice;have HV:=zh hv;have HB:=zh (Bt hb2 hb3);clear hv hb2 hb3;go_wp2_with fail
  go_loopw [5] (fun xv wr=>∃ y:Nat,Hid (bC wr xv y)∧Hid (eH k a≤y∧y≤10^(j+1))∧Below w.heap.size w wr) (fun xv wr=>yc wr xv)
  case atStart=>exact ⟨_,HV,zh ⟨HS.out,aI _⟩,HB.out⟩
  case round =>
   obtain ⟨y,HY,HR,hb⟩:=hrel;obtain ⟨py,ly,cy,rfl⟩:=HY.out.slice;have hy0:0<y:=by have:=HR.out.1;have:=HRP.out;omega
   have hys:sz 1000000000 y≤10002:=aB (gZ zo HR.out.2) (aB Ti zo);have GU:=zh (CP _ y m wr HY.out zo (fun i hi=>aB (Fw hys i) (by have:=aK 10002 (show i≤12 by omega);omega)) (aB hys zo));have HYS:=zh hys;have HY0:=zh hy0;have HBr:=zh hb;clear hb hys hy0;go_wp2_with fail
   refine GU.out.mono ?_;rintro e w4 ⟨v4,rfl,hb4,hv4⟩;obtain ⟨p4,l4,c4,rfl⟩:=hv4.slice;have HV4:=zh hv4;have Vv:=zh hb4;clear hv4 hb4 GU;have HD:=zh (fO _ _ a (y^m) _ (HX.out.later (Bt HBr.out Vv.out)) HV4.out (Nat.pow_pos HY0.out) (aB HA.out zo));go_wp2_with fail
   refine HD.out.mono ?_;rintro e w5 ⟨v5,v6,rfl,hb5,hv5, -⟩;obtain ⟨p5,l5,c5,rfl⟩:=hv5.slice;have HV5:=zh hv5;have Ww:=zh (Bt Vv.out hb5);clear hv5 hb5 HD HV4 Vv;go_wp2_with fail
   refine (kM m _ zo).mono ?_;rintro e w6 ⟨v7,rfl,hb6,hv6⟩;obtain ⟨p6,l6,c6,rfl⟩:=hv6.slice;have sm:sz 1000000000 m≤2:=bY zo 2 _ zo;have HM:=zh (jm _ _ y m _ (HY.out.later (Bt Ww.out hb6)) hv6 (aB HYS.out zo) (aB sm zo));have Y3:=zh (HV5.out.later hb6);have OX:=zh (Bt Ww.out hb6);clear hv6 hb6 HV5 Ww;go_wp2_with fail
   refine HM.out.mono ?_;rintro e w7 ⟨v8,rfl,og,hv7⟩;obtain ⟨p7,l7,c7,rfl⟩:=hv7.slice
   have s7:sz 1000000000 (y*m)≤10100:=by
    have h1:=kC (B:=1000000000) zo y m;have h2:=HYS.out;omega
   have s5:sz 1000000000 (a / y^m)≤10000:=aB (gZ zo (Nat.div_le_self _ _)) HA.out;have HP:=zh (wH _ _ (y*m) (a / y^m) _ hv7 (Y3.out.later og) (aB s7 zo) (aB s5 zo))
   have Y7:Hid (sz 1000000000 (y*m+a / y^m)≤1099511627776):=zh (by
    have:=uK (B:=1000000000) zo (y*m) (a / y^m);omega)
   have HB7:=zh (Bt OX.out og);clear hv7 og HM Y3 OX s7 s5;go_wp2_with fail
   refine HP.out.mono ?_;rintro e w8 ⟨v9,rfl,BZ,Np⟩;obtain ⟨p8,l8,c8,rfl⟩:=Np.slice;have ZV:=zh (sO _ _ k _ Np Y7.out zo zo);have HB8:=zh (Bt HB7.out BZ);clear Np BZ HP Y7 HB7;have en:(y*m+a / y^m) / k=F7 k a y:=by unfold F7;rw [show k - 1=m by have:=hm.out;omega]
   rw [en] at ZV;obtain ⟨z,Ez⟩:∃ z,Hid (F7 k a y=z):=⟨_,zh rfl⟩;rw [Ez.out] at ZV;clear en;go_wp2_with fail
   refine ZV.out.mono ?_;rintro e w9 ⟨v10,rfl,zn,ZB⟩;obtain ⟨p9,l9,c9,rfl⟩:=ZB.slice;have HV9:=zh ZB;have HB9:=zh (Bt HB8.out zn);have HCM:=zh (ji _ _ z y _ ZB (HY.out.later (Bt HB8.out zn)));clear ZB zn ZV HB8;go_wp2_with fail
   refine HCM.out.mono ?_;rintro e w10 ⟨rfl,Dz⟩;have Vw:=zh (Bt HB9.out Dz);have Y6:=zh (HV9.out.later Dz);have HYZ:=zh (HY.out.later Vw.out);clear HCM HB9 HV9 Dz
   rcases aO z y with hlt|hge
   ·rw [nO hlt];have hz:=Bt HBr.out Vw.out;go_wp2_with fail
    go_roundw
    case rel=>exact ⟨z,Y6,zh ⟨by rw [← Ez.out];exact Ql hk HY0.out,by have:=HR.out.2;omega⟩,hz⟩
    case measure=>rw [qp Y6.out,qp HY.out];exact hlt
   ·have g:decide ((0:Int)≤qM z y)=true:=by
     rcases Nat.eq_or_lt_of_le hge with h|h
     ·rw [h,oW];rfl
     ·rw [mQ h];rfl
    have hw:=Bt HBr.out Vw.out;have HE:Hid (y=eH k a):=zh (MP hk HY0.out HR.out.1 (by rw [Ez.out];exact hge));go_wp2_with fail
    go_ret
    exact ⟨_,rfl,hw,by rw [← HE.out];exact HYZ.out⟩
end Go.Proofs.whole
