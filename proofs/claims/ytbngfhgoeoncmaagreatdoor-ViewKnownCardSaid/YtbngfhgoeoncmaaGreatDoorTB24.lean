/- Lemmas for the proof. No condition. -/
import Derived.Test.YtbngfhgoeoncmaaGreatDoorTB11
import Derived.Test.YtbngfhgoeoncmaaGreatDoorTB23
set_option linter.unusedVariables false
set_option linter.unusedSimpArgs false
set_option maxRecDepth 100000
set_option maxHeartbeats 16000000
open Bool renaming and_eq_true → aD
open Go.Ending renaming returned → ah
open Go.IntKind renaming i64 → I
open Go.Value renaming agg → aB, bool → aC, int → Z, pointer → au, slice → aj, string → O, tuple → aF
open List renaming getD_eq_getElem?_getD → bJ, getElem?_append_right → fO, getElem_mem → bN, replicate → bP, set_append_right → iI, set_cons_succ → aJ, set_cons_zero → aI
open Nat renaming le_refl → aG, le_trans → ay, lt_of_lt_of_le → aP, lt_or_ge → aH, mul_comm → aL, mul_le_mul → dU, pow_add → eG, pow_le_pow_right → bX, pow_succ → bF, zero_add → dS
namespace Go.Proofs.dw
open Go Go.RowKit Go.SW Go.Num Go.Mem Go.Proofs Go.Dec Go.d9
def Da (z:Int):Bool:=decide (-9223372036854775808≤z∧z<9223372036854775808)
theorem Uh (z:Int) (w:World) (he:whole.Er w) :
  Calls Tryz.prog 175 #[dX z] w (fun e w'=>(∃ x k,(k=0↔Da z=true)∧(Da z=true→x=z)∧e= ah (aF #[Z I x,Z I k]))∧Below w.heap.size w w'):=by
 cases h:mQ z.natAbs with
 | true =>
  refine (whole.Ui z h w he).mono ?_;rintro e w1 ⟨rfl,hb⟩;refine ⟨?_,hb⟩;unfold whole.WH Da
  by_cases c: -9223372036854775808≤z∧z<9223372036854775808
  ·rw [if_pos c,decide_eq_true c];exact ⟨z,0,by simp,fun _=>rfl,rfl⟩
  ·rw [if_neg c,decide_eq_false c];exact ⟨0,6,by simp,(fun h=>by cases h),rfl⟩
 | false =>
  have hn:whole (Lib.itoa z)=none:=by
   cases e:whole (Lib.itoa z) with
   | none=>rfl
   | some n =>
    obtain ⟨h1,h2⟩:=nI e;rw [← FL h1,← eZ,h] at h2;cases h2
  have hr:Da z=false:=by
   unfold Da;refine decide_eq_false fun c=>?_
   have h3:mQ z.natAbs=true:=by
    unfold mQ;refine decide_eq_true (aP (show z.natAbs<9223372036854775809 by omega) ?_)
    decide+kernel
   rw [h] at h3;cases h3
  have HC:=zh (fun W=>Ar (s:=⟨(Lib.itoa z).toArray⟩) hn W);rw [hr];clear hn hr h;unfold dX;generalize Lib.itoa z=t at *;go_enter Tryz.func175,Tryz.ntmps175
  go_wp2_with fail
  refine (HC.out _).mono ?_;rintro e w1 ⟨rfl,hb1⟩;go_wp2_with fail
  go_ret2
  exact ⟨⟨0,10,by simp,(fun h=>by cases h),rfl⟩,hb1⟩
theorem SH (N:Int) (d:Nat):(dR.iU N d).natAbs≤2*N.natAbs+d:=by
 unfold dR.iU;have h1:=Int.natAbs_ediv_le_natAbs (2*N+(d:Int)) (2*(d:Int));have h2:=Int.natAbs_add_le (2*N) (d:Int);rw [Int.natAbs_mul,Int.natAbs_natCast] at h2;omega
theorem Nk (s t:ByteArray) (k:Int) (h:rd ⟨s,t⟩=none) (w:World) :
  Calls Tryz.prog 179 #[aB #[O s,O t],Z I k] w (fun e w'=>e= ah (aF #[Z I 0,Z I 20])∧Below w.heap.size w w'):=by
 have HR:=zh (gB h);clear h;go_enter Tryz.func179,Tryz.ntmps179
 go_wp2_with fail
 refine (HR.out _).mono ?_;rintro e v1 ⟨rfl,hc1⟩;have BR:=aA.later (aA.new _ _ _) hc1;have bR:=BR.cell;have bQ:=BR.free;have gT:=BR.lt;go_wp2_with fail
 go_ret2
 exact ⟨rfl,aO⟩
theorem Nj (s t:ByteArray) (k:Nat) (q:Rat) (h:rd ⟨s,t⟩=some q) (k1:1≤k) (k2:(k:Int)≤1000000000000) (w:World) (ht:iA.Pow w) (he:whole.Er w) :
  Calls Tryz.prog 179 #[aB #[O s,O t],Z I (k:Int)] w (fun e w'=>e= ah (if Da (dR.iU (q.num*(k:Int)) q.den) then aF #[Z I (dR.iU (q.num*(k:Int)) q.den),Z I 0] else aF #[Z I 0,Z I 6])∧Below w.heap.size w w'):=by
 have HR:=zh (fI h);have KP:=jH (mX h).2;have HK1:Hid (sz 1000000000 k≤1000000):=zh (by have:=cZ (B:=1000000000) zo 2 k zo;omega);have HKN:Hid (sz 1000000000 q.num.natAbs≤1000000):=zh (ay KP.1 zo);have HKD:Hid (sz 1000000000 q.den≤1000000):=zh (ay KP.2 zo)
 have HZ:Hid (sz 1000000000 (dR.iU (q.num*(k:Int)) q.den).natAbs≤1099511627776):=by
  refine zh ?_;have h1:=jK (B:=1000000000) zo (SH (q.num*(k:Int)) q.den);have h2:=yK (B:=1000000000) zo (2*(q.num*(k:Int)).natAbs) q.den;have h3:=kg (B:=1000000000) zo 2 (q.num*(k:Int)).natAbs;have h4:=kg (B:=1000000000) zo q.num.natAbs k;have h5:=cZ (B:=1000000000) zo 1 2 zo;rw [← Int.natAbs_natCast k,← Int.natAbs_mul,Int.natAbs_natCast k] at h4;have:=HK1.out;have:=HKN.out;have:=HKD.out;omega
 have HT:=zh ht;have HE:=zh he;have g1:decide ((k:Int)<1)=false:=decide_eq_false zo;have g2:decide ((1000000000000:Int)<(k:Int))=false:=decide_eq_false zo
 have g3:IntKind.u64.wrap (k:Int)=(k:Int):=by
  simp [IntKind.wrap,IntKind.bits,IntKind.signed]
  omega
 obtain ⟨z,Ez⟩:∃ y:Int,Hid (dR.iU (q.num*(k:Int)) q.den=y):=⟨_,zh rfl⟩;rw [Ez.out] at HZ ⊢;obtain ⟨R,ER⟩:∃ y:Value,Hid ((if Da z then aF #[Z I z,Z I 0] else aF #[Z I 0,Z I 6]:Value)=y):=⟨_,zh rfl⟩;rw [ER.out];have HK2:Hid (k≤18446744073709551615):=zh zo;clear ht he h KP k1 k2;go_enter Tryz.func179,Tryz.ntmps179
 go_wp2_with fail
 refine (HR.out _).mono ?_;rintro e v1 ⟨v,rfl,hc1,hv⟩;obtain ⟨xH,Ny,xR,Bf,Rf,Bo,rfl,Hq,qP⟩:=hv;replace Hq:=zh Hq;replace qP:=zh qP;have BR:=aA.later (aA.new _ _ _) hc1;have bR:=BR.cell;have bQ:=BR.free;have gT:=BR.lt;go_wp2_with fail
 refine aQ [(.read,0),(.pure,1),(.pure,2),(.ext,3),(.ext,4),(.ext,5),(.ext,6),(.pure,7),(.pure,8),(.pure,9),(.fin,10),(.fin,11)] zk zk zR zP ?_;refine zV ?_;refine aN rfl rfl (fun w3 hb3 J hJ=>?_);go_simp;replace Hq:=zh (aT.carry Hq.out aK hb3);replace qP:=zh (aT.carry qP.out aK hb3);refine (jP k _ HK2.out).mono ?_;rintro e v3 ⟨v,rfl,hc3,hv⟩;obtain ⟨xG,Nw,xQ,rfl⟩:=hv.slice;have Hs:=zh hv;clear hv;replace Hq:=zh (aT.later Hq.out hc3);replace qP:=zh (aT.later qP.out hc3);refine hJ _ _ hc3 ?_;clear hJ J;refine aN rfl rfl (fun w4 hb4 J hJ=>?_);go_simp;refine ((SF _ _ q k _ (fA.of aK aK) aK HKN.out HKD.out HK1.out).mono (by rw [Ez.out];exact fun _ _ h=>h)).mono ?_;rintro e v4 ⟨v,rfl,hc4,hv⟩;obtain ⟨au0,lHn,ay8,rfl,Hn⟩:=hv;replace Hn:=zh Hn;refine hJ _ _ hc4 ?_;clear hJ J;refine aN rfl rfl (fun w5 hb5 J hJ=>?_);go_simp
 refine (xS _ z _ (bW.dx aK) HZ.out (HT.out.later aO)).mono ?_;rintro e v5 ⟨rfl,kK⟩;refine hJ _ _ kK ?_;clear hJ J;refine aN rfl rfl (fun w6 hb6 J hJ=>?_);go_simp;refine (Uh z _ (HE.out.later aO)).mono ?_;rintro e v6 ⟨⟨x,c,h1,h2,rfl⟩,hc6⟩;refine hJ _ _ hc6 ?_;clear hJ J;refine zV ?_;refine bT [_,_] rfl (fun w7 mJ=>?_);cases hz:Da z with
 | true =>
  obtain rfl:=h1.2 hz;obtain rfl:=h2 hz;clear h1 h2;have hR: aF #[Z I x,Z I 0]=R:=by rw [← ER.out,hz];rfl
  go_wp2_with fail
  go_ret2
  exact ⟨congrArg Ending.returned hR,aO⟩
 | false =>
  have hc:decide (c=0)=false:=decide_eq_false fun e=>by rw [h1.1 e] at hz;cases hz
  have hn:¬ c=0:=of_decide_eq_false hc;clear h1 h2;have hR: aF #[Z I 0,Z I 6]=R:=by rw [← ER.out,hz];rfl
  go_wp2_with fail
  all_goals go_ret2
  all_goals exact ⟨congrArg Ending.returned hR,aO⟩
end Go.Proofs.dw
namespace Go.Proofs.dR
open Go Go.RowKit Go.SW Go.Num Go.Mem Go.Proofs Go.Dec Go.d9
theorem SG (z:Int) {E:Nat} (hE:0<E) (hz:z.natAbs<9223372036854775809) (hE2:E<9223372036854775809) :
  ∃ s t,Fr.res (oh z (E:Int))= aF #[aB #[O s,O t],Z I 0]∧rd ⟨s,t⟩=some ((z:Rat) / ((E:Nat):Rat)):=by
 have hk:iG ((z:Rat) / ((E:Nat):Rat))=true:=by
  rw [← Rat.mkRat_eq_div];have hp:=rE z hE;have ht:9223372036854775809≤jT 600:=by unfold jT;decide+kernel
  unfold iG mQ;rw [aD];refine ⟨decide_eq_true ?_,decide_eq_true ?_⟩
  ·rw [hp.1,jg];have:=Nat.div_le_self z.natAbs (z.natAbs.gcd E);omega
  ·rw [hp.2];have:=Nat.div_le_self E (z.natAbs.gcd E);omega
 refine ⟨(Fr.of ((z:Rat) / ((E:Nat):Rat))).n,(Fr.of ((z:Rat) / ((E:Nat):Rat))).d,?_,mF hk⟩;unfold oh wr;rw [if_neg zo,Rat.intCast_natCast,if_pos hk];rfl
theorem aj5 (o:Int):∃ m:Int,(m=if o<0 then o else 0)∧(∀ (ts:Array TypeId) (t:TypeId) (W:World),(Builtin.min_ ts t #[Z I o,Z I 0]).run Tryz.prog W= .ok (Z I m) W):=by
 by_cases h:o<0
 ·refine ⟨o,by rw [if_pos h],fun ts t W=>?_⟩;have h1:¬ (0:Int)<o:=by omega
  rw [run_min_int2];simp [h1]
 ·refine ⟨0,by rw [if_neg h],fun ts t W=>?_⟩;rw [run_min_int2]
  by_cases h1:(0:Int)<o
  ·simp [h1]
  ·obtain rfl:o=0:=by omega
   simp
theorem aj6 (o:Int):∃ m:Int,(m=if 0<o then o else 0)∧(∀ (ts:Array TypeId) (t:TypeId) (W:World),(Builtin.max_ ts t #[Z I o,Z I 0]).run Tryz.prog W= .ok (Z I m) W):=by
 by_cases h:0<o
 ·refine ⟨o,by rw [if_pos h],fun ts t W=>?_⟩;have h1:¬ o<(0:Int):=by omega
  rw [run_max_int2];simp [h1]
 ·refine ⟨0,by rw [if_neg h],fun ts t W=>?_⟩;rw [run_max_int2]
  by_cases h1:o<(0:Int)
  ·simp [h1]
  ·obtain rfl:o=0:=by omega
   simp
theorem Az (s t:ByteArray) (k:Int) (hk:¬ k=0) (w:World) (HN:Hid (∀ W,Below w.heap.size w W→Calls Tryz.prog 179 #[aB #[O s,O t],Z I 1000000000000] W (fun e w'=>e= ah (aF #[Z I 0,Z I k])∧Below W.heap.size W w'))) :
  Calls Tryz.prog 113 #[aB #[O s,O t]] w (fun e w'=>e= ah (ig ((0,0),k))∧Below w.heap.size w w'):=by
 unfold ig;have hk0:decide (k=0)=false:=decide_eq_false hk;go_enter Tryz.func113,Tryz.ntmps113
 go_wp2_with fail
 refine (HN.out _ aO).mono ?_;rintro e v1 ⟨rfl,hc1⟩;have BR:=aA.later (aA.nX _ _ _ _) hc1;have bR:=BR.cell;have bQ:=BR.free;have gT:=BR.lt;go_wp2_with fail
 refine bE rfl rfl aY Tryz.underlying26 rfl zk ?_;exact ⟨rfl,aO⟩
theorem GH (s t s1 t1:ByteArray) (z o:Int) (w:World) (ho: -1≤o∧o≤1) (HN:Hid (∀ W,Below w.heap.size w W→Calls Tryz.prog 179 #[aB #[O s,O t],Z I 1000000000000] W (fun e w'=>e= ah (aF #[Z I z,Z I 0])∧Below W.heap.size W w')))
  (HO:Hid (∀ W,Below w.heap.size w W→Calls Tryz.prog 35 #[Z I z,Z I 1000000000000] W (fun e w'=>e= ah (aF #[aB #[O s1,O t1],Z I 0])∧Below W.heap.size W w')))
  (HC:Hid (∀ W,Calls Tryz.prog 36 #[aB #[O s,O t],aB #[O s1,O t1]] W (fun e w'=>e= ah (aF #[Z I o,Z I 0])∧Below W.heap.size W w'))) :
  Calls Tryz.prog 113 #[aB #[O s,O t]] w (fun e w'=>e= ah (ig (if jy z z then iV (z+(if o<0 then -1 else 0)) (z+(if 0<o then 1 else 0)) else ((0,0),6)))∧Below w.heap.size w w'):=by
 have HV:=zh (fun W=>mD z z W);cases hb:jy z z with
 | false =>
  rw [if_neg zi];unfold ig;rw [hb] at HV;clear hb ho;go_enter Tryz.func113,Tryz.ntmps113
  go_wp2_with fail
  refine (HN.out _ aO).mono ?_;rintro e v1 ⟨rfl,hc1⟩;have BR:=aA.later (aA.nX _ _ _ _) hc1;have bR:=BR.cell;have bQ:=BR.free;have gT:=BR.lt;have B0:=aA.later (aA.alloc (aA.new _ _ _) _) hc1;have cB0:=B0.cell;have jc:=B0.free;have lB0:=B0.lt;go_wp2_with fail
  refine (HO.out _ aO).mono ?_;rintro e v2 ⟨rfl,hc2⟩;replace BR:=aA.later (BR) hc2;replace bR:=BR.cell;replace bQ:=BR.free;replace gT:=BR.lt;replace B0:=aA.later (B0) hc2;replace cB0:=B0.cell;replace jc:=B0.free;replace lB0:=B0.lt;go_wp2_with fail
  refine (HC.out _).mono ?_;rintro e v3 ⟨rfl,hc3⟩;replace BR:aA _ (w.heap.size+1) _ _:=aA.later aY hc3;(try simp only [List.setIfInBounds_toArray,aI,aJ] at BR);replace bR:=BR.cell;replace bQ:=BR.free;replace gT:=BR.lt;go_wp2_with fail
  refine (HV.out _).mono ?_;rintro e v4 ⟨rfl,hc4⟩;replace BR:=aA.later (BR) hc4;replace bR:=BR.cell;replace bQ:=BR.free;replace gT:=BR.lt;go_wp2_with fail
  refine bE rfl rfl aY Tryz.underlying26 rfl zk ?_;exact ⟨rfl,aO⟩
 | true =>
  rw [if_pos rfl];rw [hb] at HV;obtain ⟨l,hl,hmin⟩:=aj5 o;obtain ⟨m,hm,hmax⟩:=aj6 o;have el:(if o<0 then (-1:Int) else 0)=l:=by rw [hl];by_cases h:o<0<;>simp only [if_pos,if_neg,h,if_true,if_false]<;>omega
  have em:(if 0<o then (1:Int) else 0)=m:=by rw [hm];by_cases h:0<o<;>simp only [if_pos,if_neg,h,if_true,if_false]<;>omega
  rw [el,em]
  have hr: -1000000000000000000≤z∧z≤1000000000000000000:=by
   unfold jy at hb;simp only [aD,decide_eq_true_eq] at hb;omega
  have hl2: -1≤l∧l≤0:=by rw [← el];by_cases h:o<0<;>simp [h]
  have hm2:0≤m∧m≤1:=by rw [← em];by_cases h:0<o<;>simp [h]
  have w1:I.wrap (z+l)=z+l:=by simp [IntKind.wrap,IntKind.bits,IntKind.signed];omega
  have w2:I.wrap (z+m)=z+m:=by simp [IntKind.wrap,IntKind.bits,IntKind.signed];omega
  have HM:=zh (fun W=>CY (z+l) (z+m) W);clear hb ho hl hm el em hr hl2 hm2;generalize iV (z+l) (z+m)=x at *;obtain ⟨⟨x1,x2⟩,x3⟩:=x;unfold ig at *;simp only at *;go_enter Tryz.func113,Tryz.ntmps113
  go_wp2_with fail
  refine (HN.out _ aO).mono ?_;rintro e v1 ⟨rfl,hc1⟩;have BR:=aA.later (aA.nX _ _ _ _) hc1;have bR:=BR.cell;have bQ:=BR.free;have gT:=BR.lt;have B0:=aA.later (aA.alloc (aA.new _ _ _) _) hc1;have cB0:=B0.cell;have jc:=B0.free;have lB0:=B0.lt;go_wp2_with fail
  refine (HO.out _ aO).mono ?_;rintro e v2 ⟨rfl,hc2⟩;replace BR:=aA.later (BR) hc2;replace bR:=BR.cell;replace bQ:=BR.free;replace gT:=BR.lt;replace B0:=aA.later (B0) hc2;replace cB0:=B0.cell;replace jc:=B0.free;replace lB0:=B0.lt;go_wp2_with fail
  refine (HC.out _).mono ?_;rintro e v3 ⟨rfl,hc3⟩;replace BR:aA _ (w.heap.size+1) _ _:=aA.later aY hc3;(try simp only [List.setIfInBounds_toArray,aI,aJ] at BR);replace bR:=BR.cell;replace bQ:=BR.free;replace gT:=BR.lt;go_wp2_with fail
  refine (HV.out _).mono ?_;rintro e v4 ⟨rfl,hc4⟩;replace BR:=aA.later (BR) hc4;replace bR:=BR.cell;replace bQ:=BR.free;replace gT:=BR.lt;go_wp2_with fail
  refine (HM.out _).mono ?_;rintro e v5 ⟨rfl,kK⟩;replace BR:=aA.later (BR) kK;replace bR:=BR.cell;replace bQ:=BR.free;replace gT:=BR.lt;go_wp2_with fail
  refine bE rfl rfl aY Tryz.underlying26 rfl zk ?_;exact ⟨rfl,aO⟩
def j6 (a:Fr):(Int × Int) × Int:=match rd a with
 | some q=>iV (oz (q.num*1000000000000) q.den false) (oz (q.num*1000000000000) q.den true)
 | none=>((0,0),20)
theorem Nu (a:Fr) (w:World) (ht:iA.Pow w) (he:whole.Er w) :
  Calls Tryz.prog 113 #[a.v] w (fun e w'=>e= ah (ig (j6 a))∧Below w.heap.size w w'):=by
 obtain ⟨s,t⟩:=a
 show Calls _ _ #[aB #[O s,O t]] _ _
 unfold j6;cases h:rd ⟨s,t⟩ with
 | none=>exact Az s t 20 zo w (zh fun W _=>dw.Nk s t 1000000000000 h W)
 | some q =>
  have hd:0<q.den:=q.den_pos;simp only;rw [← XV _ hd];have hn:∀ W,Below w.heap.size w W→ _:=fun W hW=>dw.Nj s t 1000000000000 q h zo zo W (ht.later hW) (he.later hW);have e1:((1000000000000:Nat):Int)=1000000000000:=rfl;rw [e1] at hn;unfold arE;unfold dw.Da at hn;generalize hz:iU (q.num*1000000000000) q.den=z at *
  by_cases c: -9223372036854775808≤z∧z<9223372036854775808
  ·rw [if_pos c];rw [decide_eq_true c,if_pos rfl] at hn;obtain ⟨s1,t1,hof,hrd⟩:=SG z (E:=1000000000000) zo zo zo;rw [e1] at hof;have hc:=fun W=>dw.DR ⟨s,t⟩ ⟨s1,t1⟩ W;have hce:uE ⟨s,t⟩ ⟨s1,t1⟩=(jk q ((z:Rat) / ((1000000000000:Nat):Rat)),0):=by unfold uE;rw [h,hrd]
   rw [hce,MU q z zo,e1] at hc;have aa2:∀ W,Below w.heap.size w W→ _:=fun W hW=>dw.vD z 1000000000000 zo zo zo zo W (ht.later hW);rw [hof] at aa2;refine (GH s t s1 t1 z _ w ?_ (zh hn) (zh aa2) (zh hc)).mono ?_
   ·split
    ·omega
    ·split<;>omega
   ·rintro e w1 ⟨rfl,hb⟩;refine ⟨?_,hb⟩
    congr 2
    by_cases h1:q.num*1000000000000<z*(q.den:Int)
    ·have h2:¬ z*(q.den:Int)<q.num*1000000000000:=by omega
     simp [h1,h2]
    ·by_cases h2:z*(q.den:Int)<q.num*1000000000000
     ·simp [h1,h2]
     ·simp [h1,h2]
  ·rw [if_neg c];rw [decide_eq_false c,if_neg zi] at hn;exact Az s t 6 zo w (zh hn)
end Go.Proofs.dR
namespace Go.Proofs.whole
open Go Go.RowKit Go.SW Go.Num Go.Mem Go.Proofs Go.Dec
theorem uM (z:Int) (hz:(Lib.decDigits z.natAbs).length≤600) (w:World) :
  Calls Tryz.prog 163 #[dX z] w (fun e w'=>∃ v,e= ah (aF #[v,aC true])∧Below w.heap.size w w'∧bW w' v z):=by
 have HC:=zh (qp ⟨(Lib.itoa z).toArray⟩);have e1:(⟨(Lib.itoa z).toArray⟩:ByteArray).data.toList=Lib.itoa z:=rfl;rw [e1,Gb] at HC;have hd:=lg z.natAbs;have hn:=mo z.natAbs;have hl:=Ga z.natAbs;have hh:(Lib.decDigits z.natAbs).head? =some 48→z=0:=fun h=>Int.natAbs_eq_zero.1 (Ak h);have hz1:z=0→(Lib.decDigits z.natAbs).length≤1:=fun h=>by rw [h];decide+kernel
 unfold dX;generalize (Lib.itoa z).toArray=txt at *;generalize Lib.decDigits z.natAbs=d at *;have hsz:(⟨d.toArray⟩:ByteArray).size=d.length:=rfl;have g0:((d.length:Int) == 0)=false:=beq_eq_false_iff_ne.2 zo;have g1:decide ((600:Int)<(d.length:Int))=false:=by simp;omega
 have g2:¬ d=[]:=fun h=>by rw [h] at hl;simp at hl
 have hbx:aA (w.alloc (.cells #[aj none 0 0,aC false] 234 (0,0))) w.heap.size #[aj none 0 0,aC false] 234:=aA.new _ _ _;have hbl:Below w.heap.size w (w.alloc (.cells #[aj none 0 0,aC false] 234 (0,0))):=(Below.refl _ _).alloc (aG _) _;have JD:=zh hbx;have HD:=zh hd;have HN:=zh hn;have HH:=zh hh;have HZ:=zh hz1;clear hbx hd hn hh hz1 e1;go_enter Tryz.func163,Tryz.ntmps163
 go_wp2_with (go_at_call 221;refine (HC.out _).mono ?_;rintro e w1 ⟨rfl,rfl⟩)
 go_loopw [23] (fun v wr=>∃ i:Nat,v= Z I (i:Int)∧i≤d.length∧w.alloc (.cells #[aj none 0 0,aC false] 234 (0,0))=wr) (fun v _=>d.length - (intOf v).toNat)
 case atStart=>exact ⟨0,rfl,by omega,rfl⟩
 case round =>
  obtain ⟨i,rfl,hi,rfl⟩:=hrel
  rcases aH i d.length with hlt|hge
  ·have hgt:(⟨d.toArray⟩:ByteArray)[i]'(by exact hlt)=d[i]:=rfl;have hdig:=HD.out d[i] (bN hlt);have q1:decide (((⟨d.toArray⟩:ByteArray)[i]'(by exact hlt)).toNat<(48:Int))=false:=by rw [hgt];simp;omega
   have q2:decide ((57:Int)<((⟨d.toArray⟩:ByteArray)[i]'(by exact hlt)).toNat)=false:=by rw [hgt];simp;omega
   clear hgt hdig;go_wp2_with fail
   exact ⟨⟨i+1,rfl,by omega,trivial⟩,by simp only [intOf];omega⟩
  ·obtain rfl:i=d.length:=by omega
   have hgt:(⟨d.toArray⟩:ByteArray)[0]'(by exact hl)=d[0]:=rfl;have HG:=zh (o9 ⟨d.toArray⟩ (by rw [hsz];omega) HD.out (w.alloc (.cells #[aj none 0 0,aC false] 234 (0,0))));have e2:num (⟨d.toArray⟩:ByteArray).data.toList=z.natAbs:=HN.out;rw [e2] at HG;have hx:d[0].toNat=48→z=0:=fun h=>HH.out (by rw [List.head?_eq_getElem?, List.getElem?_eq_getElem hl];exact congrArg some (UInt8.toNat_inj.mp h));cases hq:decide (d[0].toNat=48) with
   | true =>
    have h0:=hx (of_decide_eq_true hq);have h1:=HZ.out h0;have q1:decide ((1:Int)<(d.length:Int))=false:=by simp;omega
    have q2:decide (z<0)=false:=by simp;omega
    have q0:((((⟨d.toArray⟩:ByteArray)[0]'(by exact hl)).toNat:Int) == 48)=true:=by rw [hgt];simp at hq ⊢;omega
    clear hgt hx hq e2 hge hi h0;go_wp2_with (go_at_call 232;refine (HG.out).mono ?_;rintro e w2 ⟨v,rfl,hb2,hv⟩;have HV:=zh hv;obtain ⟨pa,ca,rfl, -⟩:=hv;have o8:=JD.out.later hb2;have cb:=o8.cell;have fb:=o8.free)
    refine bE rfl rfl (((JD.out.later hb2).set 0 _).set 1 _) Tryz.underlying234 rfl zk ?_;refine ⟨_,rfl,((Bt hbl hb2).setCell (aG _) _).setCell (aG _) _,pa,_,ca,?_,(HV.out.setOther o8 zd 0 _).setOther (o8.set 0 _) zd 1 _⟩;rw [q2];rfl
   | false =>
    have q0:((((⟨d.toArray⟩:ByteArray)[0]'(by exact hl)).toNat:Int) == 48)=false:=by rw [hgt];simp at hq ⊢;omega
    clear hgt hx hq e2 hge hi;go_wp2_with (go_at_call 232;refine (HG.out).mono ?_;rintro e w2 ⟨v,rfl,hb2,hv⟩;have HV:=zh hv;obtain ⟨pa,ca,rfl, -⟩:=hv;have o8:=JD.out.later hb2;have cb:=o8.cell;have fb:=o8.free)
    refine bE rfl rfl (((JD.out.later hb2).set 0 _).set 1 _) Tryz.underlying234 rfl zk ?_;exact ⟨_,rfl,((Bt hbl hb2).setCell (aG _) _).setCell (aG _) _,pa,_,ca,rfl,(HV.out.setOther o8 zd 0 _).setOther (o8.set 0 _) zd 1 _⟩
end Go.Proofs.whole
namespace Go.Proofs.whole
open Go Go.RowKit Go.SW Go.Num Go.Mem Go.Proofs
theorem gM (v:Value) (n:Nat) (w:World) (h:aT w v n) :
  Calls Tryz.prog 170 #[v] w fun e w'=>e= ah (aC (decide (n=0)))∧w=w':=zs4
def oM (a b:Nat):Int:=if a<b then -1 else if b<a then 1 else 0
theorem nM {a b:Nat} (h:a<b):oM a b= -1:=if_pos h
theorem mR {a b:Nat} (h:b<a):oM a b=1:=by unfold oM;rw [if_neg zo,if_pos h]
theorem ow (a:Nat):oM a a=0:=by unfold oM;simp
theorem Dr (a b:Nat) (w:World):Calls Tryz.prog 230 #[Z I a,Z I b] w fun e w'=>e= ah (Z I (oM a b))∧w=w':=zs5
theorem Dq (a b:Nat) (w:World):Calls Tryz.prog 231 #[Z .u32 a,Z .u32 b] w fun e w'=>e= ah (Z I (oM a b))∧w=w':=zs6
theorem rQ (a b:Option Addr) (m n c d:Nat) (w:World) (h:m≠n) :
  Calls Tryz.prog 244 #[aj a m c,aj b n d] w fun e w'=>e= ah (Z I (oM m n))∧w=w':=zs7
theorem qy (pa pb:Option Addr) (ca cb:Nat) (l m:List Nat) (w:World) (hlen:l.length=m.length) (hm:l.length≤9223372036854775807) (hl:gF 1000000000 l) (hmd:gF 1000000000 m)
   (hc:∀ k,k<l.length→∃ b off,pa=some ⟨b,off,none⟩∧b<w.heap.size∧w.cell? ⟨b,off+k,none⟩=some (.int .u32 (l.getD k 0:Nat)))
   (hd:∀ k,k<m.length→∃ b off,pb=some ⟨b,off,none⟩∧b<w.heap.size∧w.cell? ⟨b,off+k,none⟩=some (.int .u32 (m.getD k 0:Nat))) :
    Calls Tryz.prog 244 #[aj pa l.length ca,aj pb m.length cb] w fun e w'=>e= ah (Z I (oM (val 1000000000 l) (val 1000000000 m)))∧Below w.heap.size w w':=zs8
theorem iT (x y:Value) (a b:Nat) (w:World) (hx:aT w x a) (hy:aT w y b) :
  Calls Tryz.prog 244 #[x,y] w fun e w'=>e= ah (Z I (oM a b))∧Below w.heap.size w w':=zs9
theorem uR:(Tryz.prog.info? 22).map (fun i=>(i.zero,i.size,i.bytes))=some (some (.int .u32 0),1,4):=by kernel_rfl
theorem rY {B:Nat} {l m s:List Nat} {k c d c':Nat} (hk:k<l.length) (hs:s.length=k) (he:val B s+c*B^k=val B (l.take k)+val B (m.take k)) (h:d+c'*B=l.getD k 0+c+m.getD k 0) :
  val B (s++[d])+c'*B^(k+1)=val B (l.take (k+1))+val B (m.take (k+1)):=Vy
theorem rX (pl ps:Option Addr) (cl cs:Nat) (l m:List Nat) (v0 v1:Value) (w:World) (hl:gF 1000000000 l) (hmd:gF 1000000000 m) (hb1:l.length≤1099511627776) (hml:m.length≤l.length)
   (hv:(v0= aj pl l.length cl∧v1= aj ps m.length cs)∨(v1= aj pl l.length cl∧v0= aj ps m.length cs∧m.length<l.length))
   (hc:∀ k,k<l.length→∃ b off,pl=some ⟨b,off,none⟩∧b<w.heap.size∧w.cell? ⟨b,off+k,none⟩=some (.int .u32 (l.getD k 0:Nat)))
   (hd:∀ k,k<m.length→∃ b off,ps=some ⟨b,off,none⟩∧b<w.heap.size∧w.cell? ⟨b,off+k,none⟩=some (.int .u32 (m.getD k 0:Nat))) :
    Calls Tryz.prog 172 #[v0,v1] w fun e w'=>∃ s v,e= ah v∧Below w.heap.size w w'∧kP w' v s∧gF 1000000000 s∧val 1000000000 s=val 1000000000 l+val 1000000000 m∧l.length≤s.length∧(l.length<s.length→Top s):=Vx
theorem uN (x y:Value) (a b:Nat) (w:World) (hx:aT w x a) (hy:aT w y b) (ha:sz 1000000000 a≤1099511627776) (hb:sz 1000000000 b≤1099511627776) :
  Calls Tryz.prog 172 #[x,y] w fun e w'=>∃ v,e= ah v∧Below w.heap.size w w'∧aT w' v (a+b):=zs12
theorem CQ {x y:Nat} (hx:x<1000000000) (hy:y<1000000000):(0:Int)≤(x:Int)*(y:Int)∧(x:Int)*(y:Int)≤999999998000000001:=by
 have h:x*y≤999999999*999999999:=dU zo zo;rw [← Int.natCast_mul];omega
theorem tX (pl ps:Option Addr) (cl cs:Nat) (l m:List Nat) (w:World) (hl:gF 1000000000 l) (hmd:gF 1000000000 m) (hb1:l.length≤1099511627776) (hb2:m.length≤1099511627776)
   (hc:∀ k,k<l.length→∃ b off,pl=some ⟨b,off,none⟩∧b<w.heap.size∧w.cell? ⟨b,off+k,none⟩=some (.int .u32 (l.getD k 0:Nat)))
   (hd:∀ k,k<m.length→∃ b off,ps=some ⟨b,off,none⟩∧b<w.heap.size∧w.cell? ⟨b,off+k,none⟩=some (.int .u32 (m.getD k 0:Nat))) :
    Calls Tryz.prog 235 #[aj pl l.length cl,aj ps m.length cs] w fun e w'=>∃ v,e= ah v∧Below w.heap.size w w'∧aT w' v (val 1000000000 l*val 1000000000 m):=Vw
theorem iE (x y:Value) (a b:Nat) (w:World) (hx:aT w x a) (hy:aT w y b) (ha:sz 1000000000 a≤1099511627776) (hb:sz 1000000000 b≤1099511627776) :
  Calls Tryz.prog 235 #[x,y] w fun e w'=>∃ v,e= ah v∧Below w.heap.size w w'∧aT w' v (a*b):=Vv
theorem nL (pl:Option Addr) (cl:Nat) (l:List Nat) (d:Nat) (w:World) (hl:gF 1000000000 l) (hb1:l.length≤1099511627776) (hd0:0<d) (hd1:d≤1000000000)
   (hc:∀ k,k<l.length→∃ b off,pl=some ⟨b,off,none⟩∧b<w.heap.size∧w.cell? ⟨b,off+k,none⟩=some (.int .u32 (l.getD k 0:Nat))) :
    Calls Tryz.prog 245 #[aj pl l.length cl,Z .u32 d] w fun e w'=>∃ v,e= ah (aF #[v,Z .u32 (val 1000000000 l%d:Nat)])∧Below w.heap.size w w'∧aT w' v (val 1000000000 l / d):=Vu
theorem qX (x:Value) (a d:Nat) (w:World) (hx:aT w x a) (ha:sz 1000000000 a≤1099511627776) (hd0:0<d) (hd1:d≤1000000000) :
  Calls Tryz.prog 245 #[x,Z .u32 d] w fun e w'=>∃ v,e= ah (aF #[v,Z .u32 (a%d:Nat)])∧Below w.heap.size w w'∧aT w' v (a / d):=by
 obtain ⟨pa,ca,rfl,h1,h2,h3⟩:=kP.read hx.xM;have:=nL pa ca _ d w (eH zo a) ha hd0 hd1 h3
 rwa [dh zo] at this
theorem jP (a:Nat) (w:World) (ha:a≤18446744073709551615) :
  Calls Tryz.prog 246 #[Z .u64 a] w fun e w'=>∃ v,e= ah v∧Below w.heap.size w w'∧aT w' v a:=Vt
def qE (w:World) (g k:Nat) (pre u post v:List Nat) (e:Ending) (w':World):Prop :=
 e= ah (Z .u32 (val 1000000000 u / val 1000000000 v:Nat))∧w.grownBy w' (some g) ∧
   ∃ s,aA w' g (dB (pre++(s++[0])++post)).toArray 22∧s.length=k+2∧gF 1000000000 s∧val 1000000000 s=val 1000000000 u%val 1000000000 v
theorem q9 (g j k cu:Nat) (pv:Option Addr) (cv:Nat) (pre u post v:List Nat) (w:World) (hj:pre.length=j) (hu:u.length=k+3) (hv:v.length=k+2) (du:gF 1000000000 u) (dv:gF 1000000000 v) (hk:k≤1099511627776)
  (ht:1000000000≤2*v.getD (k+1) 0) (hlt:val 1000000000 u<val 1000000000 v*1000000000) (Tk:aA w g (dB (pre++u++post)).toArray 22)
  (hd:∀ i,i<k+2→∃ b off,pv=some ⟨b,off,none⟩∧b≠g∧b<w.heap.size∧w.cell? ⟨b,off+i,none⟩=some (.int .u32 (v.getD i 0:Nat))) :
  Calls Tryz.prog 247 #[aj (some ⟨g,j,none⟩) (k+3) cu,aj pv (k+2) cv] w (qE w g k pre u post v):=Vs
def jl (w:World) (q r:Nat) (e:Ending) (w':World):Prop:=∃ vq vr,e= ah (aF #[vq,vr])∧Below w.heap.size w w'∧aT w' vq q∧aT w' vr r
theorem rH (x y:Value) (a b:Nat) (w:World) (hx:aT w x a) (hy:aT w y b) (h:a<b) :
  Calls Tryz.prog 171 #[x,y] w (jl w (a / b) (a%b)):=Vr
theorem qo (pa pb:Option Addr) (ca cb:Nat) (a b:Nat) (w:World) (hx:aT w (aj pa (sz 1000000000 a) ca) a) (hy:aT w (aj pb 1 cb) b) (hb0:0<b) (hb1:b<1000000000) (h:b≤a) (ha:sz 1000000000 a≤549755813888) :
  Calls Tryz.prog 171 #[aj pa (sz 1000000000 a) ca,aj pb 1 cb] w (jl w (a / b) (a%b)):=Vq
theorem rG (pa pb:Option Addr) (ca cb:Nat) (a b k:Nat) (w:World) (hx:aT w (aj pa (sz 1000000000 a) ca) a) (hy:aT w (aj pb (k+2) cb) b) (hsb:sz 1000000000 b=k+2) (h:b≤a) (ha:sz 1000000000 a≤549755813888) :
  Calls Tryz.prog 171 #[aj pa (sz 1000000000 a) ca,aj pb (k+2) cb] w (jl w (a / b) (a%b)):=Vp
theorem dG (x y:Value) (a b:Nat) (w:World) (hx:aT w x a) (hy:aT w y b) (hb:0<b) (ha:sz 1000000000 a≤549755813888) :
  Calls Tryz.prog 171 #[x,y] w (jl w (a / b) (a%b)):=Vo
end Go.Proofs.whole
namespace Go.Proofs.whole
open Go Go.RowKit Go.SW Go.Num Go.Mem Go.Proofs Go.Proofs.iA Go.Dec
theorem CO (B b d wd:Nat) (l:List UInt8) (w:World) (h:Ju B b (Lib.byteCells l) w) (hB:B≤w.heap.size) (hw:wd≤9) (hd:d<1000000000) (hl:l.length≤140737488355000) (ht:Pow w) :
  Calls Tryz.prog 281 #[Z .u32 d,Z I wd,au (some ⟨b,0,none⟩)] w fun e w'=>e= ah (aF #[])∧Ju B b (Lib.byteCells (l++(bP (wd - (Lib.decDigits d).length) 48++Lib.decDigits d))) w'∧Below B w w':=Vn
def rR (w:World) (n:Nat) (e:Ending) (w':World):Prop:=e= ah (O ⟨(Lib.decDigits n).toArray⟩)∧Below w.heap.size w w'
theorem lV (x:Value) (a:Nat) (w:World) (hx:aT w x a) (ha:sz 1000000000 a≤1099511627776) (ht:Pow w) :
  Calls Tryz.prog 234 #[x] w (rR w a):=Vm
theorem gW (x:Value) (a:Nat) (w:World) (hx:aT w x a) (ha:sz 1000000000 a≤1099511627776) (ht:Pow w) :
  Calls Tryz.prog 233 #[x] w (fun e w'=>e= ah (Z I ((Lib.decDigits a).length:Nat))∧Below w.heap.size w w'):=Vl
end Go.Proofs.whole
namespace Go.Proofs.whole
open Go Go.RowKit Go.SW Go.Num Go.Mem Go.Proofs
theorem aT.inj {w:World} {v:Value} {m n:Nat} (h:aT w v m) (k:aT w v n):m=n:=Vk
open Classical in
noncomputable def tJ (w:World) (v:Value):Nat:=if h:∃ n,aT w v n then h.choose else 0
theorem oZ {w:World} {v:Value} {n:Nat} (h:aT w v n):tJ w v=n:=by
 unfold tJ;rw [dif_pos ⟨n,h⟩];exact aT.inj (Exists.choose_spec (⟨n,h⟩:∃ n,aT w v n)) h
end Go.Proofs.whole
namespace Go.Proofs.whole
open Go Go.RowKit Go.SW Go.Num Go.Mem Go.Proofs Go.Dec
theorem dM (m:Value) (n:Nat) (b:Bool) (w:World) (h:aT w m n) :
  Calls Tryz.prog 165 #[m,aC b] w (fun e w'=>∃ v,e= ah v∧Below w.heap.size w w'∧bW w' v (iZ n b)):=Vj
end Go.Proofs.whole
namespace Go.Proofs.whole
open Go Go.RowKit Go.SW Go.Num Go.Mem Go.Proofs
theorem Fj (x:Value) (a k:Nat) (w:World) (hx:aT w x a) (hk:k≤9223372036854775807) (hb:∀ i,i≤k→sz 1000000000 (a^i)≤1099511627776) (ha:sz 1000000000 a≤1099511627776) :
  Calls Tryz.prog 166 #[x,Z I (k:Int)] w (fun e w'=>∃ v,e= ah v∧Below w.heap.size w w'∧aT w' v (a^k)):=by
 have Kv:∀ (fn:Fn) (first cap:Array Value) (w:World),(Instr.makeFunc fn first cap).run Tryz.prog w= .ok (.func fn first cap) w:=fun _ _ _ _=>rfl;obtain ⟨pa,l,ca,rfl⟩:=hx.slice;have HX:=zh hx;have HBD:=zh hb;have HA:=zh ha;clear hx hb ha;go_enter Tryz.func166,Tryz.ntmps166
 go_wp2_with fail
 have hb1:Below w.heap.size w (w.alloc (.cells #[Z .u32 1] 22)):=aO;have h1:Hid (aT (w.alloc (.cells #[Z .u32 1] 22)) (aj (some ⟨w.heap.size,0,none⟩) 1 1) 1):=zh (by have:=aT.lit (w:=w) (d:=1) zo zo;simpa using this);obtain ⟨w1,EW⟩:∃ y,w.alloc (.cells #[Z .u32 1] 22)=y:=⟨_,rfl⟩;rw [EW] at hb1 h1 ⊢;have HB1:=zh hb1;clear EW hb1
 go_loopw [5,11] (fun pv iv wr=>∃ i:Nat,iv= Z I (i:Int)∧i≤k∧Hid (aT wr pv (a^i))∧Below w1.heap.size w1 wr) (fun _ iv _=>k - (intOf iv).toNat)
 case atStart=>exact ⟨0,rfl,by omega,zh (by rw [Nat.pow_zero];exact h1.out),Below.refl _ _⟩
 case round =>
  obtain ⟨i,rfl,hi,HP,hb⟩:=hrel;obtain ⟨pp,lp,cp,rfl⟩:=HP.out.slice
  rcases aH i k with hlt|hge
  ·have HT:=zh (iE _ _ a (a^i) wr (HX.out.later (Bt HB1.out hb)) HP.out HA.out (HBD.out i hi));go_wp2_with fail
   refine HT.out.mono ?_;rintro e w2 ⟨v,rfl,hb2,hv⟩;obtain ⟨pq,lq,cq,rfl⟩:=hv.slice;have mg:Hid (aT w2 (aj pq lq cq) (a^(i+1))):=zh (by rw [bF,aL];exact hv);have hz:=Bt hb hb2;clear hv hb2 HT HP;go_wp2_with fail
   go_roundw
   case rel=>exact ⟨i+1,by go_num,by omega,mg,hz⟩
   case measure=>exact zM
  ·obtain rfl:i=k:=by omega
   go_wp2_with fail
   go_ret
   exact ⟨_,rfl,Bt HB1.out hb,HP.out⟩
theorem NV (k d:Nat):(bP (k+1) 0).set k d=bP k 0++[d]:=by
 rw [List.replicate_succ'];rw [iI _ _ zi];simp
theorem RF {w:World} {v:Value} {k d:Nat} (h:kP w v ((bP (k+1) 0).set k d)) (h0:0<d) (h1:d<1000000000):aT w v (1000000000^k*d):=by
 rw [NV] at h
 have:=aT.II h (fun x hx=>by
  rcases List.mem_append.1 hx with hx|hx
  ·rw [List.eq_of_mem_replicate hx];omega
  ·simp at hx;omega) (fun j hj=>by
  have e:j=k:=by simpa using hj.symm
  subst e;rw [bJ,fO zi];simp
  omega)
 rwa [jX,vI,List.length_replicate,dS] at this
theorem pW (n:Nat) (hn:n≤100000) (w:World) :
  Calls Tryz.prog 287 #[Z I (n:Int)] w (fun e w'=>∃ v,e= ah v∧Below w.heap.size w w'∧aT w' v (10^n)):=by
 obtain ⟨i0,hi,hz0,hz1,hz2⟩:=info_parts uR;have W0:∀ z:Int,0≤z∧z≤1000000000→I.wrap z=z:=fun z h=>by unfold IntKind.wrap;simp [IntKind.bits,IntKind.signed];omega
 obtain ⟨k,hk⟩:∃ k,n / 9=k:=⟨_,rfl⟩;obtain ⟨r,hr⟩:∃ r,n%9=r:=⟨_,rfl⟩
 have e10:10^n=1000000000^k*10^r:=by
  rw [show (1000000000:Nat)=10^9 by decide,← Nat.pow_mul,← eG]
  congr 1
  omega
 rw [e10];have t1:(n:Int).tdiv 9=(k:Int):=by rw [Int.tdiv_eq_ediv_of_nonneg zo];omega
 have t2:(n:Int).tmod 9=(r:Int):=by rw [Int.tmod_eq_emod_of_nonneg zo];omega
 have u1:=W0 (k:Int) zo;have u2:=W0 ((k:Int)+1) zo;have u3:=W0 (r:Int) zo;have hr8:r≤8:=by omega
 have hk9:k≤100000:=by omega
 have HT:Hid (∀ i,i≤r→0<10^i∧10^i≤100000000):=zh fun i hi=>⟨Nat.pow_pos zo,ay (bX zo (show i≤8 by omega)) zd⟩;clear e10 hk hr W0;go_enter Tryz.func287,Tryz.ntmps287
 go_wp2_with (at_make;refine wpList_make_full _ rfl _ _ 232 rfl w.heap.size 22 i0 (Z .u32 0) 1 Tryz.underlying232 hi hz0 hz1 _ _ _ _ (k+1) rfl rfl zo zo (by rw [hz2];omega) (by unfold maxLen;omega) (aG _) ?_)
 intro w0 hown0 oG;rw [o7] at hown0;have hb0:Below w.heap.size w w0:=(Below.refl _ _).grown oG (aG _) (fun k h=>by cases h);have HO:=zh hown0;have HB:=zh hb0;clear hown0 oG hb0;go_wp2_with fail
 go_loopw [4,11] (fun tv iv wr=>∃ i:Nat,iv= Z I (i:Int)∧i≤r∧tv= Z .u32 ((10^i:Nat):Int)∧wr=w0) (fun _ iv _=>r - (intOf iv).toNat)
 case atStart=>exact ⟨0,rfl,by omega,rfl,rfl⟩
 case round =>
  obtain ⟨i,rfl,hi,rfl,rfl⟩:=hrel;obtain ⟨h1,h2⟩:=HT.out i hi
  rcases aH i r with hlt|hge
  ·have h3:=(HT.out (i+1) zo).2;obtain ⟨b,hB⟩:∃ b,Hid (10^(i+1)=b):=⟨_,zh rfl⟩;rw [hB.out] at h3;have e:((10^i:Nat):Int)*10=(b:Int):=by rw [← hB.out,bF];omega
   have he:IntKind.u32.wrap (((10^i:Nat):Int)*10)=(b:Int):=by rw [e];unfold IntKind.wrap;simp [IntKind.bits,IntKind.signed];omega
   clear e h3 h1 h2;generalize 10^i=a at *;go_wp2_with fail
   go_roundw
   case rel=>exact ⟨i+1,by go_num,by omega,by rw [hB.out],trivial⟩
   case measure=>exact zM
  ·obtain rfl:i=r:=by omega
   obtain ⟨d,hD⟩:∃ d,Hid (10^i=d):=⟨_,zh rfl⟩;rw [hD.out] at h1 h2 ⊢;have q1:wr.cell? ⟨w.heap.size,k,none⟩=some (.int .u32 0):=by rw [HO.out.cellAt k zo,mE zi];simp
   have q2:wr.frozen? ⟨w.heap.size,k,none⟩=false:=HO.out.frozenAt k
   have HS:Hid (aT (wr.setCell ⟨w.heap.size,k,none⟩ (Z .u32 (d:Int))) (aj (some ⟨w.heap.size,0,none⟩) (k+1) (k+1)) (1000000000^k*d)):=zh (by
    have h3:=(HO.out.stored k (Z .u32 (d:Int))).1;rw [jY] at h3;exact RF (kP.jN h3) h1 zo)
   have hb:Below w.heap.size w (wr.setCell ⟨w.heap.size,k,none⟩ (Z .u32 (d:Int))):=HB.out.setCell (aG _) _;go_wp2_with fail
   go_ret
   exact ⟨_,rfl,hb,by rw [hD.out];exact HS.out⟩
end Go.Proofs.whole
