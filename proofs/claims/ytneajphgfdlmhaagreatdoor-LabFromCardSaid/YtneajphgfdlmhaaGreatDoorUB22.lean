/- Lemmas for the proof. No condition. -/
import Derived.Test.YtneajphgfdlmhaaGreatDoorUB21
set_option linter.unusedVariables false
set_option linter.unusedSimpArgs false
set_option maxRecDepth 100000
set_option maxHeartbeats 16000000
open Bool renaming and_eq_true → aG
open Go.Ending renaming returned → ah
open Go.IntKind renaming i64 → I
open Go.Value renaming agg → au, int → Z, pointer → aA, slice → aj, string → O, tuple → aD
open List renaming set_cons_succ → aN, set_cons_zero → aM
open Nat renaming le_refl → aC, le_trans → ay, lt_or_ge → aR
namespace Go.Proofs.fC
open Go Go.RowKit Go.SW Go.Num Go.Mem Go.Proofs Go.Dec Go.gB
theorem aa3 (n d:Int) (hl1:(Lib.decDigits n.natAbs).length≤600) (hl2:(Lib.decDigits d.natAbs).length≤600) (w:World) (ht:jN.Pow w) :
  Calls Tryz.prog 192 #[O ⟨(Lib.itoa n).toArray⟩,O ⟨(Lib.itoa d).toArray⟩] w (fun e w'=>e= ah (Fr.res (nk n d))∧Below w.heap.size w w'):=by
 have HC:=zh (mq (s:=⟨(Lib.itoa n).toArray⟩) (gL hl1));have HD:=zh (mq (s:=⟨(Lib.itoa d).toArray⟩) (gL hl2));have HL1:=zh hl1;have HL2:=zh hl2;have S1:=kY (fZ.2 hl1);have S2:=kY (fZ.2 hl2);have HT:=zh ht;clear ht hl1 hl2
 by_cases h0:d=0
 ·have e:Fr.res (nk n d)= aD #[au #[O ⟨#[]⟩,O ⟨#[]⟩],Z I 7]:=by unfold nk;rw [if_pos h0];rfl
  rw [e];have hz:decide (d.natAbs=0)=true:=by simp;omega
  have HZ:=zh hz;clear e h0 hz S1 S2;go_enter Tryz.func192,Tryz.ntmps192
  go_wp2_with fail
  refine (HC.out _).mono ?_;rintro e v1 ⟨rfl,hc1⟩;have BR:=aB.later (aB.new _ _ _) hc1;have dV:=BR.cell;have dU:=BR.free;have kg:=BR.lt;go_wp2_with fail
  refine (HD.out _).mono ?_;rintro e v2 ⟨rfl,hc2⟩;replace BR:=aB.later (BR) hc2;replace dV:=BR.cell;replace dU:=BR.free;replace kg:=BR.lt;go_wp2_with fail
  refine (kJ n HL1.out _).mono ?_;rintro e v3 ⟨v,rfl,hc3,hv⟩;obtain ⟨YC,lHN,ZG,rfl,HN⟩:=hv;replace HN:=zh HN;replace BR:=aB.later (BR) hc3;replace dV:=BR.cell;replace dU:=BR.free;replace kg:=BR.lt;go_wp2_with fail
  refine (kJ d HL2.out _).mono ?_;rintro e v4 ⟨v,rfl,hc4,hv⟩;obtain ⟨YD,lHM,ZH,rfl,HM⟩:=hv;replace HM:=zh HM;replace BR:=aB.later (BR) hc4;replace dV:=BR.cell;replace dU:=BR.free;replace kg:=BR.lt;go_wp2_with fail
  refine (iU _ d.natAbs _ aY).mono ?_;rintro e v5 ⟨rfl,rfl⟩;rw [HZ.out];go_wp2_with fail
  refine bK rfl rfl bI Tryz.underlying32 rfl zk ?_;exact ⟨rfl,aJ⟩
 ·have e:nk n d=wr (mkRat (jh n.natAbs (!(decide (n<0) == decide (d<0)))) d.natAbs):=by unfold nk;rw [if_neg h0,YW n d h0]
  rw [e];have hz:decide (d.natAbs=0)=false:=by simp;omega
  have HZ:=zh hz;have hdp:0<d.natAbs:=by omega
  have HDP:=zh hdp;obtain ⟨f,Ef⟩:∃ y:Bool,Hid (Bool.not (decide (n<0) == decide (d<0))=y):=⟨_,zh rfl⟩;obtain ⟨s,Es⟩:∃ y:Int,Hid (jh n.natAbs f=y):=⟨_,zh rfl⟩;rw [Ef.out,Es.out];have hs:sz 1000000000 s.natAbs≤67:=by rw [← Es.out,kX];exact S1
  have KS:=zh (ay hs (show 67≤549755813888 by omega));have KD:=zh (ay S2 (show 67≤549755813888 by omega))
  have KQ:Hid (jy 1000000 (mkRat s d.natAbs)):=by
   have hp:=yD s hdp;refine zh ⟨?_,?_⟩
   ·rw [hp.1,kX];exact ay kW zo
   ·rw [hp.2];exact ay kW zo
  obtain ⟨q,Eq⟩:∃ y:Rat,Hid (mkRat s d.natAbs=y):=⟨_,zh rfl⟩;rw [Eq.out] at KQ ⊢;obtain ⟨x,Ex⟩:∃ y:FrI,Hid (wr q=y):=⟨_,zh rfl⟩;rw [Ex.out];clear e;obtain ⟨⟨s1,t1⟩,e⟩:=x;rw [q8];clear h0 hz hdp hs S1 S2;go_enter Tryz.func192,Tryz.ntmps192
  go_wp2_with fail
  refine (HC.out _).mono ?_;rintro e v1 ⟨rfl,hc1⟩;have BR:=aB.later (aB.new _ _ _) hc1;have dV:=BR.cell;have dU:=BR.free;have kg:=BR.lt;go_wp2_with fail
  refine (HD.out _).mono ?_;rintro e v2 ⟨rfl,hc2⟩;replace BR:=aB.later (BR) hc2;replace dV:=BR.cell;replace dU:=BR.free;replace kg:=BR.lt;go_wp2_with fail
  refine (kJ n HL1.out _).mono ?_;rintro e v3 ⟨v,rfl,hc3,hv⟩;obtain ⟨YC,lHN,ZG,rfl,HN⟩:=hv;replace HN:=zh HN;replace BR:=aB.later (BR) hc3;replace dV:=BR.cell;replace dU:=BR.free;replace kg:=BR.lt;go_wp2_with fail
  refine (kJ d HL2.out _).mono ?_;rintro e v4 ⟨v,rfl,hc4,hv⟩;obtain ⟨YD,lHM,ZH,rfl,HM⟩:=hv;replace HM:=zh HM;replace HN:=zh (bZ.later HN.out hc4);replace BR:=aB.later (BR) hc4;replace dV:=BR.cell;replace dU:=BR.free;replace kg:=BR.lt;go_wp2_with fail
  refine (iU _ d.natAbs _ aY).mono ?_;rintro e v5 ⟨rfl,rfl⟩;rw [HZ.out];go_wp2_with fail
  refine aO [(.pure,0),(.read,1),(.pure,2),(.read,3),(.pure,4),(.read,5),(.pure,6),(.pure,8),(.read,9),(.ext,7),(.ext,10),(.ext,11),(.pure,12),(.pure,13),(.fin,14),(.fin,15)] zk zk zR zP ?_;refine zV ?_;refine aU rfl rfl (fun w6 hb6 J hJ=>?_);go_simp;replace HM:=zh (bZ.carry HM.out aY hb6);replace BR:aB _ (w.heap.size) _ _:=aB.later bI hb6;(try simp only [List.setIfInBounds_toArray,aM,aN] at BR);replace dV:=BR.cell;replace dU:=BR.free;replace kg:=BR.lt;refine ((gD _ n.natAbs _ _ aY).mono (by rw [show (Bool.not (decide (n<0) == decide (d<0)))=f from Ef.out,Es.out];exact fun _ _ h=>h)).mono ?_;rintro e v6 ⟨v,rfl,hc6,hv⟩;obtain ⟨Fy,XW,FP,rfl,Hs⟩:=hv;replace Hs:=zh Hs;replace HM:=zh (bZ.later HM.out hc6);replace BR:=aB.later (BR) hc6;replace dV:=BR.cell;replace dU:=BR.free;replace kg:=BR.lt;refine hJ _ _ hc6 ?_
  clear hJ J;refine aU rfl rfl (fun w7 kR J hJ=>?_);go_simp;replace HM:=zh (bZ.later HM.out kR);replace Hs:=zh (bZ.later Hs.out kR);replace BR:=aB.later (BR) kR;replace dV:=BR.cell;replace dU:=BR.free;replace kg:=BR.lt;refine ((MB _ _ s d.natAbs _ (fK.gV aY) aY HDP.out KS.out KD.out).mono (by rw [Eq.out];exact fun _ _ h=>h)).mono ?_;rintro e v7 ⟨v,rfl,IC,hv⟩;obtain ⟨Bh,Uu,Bq,Fw,XV,FN,rfl,Hq,uG⟩:=hv;replace Hq:=zh Hq;replace uG:=zh uG;replace HM:=zh (bZ.later HM.out IC);replace Hs:=zh (bZ.later Hs.out IC);replace BR:=aB.later (BR) IC;replace dV:=BR.cell;replace dU:=BR.free;replace kg:=BR.lt;refine hJ _ _ IC ?_;clear hJ J;refine aU rfl rfl (fun w8 Ji J hJ=>?_);go_simp;replace BR:=aB.later (BR) Ji;replace dV:=BR.cell;replace dU:=BR.free;replace kg:=BR.lt
  refine ((mI _ q _ (gX.of aY aY) KQ.out (HT.out.later aJ)).mono (by rw [Ex.out,q8];exact fun _ _ h=>h)).mono ?_;rintro e v8 ⟨rfl,hc8⟩;replace BR:=aB.later (BR) hc8;replace dV:=BR.cell;replace dU:=BR.free;replace kg:=BR.lt;refine hJ _ _ hc8 ?_;clear hJ J;refine zV ?_;refine dD [_,_] rfl (fun w9 uD=>?_);replace BR:=aB.later (BR) uD;replace dV:=BR.cell;replace dU:=BR.free;replace kg:=BR.lt;go_wp2_with fail
  refine bK rfl rfl bI Tryz.underlying32 rfl zk ?_;exact ⟨rfl,aJ⟩
theorem PX (z:Int) (h0: -9223372036854775808≤z) (h1:z≤9223372036854775807):(Lib.decDigits z.natAbs).length≤600 :=
 ay (mX 19 z.natAbs zo zo) zo
theorem mE (n d:Int) (n0: -9223372036854775808≤n) (n1:n≤9223372036854775807) (d0: -9223372036854775808≤d) (d1:d≤9223372036854775807) (w:World) (ht:jN.Pow w) :
  Calls Tryz.prog 115 #[Z I n,Z I d] w (fun e w'=>e= ah (Fr.res (nk n d))∧Below w.heap.size w w'):=by
 have H1:=zh (fun w ht=>whole.Az n n0 n1 w ht);have H2:=zh (fun w ht=>whole.Az d d0 d1 w ht);have H3:=zh (fun w ht=>aa3 n d (PX n n0 n1) (PX d d0 d1) w ht);have HT:=zh ht;clear ht n0 n1 d0 d1;obtain ⟨x,Ex⟩:∃ y:FrI,Hid (nk n d=y):=⟨_,zh rfl⟩;rw [Ex.out];obtain ⟨⟨s1,t1⟩,e⟩:=x;rw [q8];go_enter Tryz.func115,Tryz.ntmps115
 go_wp2_with fail
 refine ((H1.out _ (HT.out.later aJ)).mono (fun _ _ h=>by unfold dW at h;exact h)).mono ?_;rintro e v1 ⟨rfl,hc1⟩;have BR:=aB.later (aB.new _ _ _) hc1;have dV:=BR.cell;have dU:=BR.free;have kg:=BR.lt;go_wp2_with fail
 refine ((H2.out _ (HT.out.later aJ)).mono (fun _ _ h=>by unfold dW at h;exact h)).mono ?_;rintro e v2 ⟨rfl,hc2⟩;replace BR:=aB.later (BR) hc2;replace dV:=BR.cell;replace dU:=BR.free;replace kg:=BR.lt;go_wp2_with fail
 refine ((H3.out _ (HT.out.later aJ)).mono (by rw [Ex.out,q8];exact fun _ _ h=>h)).mono ?_;rintro e v3 ⟨rfl,hc3⟩;replace BR:=aB.later (BR) hc3;replace dV:=BR.cell;replace dU:=BR.free;replace kg:=BR.lt;go_wp2_with fail
 refine bK rfl rfl bI Tryz.underlying32 rfl zk ?_;exact ⟨rfl,aJ⟩
end Go.Proofs.fC
namespace Go.Proofs.aW
open Go Go.RowKit Go.SW Go.Num Go.Mem Go.Proofs Go.Dec Go.gB
theorem YU (z:Int) {E:Nat} (hE:0<E) (hz:z.natAbs<9223372036854775809) (hE2:E<9223372036854775809) :
  ∃ s t,Fr.res (nk z (E:Int))= aD #[au #[O s,O t],Z I 0]∧rd ⟨s,t⟩=some ((z:Rat) / ((E:Nat):Rat)):=by
 have hk:uQ ((z:Rat) / ((E:Nat):Rat))=true:=by
  rw [← Rat.mkRat_eq_div];have hp:=yD z hE;have ht:9223372036854775809≤jR 600:=by unfold jR;decide+kernel
  unfold uQ kS;rw [aG];refine ⟨decide_eq_true ?_,decide_eq_true ?_⟩
  ·rw [hp.1,kX];have:=Nat.div_le_self z.natAbs (z.natAbs.gcd E);omega
  ·rw [hp.2];have:=Nat.div_le_self E (z.natAbs.gcd E);omega
 refine ⟨(Fr.of ((z:Rat) / ((E:Nat):Rat))).n,(Fr.of ((z:Rat) / ((E:Nat):Rat))).d,?_,o9 hk⟩;unfold nk wr;rw [if_neg zo,Rat.intCast_natCast,if_pos hk];rfl
theorem aH6 (o:Int):∃ m:Int,(m=if o<0 then o else 0)∧(∀ (ts:Array TypeId) (t:TypeId) (W:World),(Builtin.min_ ts t #[Z I o,Z I 0]).run Tryz.prog W= .ok (Z I m) W):=by
 by_cases h:o<0
 ·refine ⟨o,by rw [if_pos h],fun ts t W=>?_⟩;have h1:¬ (0:Int)<o:=by omega
  rw [run_min_int2];simp [h1]
 ·refine ⟨0,by rw [if_neg h],fun ts t W=>?_⟩;rw [run_min_int2]
  by_cases h1:(0:Int)<o
  ·simp [h1]
  ·obtain rfl:o=0:=by omega
   simp
theorem aH7 (o:Int):∃ m:Int,(m=if 0<o then o else 0)∧(∀ (ts:Array TypeId) (t:TypeId) (W:World),(Builtin.max_ ts t #[Z I o,Z I 0]).run Tryz.prog W= .ok (Z I m) W):=by
 by_cases h:0<o
 ·refine ⟨o,by rw [if_pos h],fun ts t W=>?_⟩;have h1:¬ o<(0:Int):=by omega
  rw [run_max_int2];simp [h1]
 ·refine ⟨0,by rw [if_neg h],fun ts t W=>?_⟩;rw [run_max_int2]
  by_cases h1:o<(0:Int)
  ·simp [h1]
  ·obtain rfl:o=0:=by omega
   simp
theorem EH (s t:ByteArray) (k:Int) (hk:¬ k=0) (w:World) (HN:Hid (∀ W,Below w.heap.size w W→Calls Tryz.prog 114 #[au #[O s,O t],Z I 1000000000000] W (fun e w'=>e= ah (aD #[Z I 0,Z I k])∧Below W.heap.size W w'))) :
  Calls Tryz.prog 36 #[au #[O s,O t]] w (fun e w'=>e= ah (dZ ((0,0),k))∧Below w.heap.size w w'):=by
 unfold dZ;have hk0:decide (k=0)=false:=decide_eq_false hk;go_enter Tryz.func36,Tryz.ntmps36
 go_wp2_with fail
 refine (HN.out _ aJ).mono ?_;rintro e v1 ⟨rfl,hc1⟩;have BR:=aB.later (aB.qM _ _ _ _) hc1;have dV:=BR.cell;have dU:=BR.free;have kg:=BR.lt;go_wp2_with fail
 refine bK rfl rfl bI Tryz.underlying40 rfl zk ?_;exact ⟨rfl,aJ⟩
theorem Lc (s t s1 t1:ByteArray) (z o:Int) (w:World) (ho: -1≤o∧o≤1) (HN:Hid (∀ W,Below w.heap.size w W→Calls Tryz.prog 114 #[au #[O s,O t],Z I 1000000000000] W (fun e w'=>e= ah (aD #[Z I z,Z I 0])∧Below W.heap.size W w')))
  (HO:Hid (∀ W,Below w.heap.size w W→Calls Tryz.prog 115 #[Z I z,Z I 1000000000000] W (fun e w'=>e= ah (aD #[au #[O s1,O t1],Z I 0])∧Below W.heap.size W w')))
  (HC:Hid (∀ W,Calls Tryz.prog 19 #[au #[O s,O t],au #[O s1,O t1]] W (fun e w'=>e= ah (aD #[Z I o,Z I 0])∧Below W.heap.size W w'))) :
  Calls Tryz.prog 36 #[au #[O s,O t]] w (fun e w'=>e= ah (dZ (if gM z z then gN (z+(if o<0 then -1 else 0)) (z+(if 0<o then 1 else 0)) else ((0,0),6)))∧Below w.heap.size w w'):=by
 have HV:=zh (fun W=>nN z z W);cases hb:gM z z with
 | false =>
  rw [if_neg zi];unfold dZ;rw [hb] at HV;clear hb ho;go_enter Tryz.func36,Tryz.ntmps36
  go_wp2_with fail
  refine (HN.out _ aJ).mono ?_;rintro e v1 ⟨rfl,hc1⟩;have BR:=aB.later (aB.qM _ _ _ _) hc1;have dV:=BR.cell;have dU:=BR.free;have kg:=BR.lt;have B0:=aB.later (aB.alloc (aB.new _ _ _) _) hc1;have cB0:=B0.cell;have lK:=B0.free;have lB0:=B0.lt;go_wp2_with fail
  refine (HO.out _ aJ).mono ?_;rintro e v2 ⟨rfl,hc2⟩;replace BR:=aB.later (BR) hc2;replace dV:=BR.cell;replace dU:=BR.free;replace kg:=BR.lt;replace B0:=aB.later (B0) hc2;replace cB0:=B0.cell;replace lK:=B0.free;replace lB0:=B0.lt;go_wp2_with fail
  refine (HC.out _).mono ?_;rintro e v3 ⟨rfl,hc3⟩;replace BR:aB _ (w.heap.size+1) _ _:=aB.later bI hc3;(try simp only [List.setIfInBounds_toArray,aM,aN] at BR);replace dV:=BR.cell;replace dU:=BR.free;replace kg:=BR.lt;go_wp2_with fail
  refine (HV.out _).mono ?_;rintro e v4 ⟨rfl,hc4⟩;replace BR:=aB.later (BR) hc4;replace dV:=BR.cell;replace dU:=BR.free;replace kg:=BR.lt;go_wp2_with fail
  refine bK rfl rfl bI Tryz.underlying40 rfl zk ?_;exact ⟨rfl,aJ⟩
 | true =>
  rw [if_pos rfl];rw [hb] at HV;obtain ⟨l,hl,hmin⟩:=aH6 o;obtain ⟨m,hm,hmax⟩:=aH7 o;have el:(if o<0 then (-1:Int) else 0)=l:=by rw [hl];by_cases h:o<0<;>simp only [if_pos,if_neg,h,if_true,if_false]<;>omega
  have em:(if 0<o then (1:Int) else 0)=m:=by rw [hm];by_cases h:0<o<;>simp only [if_pos,if_neg,h,if_true,if_false]<;>omega
  rw [el,em]
  have hr: -1000000000000000000≤z∧z≤1000000000000000000:=by
   unfold gM at hb;simp only [aG,decide_eq_true_eq] at hb;omega
  have hl2: -1≤l∧l≤0:=by rw [← el];by_cases h:o<0<;>simp [h]
  have hm2:0≤m∧m≤1:=by rw [← em];by_cases h:0<o<;>simp [h]
  have w1:I.wrap (z+l)=z+l:=by simp [IntKind.wrap,IntKind.bits,IntKind.signed];omega
  have w2:I.wrap (z+m)=z+m:=by simp [IntKind.wrap,IntKind.bits,IntKind.signed];omega
  have HM:=zh (fun W=>mo (z+l) (z+m) W);clear hb ho hl hm el em hr hl2 hm2;generalize gN (z+l) (z+m)=x at *;obtain ⟨⟨x1,x2⟩,x3⟩:=x;unfold dZ at *;simp only at *;go_enter Tryz.func36,Tryz.ntmps36
  go_wp2_with fail
  refine (HN.out _ aJ).mono ?_;rintro e v1 ⟨rfl,hc1⟩;have BR:=aB.later (aB.qM _ _ _ _) hc1;have dV:=BR.cell;have dU:=BR.free;have kg:=BR.lt;have B0:=aB.later (aB.alloc (aB.new _ _ _) _) hc1;have cB0:=B0.cell;have lK:=B0.free;have lB0:=B0.lt;go_wp2_with fail
  refine (HO.out _ aJ).mono ?_;rintro e v2 ⟨rfl,hc2⟩;replace BR:=aB.later (BR) hc2;replace dV:=BR.cell;replace dU:=BR.free;replace kg:=BR.lt;replace B0:=aB.later (B0) hc2;replace cB0:=B0.cell;replace lK:=B0.free;replace lB0:=B0.lt;go_wp2_with fail
  refine (HC.out _).mono ?_;rintro e v3 ⟨rfl,hc3⟩;replace BR:aB _ (w.heap.size+1) _ _:=aB.later bI hc3;(try simp only [List.setIfInBounds_toArray,aM,aN] at BR);replace dV:=BR.cell;replace dU:=BR.free;replace kg:=BR.lt;go_wp2_with fail
  refine (HV.out _).mono ?_;rintro e v4 ⟨rfl,hc4⟩;replace BR:=aB.later (BR) hc4;replace dV:=BR.cell;replace dU:=BR.free;replace kg:=BR.lt;go_wp2_with fail
  refine (HM.out _).mono ?_;rintro e v5 ⟨rfl,pQ⟩;replace BR:=aB.later (BR) pQ;replace dV:=BR.cell;replace dU:=BR.free;replace kg:=BR.lt;go_wp2_with fail
  refine bK rfl rfl bI Tryz.underlying40 rfl zk ?_;exact ⟨rfl,aJ⟩
def eF (a:Fr):(Int × Int) × Int:=match rd a with
 | some q=>gN (qK (q.num*1000000000000) q.den false) (qK (q.num*1000000000000) q.den true)
 | none=>((0,0),20)
theorem Ap (a:Fr) (w:World) (ht:jN.Pow w) (he:whole.Er w) :
  Calls Tryz.prog 36 #[a.v] w (fun e w'=>e= ah (dZ (eF a))∧Below w.heap.size w w'):=by
 obtain ⟨s,t⟩:=a
 show Calls _ _ #[au #[O s,O t]] _ _
 unfold eF;cases h:rd ⟨s,t⟩ with
 | none=>exact EH s t 20 zo w (zh fun W _=>fC.Ub s t 1000000000000 h W)
 | some q =>
  have hd:0<q.den:=q.den_pos;simp only;rw [← ap2 _ hd];have hn:∀ W,Below w.heap.size w W→ _:=fun W hW=>fC.Ua s t 1000000000000 q h zo zo W (ht.later hW) (he.later hW);have e1:((1000000000000:Nat):Int)=1000000000000:=rfl;rw [e1] at hn;unfold arE;unfold fC.Iu at hn;generalize hz:jO (q.num*1000000000000) q.den=z at *
  by_cases c: -9223372036854775808≤z∧z<9223372036854775808
  ·rw [if_pos c];rw [decide_eq_true c,if_pos rfl] at hn;obtain ⟨s1,t1,hof,hrd⟩:=YU z (E:=1000000000000) zo zo zo;rw [e1] at hof;have hc:=fun W=>fC.E9 ⟨s,t⟩ ⟨s1,t1⟩ W;have hce:rE ⟨s,t⟩ ⟨s1,t1⟩=(qL q ((z:Rat) / ((1000000000000:Nat):Rat)),0):=by unfold rE;rw [h,hrd]
   rw [hce,SE q z zo,e1] at hc;have ax8:∀ W,Below w.heap.size w W→ _:=fun W hW=>fC.mE z 1000000000000 zo zo zo zo W (ht.later hW);rw [hof] at ax8;refine (Lc s t s1 t1 z _ w ?_ (zh hn) (zh ax8) (zh hc)).mono ?_
   ·split
    ·omega
    ·split<;>omega
   ·rintro e w1 ⟨rfl,hb⟩;refine ⟨?_,hb⟩
    congr 2
    by_cases h1:q.num*1000000000000<z*(q.den:Int)
    ·have h2:¬ z*(q.den:Int)<q.num*1000000000000:=by omega
     simp [h1,h2]
    ·by_cases h2:z*(q.den:Int)<q.num*1000000000000
     ·simp [h1,h2]
     ·simp [h1,h2]
  ·rw [if_neg c];rw [decide_eq_false c,if_neg zi] at hn;exact EH s t 6 zo w (zh hn)
theorem DN (n:Int) (s t:ByteArray) (w:World) (h1: -9223372036854775808≤n) (h2:n≤9223372036854775807) (ht:jN.Pow w) (he:nk n 1000000000000=(⟨s,t⟩,0)) :
  Calls Tryz.prog 196 #[Z I n] w (fun e w'=>e= ah (aD #[au #[O s,O t],Z I 0])∧Below w.heap.size w w'):=by
 have H:=zh (fun W (h:jN.Pow W)=>fC.mE n 1000000000000 h1 h2 zo zo W h);rw [he] at H;unfold Fr.res Fr.v at H;have HP:=zh ht;clear he ht h1 h2;go_enter Tryz.func196,Tryz.ntmps196
 go_wp2_with fail
 obtain ⟨wx,EW,hz,HR⟩:=zD w #[O ⟨#[]⟩,O ⟨#[]⟩] 32;rw [EW];clear EW;refine (H.out _ (HP.out.later hz)).mono ?_;rintro e w1 ⟨rfl,hb⟩;have hr:=HR.out.later hb;have cr:=hr.cell;have fr:=hr.free;have hw:=Bt hz hb;go_wp2_with fail
 refine bK rfl rfl ((hr.set 0 _).set 1 _) Tryz.underlying32 rfl zk ?_;exact ⟨rfl,(hw.setCell (p:=⟨w.heap.size,0,none⟩) (aC _) _).setCell (p:=⟨w.heap.size,1,none⟩) (aC _) _⟩
theorem KW (F:FuncId) (free:Array Value) (lo hi:Int) (s t:ByteArray) (q:Nat) (w:World) (hv:gM lo hi=true) (hq:aB w q #[Z I lo,Z I hi] 40)
  (h1:∀ W,Below w.heap.size w W→Calls Tryz.prog F free W (fun e w'=>e= ah (aD #[au #[O s,O t],Z I 0])∧Below W.heap.size W w'))
  (hen:∀ args W,(callFunc F args).run Tryz.prog W= .ok (.enter F args) W) :
  Calls Tryz.prog 283 #[.func (.func F) #[] free,aj (some ⟨q,0,none⟩) 1 1] w (fun e w'=>e= ah (aD #[au #[O s,O t],Z I 0])∧Below w.heap.size w w'):=by
 have HV:=zh (fun W=>hv ▸ nN lo hi W);have H1:=zh h1;clear h1 hv;go_enter Tryz.func283,Tryz.ntmps283
 go_wp2_with fail
 obtain ⟨wx,EW,hz,R⟩:=zD w #[O ⟨#[]⟩,O ⟨#[]⟩] 32;rw [EW];clear EW;have HB:=zh hz;have HQ:=zh (hq.later hz);clear hz hq;go_wp2_with fail
 go_loopw [11] (fun iv wr=>∃ k:Nat,iv= Z I (k:Int)∧k≤1∧Below wx.heap.size wx wr) (fun iv _=>1 - (intOf iv).toNat)
 case atStart=>exact ⟨0,rfl,by omega,Below.refl _ _⟩
 case round =>
  obtain ⟨k,rfl,hk,hb⟩:=hrel
  rcases aR k 1 with hlt|hge
  ·obtain rfl:k=0:=by omega
   have hq:=HQ.out.later hb;have cq:=hq.cell;have lq:=hq.lt;go_wp2_with fail
   obtain ⟨wy,EW,hz,Y⟩:=zD wr #[Z I lo,Z I hi] 40;rw [EW];clear EW;refine (HV.out _).mono ?_;rintro e w1 ⟨rfl,hb1⟩;have hw:=Bt hb (Bt hz hb1);clear hz hb1 Y cq lq hq;go_wp2_with fail
   go_roundw
   case rel=>exact ⟨1,by go_num,by omega,hw⟩
   case measure=>simp [intOf]<;>omega
  ·obtain rfl:k=1:=by omega
   have hB:=Bt HB.out hb;have hr0:=R.out.later hb;go_wp2_with fail
   refine (H1.out _ hB).mono ?_;rintro e w1 ⟨rfl,hb1⟩;have hw:=Bt hB hb1;have hr:=hr0.later hb1;have cr:=hr.cell;have fr:=hr.free;clear hb1 hr0;go_wp2_with fail
   refine bK rfl rfl ((hr.set 0 _).set 1 _) Tryz.underlying32 rfl zk ?_;exact ⟨rfl,(hw.setCell (p:=⟨w.heap.size,0,none⟩) (aC _) _).setCell (p:=⟨w.heap.size,1,none⟩) (aC _) _⟩
theorem aa4 (lo hi:Int) (s t:ByteArray) (b:Nat) (w:World) (h:aB w b #[Z I lo,Z I hi] 40) (HE:∀ W,Below w.heap.size w W→Calls Tryz.prog 196 #[Z I lo] W (fun e w'=>e= ah (aD #[au #[O s,O t],Z I 0])∧Below W.heap.size W w')) :
  Calls Tryz.prog 284 #[aA (some ⟨b,0,none⟩)] w (fun e w'=>e= ah (aD #[au #[O s,O t],Z I 0])∧Below w.heap.size w w'):=by
 have H:=zh HE;clear HE;go_enter Tryz.func284,Tryz.ntmps284
 have hb:=h.alloc (.cells #[O ⟨#[]⟩,O ⟨#[]⟩] 32);have cb:=hb.cell;have lb:=hb.lt;go_wp2_with fail
 clear cb lb hb;obtain ⟨wx,EW,hz,HR⟩:=zD w #[O ⟨#[]⟩,O ⟨#[]⟩] 32;rw [EW];clear EW;refine (H.out _ hz).mono ?_;rintro e w1 ⟨rfl,hb1⟩;have hr:=HR.out.later hb1;have cr:=hr.cell;have fr:=hr.free;have hw:=Bt hz hb1;go_wp2_with fail
 refine bK rfl rfl ((hr.set 0 _).set 1 _) Tryz.underlying32 rfl zk ?_;exact ⟨rfl,(hw.setCell (p:=⟨w.heap.size,0,none⟩) (aC _) _).setCell (p:=⟨w.heap.size,1,none⟩) (aC _) _⟩
theorem Ot (lo hi:Int) (s t:ByteArray) (w:World) (hv:gM lo hi=true) (HE:∀ W,Below w.heap.size w W→Calls Tryz.prog 196 #[Z I lo] W (fun e w'=>e= ah (aD #[au #[O s,O t],Z I 0])∧Below W.heap.size W w')) :
  Calls Tryz.prog 244 #[au #[Z I lo,Z I hi]] w (fun e w'=>e= ah (aD #[au #[O s,O t],Z I 0])∧Below w.heap.size w w'):=by
 have H:Hid (∀ W b q,Below w.heap.size w W→aB W b #[Z I lo,Z I hi] 40→aB W q #[Z I lo,Z I hi] 40→Calls Tryz.prog 283 #[.func (.func 284) #[] #[aA (some ⟨b,0,none⟩)],aj (some ⟨q,0,none⟩) 1 1] W (fun e w'=>e= ah (aD #[au #[O s,O t],Z I 0])∧Below W.heap.size W w')):=zh fun W b q hW h1 h2 =>
  KW 284 #[aA (some ⟨b,0,none⟩)] lo hi s t q W hv h2 (fun W' hW'=>aa4 lo hi s t b W' (h1.later hW') (fun W2 h3=>HE W2 (Bt hW (Bt hW' h3)))) (fun args W=>by rfl)
 clear HE hv;go_enter Tryz.func244,Tryz.ntmps244
 go_wp2_with fail
 obtain ⟨wx,EW,hz,X,R,dX⟩:=LK w #[Z I lo,Z I hi] 40 #[O ⟨#[]⟩,O ⟨#[]⟩] 32 #[Z I lo,Z I hi] 40;rw [EW];clear EW;refine (H.out _ _ _ hz X.out dX.out).mono ?_;rintro e w1 ⟨rfl,hb1⟩;have hr:=R.out.later hb1;have cr:=hr.cell;have fr:=hr.free;have hw:=Bt hz hb1;clear H;go_wp2_with fail
 refine bK rfl rfl ((hr.set 0 _).set 1 _) Tryz.underlying32 rfl zk ?_;exact ⟨rfl,(hw.setCell (p:=⟨w.heap.size+1,0,none⟩) (by show w.heap.size≤w.heap.size+1;omega) _).setCell (p:=⟨w.heap.size+1,1,none⟩) (by show w.heap.size≤w.heap.size+1;omega) _⟩
end Go.Proofs.aW
