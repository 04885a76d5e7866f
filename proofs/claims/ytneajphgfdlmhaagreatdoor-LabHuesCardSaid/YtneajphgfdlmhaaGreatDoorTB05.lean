/- Lemmas for the proof. No condition. -/
import Derived.Test.YtneajphgfdlmhaaGreatDoorTB01
import Derived.Test.YtneajphgfdlmhaaGreatDoorTB03
import Derived.Test.YtneajphgfdlmhaaGreatDoorTB04
import Derived.Test.YtneajphgfdlmhaaGreatDoorProg
import Derived.KernelRfl
import Derived.Deep.QuietTactic
import Derived.BigQuiet
import Derived.WalkSmall
import Derived.Deep.DeepCutAuto
import Derived.Deep.CutBlock
import Derived.Laws.CopyOwn
import Derived.Laws.EntriesVeiled
set_option linter.unusedVariables false
set_option linter.unusedSimpArgs false
set_option maxRecDepth 100000
set_option maxHeartbeats 16000000
namespace Go.Proofs.aL
open Go Go.RowKit Go.SW Go.Num Go.Mem Go.Proofs Go.Dec Go.eF
theorem ay5 (z:Int) {E:Nat} (hE:0<E) (hz:z.natAbs<9223372036854775809) (hE2:E<9223372036854775809) :
  ∃ s t,Fr.res (kN z (E:Int))= .tuple #[.agg #[.string s,.string t],.int .i64 0]∧rd ⟨s,t⟩=some ((z:Rat) / ((E:Nat):Rat)):=by
 have hk:rz ((z:Rat) / ((E:Nat):Rat))=true:=by
  rw [← Rat.mkRat_eq_div];have hp:=wE z hE;have ht:9223372036854775809≤iC 600:=by unfold iC;decide+kernel
  unfold rz jG;rw [Bool.and_eq_true];refine ⟨decide_eq_true ?_,decide_eq_true ?_⟩
  ·rw [hp.1,jN];have:=Nat.div_le_self z.natAbs (z.natAbs.gcd E);omega
  ·rw [hp.2];have:=Nat.div_le_self E (z.natAbs.gcd E);omega
 refine ⟨(Fr.of ((z:Rat) / ((E:Nat):Rat))).n,(Fr.of ((z:Rat) / ((E:Nat):Rat))).d,?_,iI hk⟩;unfold kN wr;rw [if_neg zo,Rat.intCast_natCast,if_pos hk];rfl
theorem bk5 (o:Int):∃ m:Int,(m=if o<0 then o else 0)∧(∀ (ts:Array TypeId) (t:TypeId) (W:World),(Builtin.min_ ts t #[.int .i64 o,.int .i64 0]).run Tryz.prog W= .ok (.int .i64 m) W):=by
 by_cases h:o<0
 ·refine ⟨o,by rw [if_pos h],fun ts t W=>?_⟩;have h1:¬ (0:Int)<o:=by omega
  rw [run_min_int2];simp [h1]
 ·refine ⟨0,by rw [if_neg h],fun ts t W=>?_⟩;rw [run_min_int2]
  by_cases h1:(0:Int)<o
  ·simp [h1]
  ·obtain rfl:o=0:=by omega
   simp
theorem bk6 (o:Int):∃ m:Int,(m=if 0<o then o else 0)∧(∀ (ts:Array TypeId) (t:TypeId) (W:World),(Builtin.max_ ts t #[.int .i64 o,.int .i64 0]).run Tryz.prog W= .ok (.int .i64 m) W):=by
 by_cases h:0<o
 ·refine ⟨o,by rw [if_pos h],fun ts t W=>?_⟩;have h1:¬ o<(0:Int):=by omega
  rw [run_max_int2];simp [h1]
 ·refine ⟨0,by rw [if_neg h],fun ts t W=>?_⟩;rw [run_max_int2]
  by_cases h1:o<(0:Int)
  ·simp [h1]
  ·obtain rfl:o=0:=by omega
   simp
theorem Jp (s t:ByteArray) (k:Int) (hk:¬ k=0) (w:World) (HN:Hid (∀ W,Below w.heap.size w W→Calls Tryz.prog 114 #[.agg #[.string s,.string t],.int .i64 1000000000000] W (fun e w'=>e= .returned (.tuple #[.int .i64 0,.int .i64 k])∧Below W.heap.size W w'))) :
  Calls Tryz.prog 36 #[.agg #[.string s,.string t]] w (fun e w'=>e= .returned (bK ((0,0),k))∧Below w.heap.size w w'):=by
 unfold bK;have hk0:decide (k=0)=false:=decide_eq_false hk;go_enter Tryz.func36,Tryz.ntmps36
 go_wp2_with fail
 refine (HN.out _ au).mono ?_;rintro e v1 ⟨rfl,hc1⟩;have BR:=ah.later (ah.oL _ _ _ _) hc1;have bJ:=BR.cell;have bI:=BR.free;have gT:=BR.lt;go_wp2_with fail
 refine aM rfl rfl aJ Tryz.underlying40 rfl zk ?_;exact ⟨rfl,au⟩
theorem Sb (s t s1 t1:ByteArray) (z o:Int) (w:World) (ho: -1≤o∧o≤1) (HN:Hid (∀ W,Below w.heap.size w W→Calls Tryz.prog 114 #[.agg #[.string s,.string t],.int .i64 1000000000000] W (fun e w'=>e= .returned (.tuple #[.int .i64 z,.int .i64 0])∧Below W.heap.size W w')))
  (HO:Hid (∀ W,Below w.heap.size w W→Calls Tryz.prog 115 #[.int .i64 z,.int .i64 1000000000000] W (fun e w'=>e= .returned (.tuple #[.agg #[.string s1,.string t1],.int .i64 0])∧Below W.heap.size W w')))
  (HC:Hid (∀ W,Calls Tryz.prog 19 #[.agg #[.string s,.string t],.agg #[.string s1,.string t1]] W (fun e w'=>e= .returned (.tuple #[.int .i64 o,.int .i64 0])∧Below W.heap.size W w'))) :
  Calls Tryz.prog 36 #[.agg #[.string s,.string t]] w (fun e w'=>e= .returned (bK (if dA z z then dI (z+(if o<0 then -1 else 0)) (z+(if 0<o then 1 else 0)) else ((0,0),6)))∧Below w.heap.size w w'):=by
 have HV:=zh (fun W=>kG z z W);cases hb:dA z z with
 | false =>
  rw [if_neg zi];unfold bK;rw [hb] at HV;clear hb ho;go_enter Tryz.func36,Tryz.ntmps36
  go_wp2_with fail
  refine (HN.out _ au).mono ?_;rintro e v1 ⟨rfl,hc1⟩;have BR:=ah.later (ah.oL _ _ _ _) hc1;have bJ:=BR.cell;have bI:=BR.free;have gT:=BR.lt;have B0:=ah.later (ah.alloc (ah.new _ _ _) _) hc1;have cB0:=B0.cell;have jU:=B0.free;have lB0:=B0.lt;go_wp2_with fail
  refine (HO.out _ au).mono ?_;rintro e v2 ⟨rfl,hc2⟩;replace BR:=ah.later (BR) hc2;replace bJ:=BR.cell;replace bI:=BR.free;replace gT:=BR.lt;replace B0:=ah.later (B0) hc2;replace cB0:=B0.cell;replace jU:=B0.free;replace lB0:=B0.lt;go_wp2_with fail
  refine (HC.out _).mono ?_;rintro e v3 ⟨rfl,hc3⟩;replace BR:ah _ (w.heap.size+1) _ _:=ah.later aJ hc3;(try simp only [List.setIfInBounds_toArray,List.set_cons_zero,List.set_cons_succ] at BR);replace bJ:=BR.cell;replace bI:=BR.free;replace gT:=BR.lt;go_wp2_with fail
  refine (HV.out _).mono ?_;rintro e v4 ⟨rfl,hc4⟩;replace BR:=ah.later (BR) hc4;replace bJ:=BR.cell;replace bI:=BR.free;replace gT:=BR.lt;go_wp2_with fail
  refine aM rfl rfl aJ Tryz.underlying40 rfl zk ?_;exact ⟨rfl,au⟩
 | true =>
  rw [if_pos rfl];rw [hb] at HV;obtain ⟨l,hl,hmin⟩:=bk5 o;obtain ⟨m,hm,hmax⟩:=bk6 o;have el:(if o<0 then (-1:Int) else 0)=l:=by rw [hl];by_cases h:o<0<;>simp only [if_pos,if_neg,h,if_true,if_false]<;>omega
  have em:(if 0<o then (1:Int) else 0)=m:=by rw [hm];by_cases h:0<o<;>simp only [if_pos,if_neg,h,if_true,if_false]<;>omega
  rw [el,em]
  have hr: -1000000000000000000≤z∧z≤1000000000000000000:=by
   unfold dA at hb;simp only [Bool.and_eq_true,decide_eq_true_eq] at hb;omega
  have hl2: -1≤l∧l≤0:=by rw [← el];by_cases h:o<0<;>simp [h]
  have hm2:0≤m∧m≤1:=by rw [← em];by_cases h:0<o<;>simp [h]
  have w1:IntKind.i64.wrap (z+l)=z+l:=by simp [IntKind.wrap,IntKind.bits,IntKind.signed];omega
  have w2:IntKind.i64.wrap (z+m)=z+m:=by simp [IntKind.wrap,IntKind.bits,IntKind.signed];omega
  have HM:=zh (fun W=>jf (z+l) (z+m) W);clear hb ho hl hm el em hr hl2 hm2;generalize dI (z+l) (z+m)=x at *;obtain ⟨⟨x1,x2⟩,x3⟩:=x;unfold bK at *;simp only at *;go_enter Tryz.func36,Tryz.ntmps36
  go_wp2_with fail
  refine (HN.out _ au).mono ?_;rintro e v1 ⟨rfl,hc1⟩;have BR:=ah.later (ah.oL _ _ _ _) hc1;have bJ:=BR.cell;have bI:=BR.free;have gT:=BR.lt;have B0:=ah.later (ah.alloc (ah.new _ _ _) _) hc1;have cB0:=B0.cell;have jU:=B0.free;have lB0:=B0.lt;go_wp2_with fail
  refine (HO.out _ au).mono ?_;rintro e v2 ⟨rfl,hc2⟩;replace BR:=ah.later (BR) hc2;replace bJ:=BR.cell;replace bI:=BR.free;replace gT:=BR.lt;replace B0:=ah.later (B0) hc2;replace cB0:=B0.cell;replace jU:=B0.free;replace lB0:=B0.lt;go_wp2_with fail
  refine (HC.out _).mono ?_;rintro e v3 ⟨rfl,hc3⟩;replace BR:ah _ (w.heap.size+1) _ _:=ah.later aJ hc3;(try simp only [List.setIfInBounds_toArray,List.set_cons_zero,List.set_cons_succ] at BR);replace bJ:=BR.cell;replace bI:=BR.free;replace gT:=BR.lt;go_wp2_with fail
  refine (HV.out _).mono ?_;rintro e v4 ⟨rfl,hc4⟩;replace BR:=ah.later (BR) hc4;replace bJ:=BR.cell;replace bI:=BR.free;replace gT:=BR.lt;go_wp2_with fail
  refine (HM.out _).mono ?_;rintro e v5 ⟨rfl,pK⟩;replace BR:=ah.later (BR) pK;replace bJ:=BR.cell;replace bI:=BR.free;replace gT:=BR.lt;go_wp2_with fail
  refine aM rfl rfl aJ Tryz.underlying40 rfl zk ?_;exact ⟨rfl,au⟩
def dO (a:Fr):(Int × Int) × Int:=match rd a with
 | some q=>dI (qZ (q.num*1000000000000) q.den false) (qZ (q.num*1000000000000) q.den true)
 | none=>((0,0),20)
theorem CQ (a:Fr) (w:World) (ht:fM.Pow w) (he:whole.Er w) :
  Calls Tryz.prog 36 #[a.v] w (fun e w'=>e= .returned (bK (dO a))∧Below w.heap.size w w'):=by
 obtain ⟨s,t⟩:=a
 show Calls _ _ #[.agg #[.string s,.string t]] _ _
 unfold dO;cases h:rd ⟨s,t⟩ with
 | none=>exact Jp s t 20 zo w (zh fun W _=>dF.ac4 s t 1000000000000 h W)
 | some q =>
  have hd:0<q.den:=q.den_pos;simp only;rw [← aQ6 _ hd];have hn:∀ W,Below w.heap.size w W→ _:=fun W hW=>dF.ac3 s t 1000000000000 q h zo zo W (ht.later hW) (he.later hW);have e1:((1000000000000:Nat):Int)=1000000000000:=rfl;rw [e1] at hn;unfold arE;unfold dF.NJ at hn;generalize hz:iV (q.num*1000000000000) q.den=z at *
  by_cases c: -9223372036854775808≤z∧z<9223372036854775808
  ·rw [if_pos c];rw [decide_eq_true c,if_pos rfl] at hn;obtain ⟨s1,t1,hof,hrd⟩:=ay5 z (E:=1000000000000) zo zo zo;rw [e1] at hof;have hc:=fun W=>dF.zB ⟨s,t⟩ ⟨s1,t1⟩ W;have hce:sJ ⟨s,t⟩ ⟨s1,t1⟩=(jA q ((z:Rat) / ((1000000000000:Nat):Rat)),0):=by unfold sJ;rw [h,hrd]
   rw [hce,aa3 q z zo,e1] at hc;have aZ7:∀ W,Below w.heap.size w W→ _:=fun W hW=>dF.nu z 1000000000000 zo zo zo zo W (ht.later hW);rw [hof] at aZ7;refine (Sb s t s1 t1 z _ w ?_ (zh hn) (zh aZ7) (zh hc)).mono ?_
   ·split
    ·omega
    ·split<;>omega
   ·rintro e w1 ⟨rfl,hb⟩;refine ⟨?_,hb⟩
    congr 2
    by_cases h1:q.num*1000000000000<z*(q.den:Int)
    ·have h2:¬ z*(q.den:Int)<q.num*1000000000000:=by omega
     simp [h1,h2]
    ·by_cases h2:z*(q.den:Int)<q.num*1000000000000
     ·simp [h1,h2]
     ·simp [h1,h2]
  ·rw [if_neg c];rw [decide_eq_false c,if_neg zi] at hn;exact Jp s t 6 zo w (zh hn)
theorem Cj (n:Int) (s t:ByteArray) (w:World) (h1: -9223372036854775808≤n) (h2:n≤9223372036854775807) (ht:fM.Pow w) (he:kN n 1000000000000=(⟨s,t⟩,0)) :
  Calls Tryz.prog 196 #[.int .i64 n] w (fun e w'=>e= .returned (.tuple #[.agg #[.string s,.string t],.int .i64 0])∧Below w.heap.size w w'):=by
 have H:=zh (fun W (h:fM.Pow W)=>dF.nu n 1000000000000 h1 h2 zo zo W h);rw [he] at H;unfold Fr.res Fr.v at H;have HP:=zh ht;clear he ht h1 h2;go_enter Tryz.func196,Tryz.ntmps196
 go_wp2_with fail
 obtain ⟨wx,EW,hz,HR⟩:=rG w #[.string ⟨#[]⟩,.string ⟨#[]⟩] 32;rw [EW];clear EW;refine (H.out _ (HP.out.later hz)).mono ?_;rintro e w1 ⟨rfl,hb⟩;have hr:=HR.out.later hb;have cr:=hr.cell;have fr:=hr.free;have hw:=Bt hz hb;go_wp2_with fail
 refine aM rfl rfl ((hr.set 0 _).set 1 _) Tryz.underlying32 rfl zk ?_;exact ⟨rfl,(hw.setCell (p:=⟨w.heap.size,0,none⟩) (Nat.le_refl _) _).setCell (p:=⟨w.heap.size,1,none⟩) (Nat.le_refl _) _⟩
theorem Ry (F:FuncId) (free:Array Value) (lo hi:Int) (s t:ByteArray) (q:Nat) (w:World) (hv:dA lo hi=true) (hq:ah w q #[.int .i64 lo,.int .i64 hi] 40)
  (h1:∀ W,Below w.heap.size w W→Calls Tryz.prog F free W (fun e w'=>e= .returned (.tuple #[.agg #[.string s,.string t],.int .i64 0])∧Below W.heap.size W w'))
  (hen:∀ args W,(callFunc F args).run Tryz.prog W= .ok (.enter F args) W) :
  Calls Tryz.prog 283 #[.func (.func F) #[] free,.slice (some ⟨q,0,none⟩) 1 1] w (fun e w'=>e= .returned (.tuple #[.agg #[.string s,.string t],.int .i64 0])∧Below w.heap.size w w'):=by
 have HV:=zh (fun W=>hv ▸ kG lo hi W);have H1:=zh h1;clear h1 hv;go_enter Tryz.func283,Tryz.ntmps283
 go_wp2_with fail
 obtain ⟨wx,EW,hz,R⟩:=rG w #[.string ⟨#[]⟩,.string ⟨#[]⟩] 32;rw [EW];clear EW;have HB:=zh hz;have HQ:=zh (hq.later hz);clear hz hq;go_wp2_with fail
 go_loopw [11] (fun iv wr=>∃ k:Nat,iv= .int .i64 (k:Int)∧k≤1∧Below wx.heap.size wx wr) (fun iv _=>1 - (intOf iv).toNat)
 case atStart=>exact ⟨0,rfl,by omega,Below.refl _ _⟩
 case round =>
  obtain ⟨k,rfl,hk,hb⟩:=hrel
  rcases Nat.lt_or_ge k 1 with hlt|hge
  ·obtain rfl:k=0:=by omega
   have hq:=HQ.out.later hb;have cq:=hq.cell;have lq:=hq.lt;go_wp2_with fail
   obtain ⟨wy,EW,hz,Y⟩:=rG wr #[.int .i64 lo,.int .i64 hi] 40;rw [EW];clear EW;refine (HV.out _).mono ?_;rintro e w1 ⟨rfl,hb1⟩;have hw:=Bt hb (Bt hz hb1);clear hz hb1 Y cq lq hq;go_wp2_with fail
   go_roundw
   case rel=>exact ⟨1,by go_num,by omega,hw⟩
   case measure=>simp [intOf]<;>omega
  ·obtain rfl:k=1:=by omega
   have hB:=Bt HB.out hb;have hr0:=R.out.later hb;go_wp2_with fail
   refine (H1.out _ hB).mono ?_;rintro e w1 ⟨rfl,hb1⟩;have hw:=Bt hB hb1;have hr:=hr0.later hb1;have cr:=hr.cell;have fr:=hr.free;clear hb1 hr0;go_wp2_with fail
   refine aM rfl rfl ((hr.set 0 _).set 1 _) Tryz.underlying32 rfl zk ?_;exact ⟨rfl,(hw.setCell (p:=⟨w.heap.size,0,none⟩) (Nat.le_refl _) _).setCell (p:=⟨w.heap.size,1,none⟩) (Nat.le_refl _) _⟩
theorem ao9 (F:FuncId) (free:Array Value) (lo hi:Int) (q:Nat) (w:World) (hv:dA lo hi=true) (hq:ah w q #[.int .i64 lo,.int .i64 hi] 40)
  (h1:∀ W,Below w.heap.size w W→Calls Tryz.prog F free W (fun e w'=>e= .returned (.tuple #[.bool true,.int .i64 0])∧Below W.heap.size W w'))
  (hen:∀ args W,(callFunc F args).run Tryz.prog W= .ok (.enter F args) W) :
  Calls Tryz.prog 194 #[.func (.func F) #[] free,.slice (some ⟨q,0,none⟩) 1 1] w (fun e w'=>e= .returned (.tuple #[.bool true,.int .i64 0])∧Below w.heap.size w w'):=by
 have HV:=zh (fun W=>hv ▸ kG lo hi W);have H1:=zh h1;have HQ:=zh hq;clear h1 hv hq;go_enter Tryz.func194,Tryz.ntmps194
 obtain ⟨wx,EWX⟩:∃ y,y=w:=⟨_,rfl⟩;subst EWX;go_wp2_with fail
 go_loopw [11] (fun iv wr=>∃ k:Nat,iv= .int .i64 (k:Int)∧k≤1∧Below wx.heap.size wx wr) (fun iv _=>1 - (intOf iv).toNat)
 case atStart=>exact ⟨0,rfl,by omega,Below.refl _ _⟩
 case round =>
  obtain ⟨k,rfl,hk,hb⟩:=hrel
  rcases Nat.lt_or_ge k 1 with hlt|hge
  ·obtain rfl:k=0:=by omega
   have hq:=HQ.out.later hb;have cq:=hq.cell;have lq:=hq.lt;go_wp2_with fail
   obtain ⟨wy,EW,hz,Y⟩:=rG wr #[.int .i64 lo,.int .i64 hi] 40;rw [EW];clear EW;refine (HV.out _).mono ?_;rintro e w1 ⟨rfl,hb1⟩;have hw:=Bt hb (Bt hz hb1);clear hz hb1 Y cq lq hq;go_wp2_with fail
   go_roundw
   case rel=>exact ⟨1,by go_num,by omega,hw⟩
   case measure=>simp [intOf]<;>omega
  ·obtain rfl:k=1:=by omega
   go_wp2_with fail
   refine (H1.out _ hb).mono ?_;rintro e w1 ⟨rfl,hb1⟩;go_wp2_with fail
   go_ret2
   exact ⟨rfl,Bt hb hb1⟩
theorem aD4 (lo hi:Int) (s t:ByteArray) (b:Nat) (w:World) (h:ah w b #[.int .i64 lo,.int .i64 hi] 40) (HE:∀ W,Below w.heap.size w W→Calls Tryz.prog 196 #[.int .i64 lo] W (fun e w'=>e= .returned (.tuple #[.agg #[.string s,.string t],.int .i64 0])∧Below W.heap.size W w')) :
  Calls Tryz.prog 284 #[.pointer (some ⟨b,0,none⟩)] w (fun e w'=>e= .returned (.tuple #[.agg #[.string s,.string t],.int .i64 0])∧Below w.heap.size w w'):=by
 have H:=zh HE;clear HE;go_enter Tryz.func284,Tryz.ntmps284
 have hb:=h.alloc (.cells #[.string ⟨#[]⟩,.string ⟨#[]⟩] 32);have cb:=hb.cell;have lb:=hb.lt;go_wp2_with fail
 clear cb lb hb;obtain ⟨wx,EW,hz,HR⟩:=rG w #[.string ⟨#[]⟩,.string ⟨#[]⟩] 32;rw [EW];clear EW;refine (H.out _ hz).mono ?_;rintro e w1 ⟨rfl,hb1⟩;have hr:=HR.out.later hb1;have cr:=hr.cell;have fr:=hr.free;have hw:=Bt hz hb1;go_wp2_with fail
 refine aM rfl rfl ((hr.set 0 _).set 1 _) Tryz.underlying32 rfl zk ?_;exact ⟨rfl,(hw.setCell (p:=⟨w.heap.size,0,none⟩) (Nat.le_refl _) _).setCell (p:=⟨w.heap.size,1,none⟩) (Nat.le_refl _) _⟩
theorem ar5 (lo hi:Int) (s t:ByteArray) (w:World) (hv:dA lo hi=true) (HE:∀ W,Below w.heap.size w W→Calls Tryz.prog 196 #[.int .i64 lo] W (fun e w'=>e= .returned (.tuple #[.agg #[.string s,.string t],.int .i64 0])∧Below W.heap.size W w')) :
  Calls Tryz.prog 244 #[.agg #[.int .i64 lo,.int .i64 hi]] w (fun e w'=>e= .returned (.tuple #[.agg #[.string s,.string t],.int .i64 0])∧Below w.heap.size w w'):=by
 have H:Hid (∀ W b q,Below w.heap.size w W→ah W b #[.int .i64 lo,.int .i64 hi] 40→ah W q #[.int .i64 lo,.int .i64 hi] 40→Calls Tryz.prog 283 #[.func (.func 284) #[] #[.pointer (some ⟨b,0,none⟩)],.slice (some ⟨q,0,none⟩) 1 1] W (fun e w'=>e= .returned (.tuple #[.agg #[.string s,.string t],.int .i64 0])∧Below W.heap.size W w')):=zh fun W b q hW h1 h2 =>
  Ry 284 #[.pointer (some ⟨b,0,none⟩)] lo hi s t q W hv h2 (fun W' hW'=>aD4 lo hi s t b W' (h1.later hW') (fun W2 h3=>HE W2 (Bt hW (Bt hW' h3)))) (fun args W=>by rfl)
 clear HE hv;go_enter Tryz.func244,Tryz.ntmps244
 go_wp2_with fail
 obtain ⟨wx,EW,hz,X,R,Z⟩:=yx w #[.int .i64 lo,.int .i64 hi] 40 #[.string ⟨#[]⟩,.string ⟨#[]⟩] 32 #[.int .i64 lo,.int .i64 hi] 40;rw [EW];clear EW;refine (H.out _ _ _ hz X.out Z.out).mono ?_;rintro e w1 ⟨rfl,hb1⟩;have hr:=R.out.later hb1;have cr:=hr.cell;have fr:=hr.free;have hw:=Bt hz hb1;clear H;go_wp2_with fail
 refine aM rfl rfl ((hr.set 0 _).set 1 _) Tryz.underlying32 rfl zk ?_;exact ⟨rfl,(hw.setCell (p:=⟨w.heap.size+1,0,none⟩) (by show w.heap.size≤w.heap.size+1;omega) _).setCell (p:=⟨w.heap.size+1,1,none⟩) (by show w.heap.size≤w.heap.size+1;omega) _⟩
theorem aD7 (lo hi o1 o2:Int) (s t s1 t1 s2 t2:ByteArray) (b q:Nat) (w:World) (ho1:0≤o1) (ho2:o2≤0) (h:ah w b #[.int .i64 lo,.int .i64 hi] 40) (hq:ah w q #[.string s,.string t] 32)
  (OI:∀ W,Below w.heap.size w W→Calls Tryz.prog 196 #[.int .i64 lo] W (fun e w'=>e= .returned (.tuple #[.agg #[.string s1,.string t1],.int .i64 0])∧Below W.heap.size W w'))
  (HE2:∀ W,Below w.heap.size w W→Calls Tryz.prog 196 #[.int .i64 hi] W (fun e w'=>e= .returned (.tuple #[.agg #[.string s2,.string t2],.int .i64 0])∧Below W.heap.size W w'))
  (HC1:∀ W,Calls Tryz.prog 19 #[.agg #[.string s,.string t],.agg #[.string s1,.string t1]] W (fun e w'=>e= .returned (.tuple #[.int .i64 o1,.int .i64 0])∧Below W.heap.size W w'))
  (HC2:∀ W,Calls Tryz.prog 19 #[.agg #[.string s,.string t],.agg #[.string s2,.string t2]] W (fun e w'=>e= .returned (.tuple #[.int .i64 o2,.int .i64 0])∧Below W.heap.size W w')) :
  Calls Tryz.prog 195 #[.pointer (some ⟨b,0,none⟩),.pointer (some ⟨q,0,none⟩)] w (fun e w'=>e= .returned (.tuple #[.bool true,.int .i64 0])∧Below w.heap.size w w'):=by
 have d1:decide (0≤o1)=true:=decide_eq_true ho1;have d2:decide (o2≤0)=true:=decide_eq_true ho2;have K1:=zh OI;have K2:=zh HE2;have K3:=zh HC1;have K4:=zh HC2;have X:=zh h;have Y:=zh hq;clear OI HE2 HC1 HC2 h hq ho1 ho2;go_enter Tryz.func195,Tryz.ntmps195
 have cX:=X.out.cell;have lX:=X.out.lt;go_wp2_with fail
 clear cX lX;refine (K1.out _ (Below.refl _ _)).mono ?_;rintro e w1 ⟨rfl,hb1⟩;have hx:=(X.out.later hb1).alloc (.cells #[.string s1,.string t1] 32);have cX:=hx.cell;have lX:=hx.lt;go_wp2_with fail
 clear cX lX hx;obtain ⟨w2,EW,hz,A1⟩:=rG w1 #[.string s1,.string t1] 32;rw [EW];obtain ⟨q1,eq1⟩:∃ y,w1.heap.size=y:=⟨_,rfl⟩;rw [eq1] at A1 ⊢;have HB:=zh (Bt hb1 hz);clear EW eq1 hz hb1;refine (K2.out _ HB.out).mono ?_;rintro e w3 ⟨rfl,hb3⟩;replace HB:=zh (Bt HB.out hb3);replace A1:=zh (A1.out.later hb3);have hy:=(Y.out.later HB.out).alloc (.cells #[.string s2,.string t2] 32);have cY:=hy.cell;have lY:=hy.lt;have ha:=A1.out.alloc (.cells #[.string s2,.string t2] 32);have cA:=ha.cell;have lA:=ha.lt;go_wp2_with fail
 clear cY lY hy ha cA lA;obtain ⟨w4,EW,hz,A2⟩:=rG w3 #[.string s2,.string t2] 32;rw [EW];obtain ⟨q2,eq2⟩:∃ y,w3.heap.size=y:=⟨_,rfl⟩;rw [eq2] at A2 ⊢;replace HB:=zh (Bt HB.out hz);clear EW eq2 hz hb3;refine (K3.out _).mono ?_;rintro e w5 ⟨rfl,hb5⟩;replace HB:=zh (Bt HB.out hb5);replace A2:=zh (A2.out.later hb5);have hy:=Y.out.later HB.out;have cY:=hy.cell;have lY:=hy.lt;have cA:=A2.out.cell;have lA:=A2.out.lt;go_wp2_with fail
 clear cY lY hy cA lA;refine (K4.out _).mono ?_;rintro e w6 ⟨rfl,hb6⟩;go_wp2_with fail
 go_ret2
 exact ⟨rfl,Bt HB.out hb6⟩
theorem aR5 (lo hi o1 o2:Int) (s t s1 t1 s2 t2:ByteArray) (w:World) (hv:dA lo hi=true) (ho1:0≤o1) (ho2:o2≤0)
  (OI:∀ W,Below w.heap.size w W→Calls Tryz.prog 196 #[.int .i64 lo] W (fun e w'=>e= .returned (.tuple #[.agg #[.string s1,.string t1],.int .i64 0])∧Below W.heap.size W w'))
  (HE2:∀ W,Below w.heap.size w W→Calls Tryz.prog 196 #[.int .i64 hi] W (fun e w'=>e= .returned (.tuple #[.agg #[.string s2,.string t2],.int .i64 0])∧Below W.heap.size W w'))
  (HC1:∀ W,Calls Tryz.prog 19 #[.agg #[.string s,.string t],.agg #[.string s1,.string t1]] W (fun e w'=>e= .returned (.tuple #[.int .i64 o1,.int .i64 0])∧Below W.heap.size W w'))
  (HC2:∀ W,Calls Tryz.prog 19 #[.agg #[.string s,.string t],.agg #[.string s2,.string t2]] W (fun e w'=>e= .returned (.tuple #[.int .i64 o2,.int .i64 0])∧Below W.heap.size W w')) :
  Calls Tryz.prog 117 #[.agg #[.int .i64 lo,.int .i64 hi],.agg #[.string s,.string t]] w (fun e w'=>e= .returned (.tuple #[.bool true,.int .i64 0])∧Below w.heap.size w w'):=by
 have H:Hid (∀ W b c q,Below w.heap.size w W→ah W b #[.int .i64 lo,.int .i64 hi] 40→ah W c #[.string s,.string t] 32→ah W q #[.int .i64 lo,.int .i64 hi] 40→Calls Tryz.prog 194 #[.func (.func 195) #[] #[.pointer (some ⟨b,0,none⟩),.pointer (some ⟨c,0,none⟩)],.slice (some ⟨q,0,none⟩) 1 1] W (fun e w'=>e= .returned (.tuple #[.bool true,.int .i64 0])∧Below W.heap.size W w')):=zh fun W b c q hW h1 h2 h3 =>
  ao9 195 #[.pointer (some ⟨b,0,none⟩),.pointer (some ⟨c,0,none⟩)] lo hi q W hv h3 (fun W' hW'=>aD7 lo hi o1 o2 s t s1 t1 s2 t2 b c W' ho1 ho2 (h1.later hW') (h2.later hW') (fun W2 h4=>OI W2 (Bt hW (Bt hW' h4))) (fun W2 h4=>HE2 W2 (Bt hW (Bt hW' h4))) HC1 HC2) (fun args W=>by rfl)
 clear OI HE2 HC1 HC2 hv ho1 ho2;go_enter Tryz.func117,Tryz.ntmps117
 go_wp2_with fail
 obtain ⟨wx,EW,hz,X,R,Z⟩:=yx w #[.int .i64 lo,.int .i64 hi] 40 #[.string s,.string t] 32 #[.int .i64 lo,.int .i64 hi] 40;rw [EW];clear EW;refine (H.out _ _ _ _ hz X.out R.out Z.out).mono ?_;rintro e w1 ⟨rfl,hb1⟩;clear H;go_wp2_with fail
 go_ret2
 exact ⟨rfl,Bt hz hb1⟩
def aA7 (a b:Int × Int):(Int × Int) × Int:=if b.1≤0∧0≤b.2 then ((0,0),7) else qy (fun x y up=>kI x 1000000000000 y up) a b
def Vq (a b:Int × Int):(Int × Int) × Int:=if okB [a,b] then aA7 a b else ((0,0),30)
def Zh (b:Int × Int) (n d:Int):(Int × Int) × Int:=if n< -1000000000000∨1000000000000<n∨d<1∨1000000000000<d then ((0,0),2) else qy (fun x y up=>kI x y d up) b (n,n)
def nZ (b:Int × Int) (n d:Int):(Int × Int) × Int:=if okB [b] then Zh b n d else ((0,0),30)
def aB2 (b:Int × Int) (lo hi:Int):(Int × Int) × Int:=if dA lo hi then dI (min (max b.1 lo) hi) (min (max b.2 lo) hi) else ((0,0),2)
def Vt (b:Int × Int) (lo hi:Int):(Int × Int) × Int:=if okB [b] then aB2 b lo hi else ((0,0),30)
def ptE (n:Int):(Int × Int) × Int:=if dA n n then ((n,n),0) else ((0,0),30)
def Qq (b:Int × Int):Fr × Int:=if dA b.1 b.2 then kN b.1 1000000000000 else (Fr.no,30)
def Di (b:Int × Int):Fr × Int:=if dA b.1 b.2 then kN b.2 1000000000000 else (Fr.no,30)
theorem BK {lo hi:Int} (h:dA lo hi=true):lo.natAbs≤1000000000000000000∧hi.natAbs≤1000000000000000000∧lo≤hi:=by
 obtain ⟨h1,h2,h3⟩: -1000000000000000000≤lo∧lo≤hi∧hi≤1000000000000000000:=by simpa [dA] using h
 exact ⟨by omega,by omega,h2⟩
theorem Xm {a:Int × Int} (h:dA a.1 a.2=true) (k:Nat):(Xn a k).natAbs≤1000000000000000000:=by
 unfold Xn;have:=BK h;split<;>omega
theorem aw4 {a:Int × Int} (h:dA a.1 a.2=true) (k:Nat):(SN a k).natAbs≤1000000000000000000:=by
 unfold SN;have:=BK h;split<;>omega
theorem aE1 (x y:Int) (up:Bool) (hx:x.natAbs≤1000000000000000000) (hy:y≠0) (hy2:y.natAbs≤1000000000000000000) (w:World) :
  Calls Tryz.prog 161 #[.int .i64 x,.int .i64 y,.bool up] w (fun e w'=>e= .returned (.tuple #[.int .i64 (kI x 1000000000000 y up).1,.bool (kI x 1000000000000 y up).2])∧Below w.heap.size w w'):=by
 have H:=zh (fun W=>GH x 1000000000000 y up hx zo hy hy2 W);generalize kI x 1000000000000 y up=z at *;obtain ⟨z1,z2⟩:=z;simp only at *;clear hx hy hy2;go_enter Tryz.func161,Tryz.ntmps161
 go_wp2_with fail
 refine (H.out _).mono ?_;rintro e w1 ⟨rfl,hb⟩;go_wp2_with fail
 go_ret2
 exact ⟨rfl,hb⟩
theorem aE2 (x y z t:Int) (h0:okB [(x,y),(z,t)]=true) (b c:Nat) (w:World) (h:ah w b #[.int .i64 x,.int .i64 y] 40) (k:ah w c #[.int .i64 z,.int .i64 t] 40) :
  Calls Tryz.prog 160 #[.pointer (some ⟨c,0,none⟩),.pointer (some ⟨b,0,none⟩)] w (fun e w'=>e= .returned (bK (aA7 (x,y) (z,t)))∧Below w.heap.size w w'):=by
 have h0':dA x y=true∧dA z t=true:=by simpa [okB] using h0
 have ha:=Xm (a:=(x,y)) h0'.1;have hc:=aw4 (a:=(z,t)) h0'.2;obtain ⟨z1,z2,z3⟩:=BK h0'.2
 have H:Hid (¬ (z≤0∧0≤t)→∀ W,Calls Tryz.prog 100 #[.agg #[.int .i64 x,.int .i64 y],.agg #[.int .i64 z,.int .i64 t],.func (.func 161) #[] #[]] W (fun e w'=>e= .returned (bK (qy (fun x y up=>kI x 1000000000000 y up) (x,y) (z,t)))∧Below W.heap.size W w')):=zh fun hn W =>
  yK (fun x y up=>kI x 1000000000000 y up) 161 #[] x y z t W (fun k up W' _=>aE1 _ _ up (ha k) (by unfold SN;split<;>simp only<;>omega) (hc k) W') (fun args W=>by rfl)
 have e:aA7 (x,y) (z,t)=if z≤0∧0≤t then ((0,0),7) else qy (fun x y up=>kI x 1000000000000 y up) (x,y) (z,t):=rfl
 rw [e];generalize qy (fun x y up=>kI x 1000000000000 y up) (x,y) (z,t)=m at *;clear h0 h0' ha hc z1 z2 z3 e;obtain ⟨⟨m1,m2⟩,m3⟩:=m;have HX:=zh h;have HY:=zh k;clear h k
 by_cases hn:z≤0∧0≤t
 ·rw [if_pos hn];obtain ⟨g1,g2⟩:=hn;unfold bK at *;simp only at *;clear H;obtain ⟨cx,lx,fx⟩:=HY.clf;go_enter Tryz.func160,Tryz.ntmps160
  go_wp2_with fail
  have hx:=ah.new w #[.int .i64 0,.int .i64 0] 40;refine aM rfl rfl aJ Tryz.underlying40 rfl zk ?_;exact ⟨rfl,au⟩
 ·rw [if_neg hn];replace H:=zh (H.out hn);unfold bK at *;simp only at *
  have g:decide (z≤0)=false∨(decide (z≤0)=true∧decide (0≤t)=false):=by
   by_cases g1:z≤0
   ·exact .inr ⟨decide_eq_true g1,decide_eq_false (fun g2=>hn ⟨g1,g2⟩)⟩
   ·exact .inl (decide_eq_false g1)
  clear hn;obtain ⟨cx,lx,fx⟩:=HX.clf;obtain ⟨cy,ly,fy⟩:=HY.clf
  rcases g with g1|⟨g1,g2⟩
  all_goals
   simp only [decide_eq_false_iff_not,decide_eq_true_eq] at *;go_enter Tryz.func160,Tryz.ntmps160
   go_wp2_with fail
   refine (H.out _).mono ?_;rintro e w1 ⟨rfl,hb1⟩;have hx:=ah.later (ah.new w #[.int .i64 0,.int .i64 0] 40) hb1;have cr:=hx.cell;have fr:=hx.free;have lr:=hx.lt;have hw:=Bt (show Below w.heap.size w (w.alloc (.cells #[.int .i64 0,.int .i64 0] 40)) from au) hb1;go_wp2_with fail
   refine aM rfl rfl aJ Tryz.underlying40 rfl zk ?_;exact ⟨rfl,au⟩
theorem oQ (x y z t:Int) (w:World):Calls Tryz.prog 74 #[.agg #[.int .i64 x,.int .i64 y],.agg #[.int .i64 z,.int .i64 t]] w (fun e w'=>e= .returned (bK (Vq (x,y) (z,t)))∧Below w.heap.size w w'):=by
 have H:Hid (∀ W b c d,ah W b #[.int .i64 x,.int .i64 y] 40→ah W c #[.int .i64 z,.int .i64 t] 40→ah W d #[.int .i64 x,.int .i64 y,.int .i64 z,.int .i64 t] 40→Calls Tryz.prog 97 #[.func (.func 160) #[] #[.pointer (some ⟨c,0,none⟩),.pointer (some ⟨b,0,none⟩)],.slice (some ⟨d,0,none⟩) 2 2] W (fun e w'=>e= .returned (bK (Vq (x,y) (z,t)))∧Below W.heap.size W w')):=zh fun W b c d h1 h2 h3 =>
  kW 160 #[.pointer (some ⟨c,0,none⟩),.pointer (some ⟨b,0,none⟩)] _ _ _ _ W (Bq.two h3) (fun h W' hW'=>aE2 x y z t h b c W' (h1.later hW') (h2.later hW')) (fun args W=>by rfl)
 generalize Vq (x,y) (z,t)=m at *;obtain ⟨⟨m1,m2⟩,m3⟩:=m;unfold bK at *;simp only at *;go_enter Tryz.func74,Tryz.ntmps74
 go_wp2_with fail
 obtain ⟨wx,EW,hz,X,Y,R,Z⟩:=al4 w #[.int .i64 x,.int .i64 y] 40 #[.int .i64 z,.int .i64 t] 40 #[.int .i64 0,.int .i64 0] 40 #[.int .i64 x,.int .i64 y,.int .i64 z,.int .i64 t] 40;rw [EW];clear EW;have HB:=zh hz;clear hz;refine (H.out _ _ _ _ X.out Y.out Z.out).mono ?_;rintro e w1 ⟨rfl,hb1⟩;replace R:=R.bl hb1;replace HB:=zh (Bt HB.out hb1);clear hb1 H;have hx:=R.out;have cx:=hx.cell;have fx:=hx.free;have lx:=hx.lt;have hw:=HB.out;go_wp2_with fail
 refine aM rfl rfl aJ Tryz.underlying40 rfl zk ?_;exact ⟨rfl,au⟩
theorem ab8 (x y d:Int) (up:Bool) (hx:x.natAbs≤1000000000000000000) (hy:y.natAbs≤1000000000000000000) (hd:d≠0) (hd2:d.natAbs≤1000000000000000000) (c:Nat) (w:World) (h:ah w c #[.int .i64 d] 3) :
  Calls Tryz.prog 204 #[.int .i64 x,.int .i64 y,.bool up,.pointer (some ⟨c,0,none⟩)] w (fun e w'=>e= .returned (.tuple #[.int .i64 (kI x y d up).1,.bool (kI x y d up).2])∧Below w.heap.size w w'):=by
 have H:=zh (fun W=>GH x y d up hx hy hd hd2 W);generalize kI x y d up=z at *;obtain ⟨z1,z2⟩:=z;have cc:=h.cell;have lc:=h.lt;simp only at *;clear hx hy hd hd2 h;go_enter Tryz.func204,Tryz.ntmps204
 go_wp2_with fail
 refine (H.out _).mono ?_;rintro e w1 ⟨rfl,hb⟩;go_wp2_with fail
 go_ret2
 exact ⟨rfl,hb⟩
theorem ab9 (x y n d:Int) (h0:okB [(x,y)]=true) (bn bd b:Nat) (w:World) (hn:ah w bn #[.int .i64 n] 3) (hd:ah w bd #[.int .i64 d] 3) (h:ah w b #[.int .i64 x,.int .i64 y] 40) :
  Calls Tryz.prog 203 #[.pointer (some ⟨bn,0,none⟩),.pointer (some ⟨bd,0,none⟩),.pointer (some ⟨b,0,none⟩)] w (fun e w'=>e= .returned (bK (Zh (x,y) n d))∧Below w.heap.size w w'):=by
 have h0':dA x y=true:=by simpa [okB] using h0
 have ha:=Xm (a:=(x,y)) h0'
 have H:Hid (¬ (n< -1000000000000∨1000000000000<n∨d<1∨1000000000000<d)→∀ W,Below w.heap.size w W→Calls Tryz.prog 100 #[.agg #[.int .i64 x,.int .i64 y],.agg #[.int .i64 n,.int .i64 n],.func (.func 204) #[] #[.pointer (some ⟨bd,0,none⟩)]] W (fun e w'=>e= .returned (bK (qy (fun x y up=>kI x y d up) (x,y) (n,n)))∧Below W.heap.size W w')):=zh fun hg W hW =>
  yK (fun x y up=>kI x y d up) 204 #[.pointer (some ⟨bd,0,none⟩)] x y n n W (fun k up W' hW'=>ab8 _ _ d up (ha k) (by unfold SN;split<;>simp only<;>omega) zo zo bd W' ((hd.later hW).later hW')) (fun args W=>by rfl)
 have e:Zh (x,y) n d=if n< -1000000000000∨1000000000000<n∨d<1∨1000000000000<d then ((0,0),2) else qy (fun x y up=>kI x y d up) (x,y) (n,n):=rfl
 rw [e];generalize qy (fun x y up=>kI x y d up) (x,y) (n,n)=m at *;obtain ⟨⟨m1,m2⟩,m3⟩:=m;have HX:=zh h;have HN:=zh hn;have HD:=zh hd;clear h0 h0' ha e h hn hd;obtain ⟨cn,ln,fn⟩:=HN.clf;obtain ⟨cd,ld,fd⟩:=HD.clf
 by_cases hg:n< -1000000000000∨1000000000000<n∨d<1∨1000000000000<d
 ·rw [if_pos hg];clear H;have g:n< -1000000000000∨(¬ n< -1000000000000∧1000000000000<n)∨(¬ n< -1000000000000∧¬ 1000000000000<n∧d<1)∨(¬ n< -1000000000000∧¬ 1000000000000<n∧¬ d<1∧1000000000000<d):=by omega
  clear hg;unfold bK;simp only
  rcases g with g1|⟨g1,g2⟩|⟨g1,g2,g3⟩|⟨g1,g2,g3,g4⟩
  all_goals
   go_enter Tryz.func203,Tryz.ntmps203
   go_wp2_with fail
   have hx:=ah.new w #[.int .i64 0,.int .i64 0] 40;refine aM rfl rfl aJ Tryz.underlying40 rfl zk ?_;exact ⟨rfl,au⟩
 ·rw [if_neg hg];replace H:=zh (H.out hg);have g1:¬ n< -1000000000000:=by omega
  have g2:¬ 1000000000000<n:=by omega
  have g3:¬ d<1:=by omega
  have g4:¬ 1000000000000<d:=by omega
  clear hg;unfold bK at *;simp only at *;obtain ⟨cx,lx,fx⟩:=HX.clf;go_enter Tryz.func203,Tryz.ntmps203
  go_wp2_with fail
  refine (H.out _ au).mono ?_;rintro e w1 ⟨rfl,hb1⟩;have hx:=ah.later (ah.new w #[.int .i64 0,.int .i64 0] 40) hb1;have cr:=hx.cell;have fr:=hx.free;have lr:=hx.lt;have hw:=Bt (show Below w.heap.size w (w.alloc (.cells #[.int .i64 0,.int .i64 0] 40)) from au) hb1;go_wp2_with fail
  refine aM rfl rfl aJ Tryz.underlying40 rfl zk ?_;exact ⟨rfl,au⟩
theorem ac7 (x y lo hi:Int) (h0:okB [(x,y)]=true) (bn bd b:Nat) (w:World) (hn:ah w bn #[.int .i64 lo] 3) (hd:ah w bd #[.int .i64 hi] 3) (h:ah w b #[.int .i64 x,.int .i64 y] 40) :
  Calls Tryz.prog 159 #[.pointer (some ⟨bn,0,none⟩),.pointer (some ⟨bd,0,none⟩),.pointer (some ⟨b,0,none⟩)] w (fun e w'=>e= .returned (bK (aB2 (x,y) lo hi))∧Below w.heap.size w w'):=by
 have HV:=zh (fun W=>kG lo hi W);have HM:=zh (fun W=>jf (min (max x lo) hi) (min (max y lo) hi) W);have e:aB2 (x,y) lo hi=if dA lo hi then dI (min (max x lo) hi) (min (max y lo) hi) else ((0,0),2):=rfl
 rw [e];generalize dI (min (max x lo) hi) (min (max y lo) hi)=m at *;generalize dA lo hi=v at *;obtain ⟨⟨m1,m2⟩,m3⟩:=m;have HX:=zh h;have HN:=zh hn;have HD:=zh hd;clear h0 e h hn hd;unfold bK at *;simp only at *;cases v
 ·obtain ⟨cn,ln,fn⟩:=HN.clf;obtain ⟨cd,ld,fd⟩:=HD.clf;go_enter Tryz.func159,Tryz.ntmps159
  go_wp2_with fail
  refine (HV.out _).mono ?_;rintro e w1 ⟨rfl,hb1⟩;have hx:=ah.later (ah.new w #[.int .i64 0,.int .i64 0] 40) hb1;have cr:=hx.cell;have fr:=hx.free;have lr:=hx.lt;have hw:=Bt (show Below w.heap.size w (w.alloc (.cells #[.int .i64 0,.int .i64 0] 40)) from au) hb1;go_wp2_with fail
  refine aM rfl rfl aJ Tryz.underlying40 rfl zk ?_;exact ⟨rfl,au⟩
 ·obtain ⟨cn,ln,fn⟩:=HN.clf;obtain ⟨cd,ld,fd⟩:=HD.clf;go_enter Tryz.func159,Tryz.ntmps159
  go_wp2_with fail
  refine (HV.out _).mono ?_;rintro e w1 ⟨rfl,hb1⟩;have hw:=Bt (show Below w.heap.size w (w.alloc (.cells #[.int .i64 0,.int .i64 0] 40)) from au) hb1;have hx:=ah.later (ah.new w #[.int .i64 0,.int .i64 0] 40) hb1;clear cn ln fn cd ld fd;obtain ⟨cn,ln,fn⟩:=(HN.bl hw).clf;obtain ⟨cd,ld,fd⟩:=(HD.bl hw).clf;obtain ⟨cx,lx,fx⟩:=(HX.bl hw).clf;go_wp2_with fail
  refine (HM.out _).mono ?_;rintro e w2 ⟨rfl,hb2⟩;replace hx:=hx.later hb2;replace hw:=Bt hw hb2;have cr:=hx.cell;have fr:=hx.free;have lr:=hx.lt;clear cn ln fn cd ld fd cx lx fx hb1 hb2;go_wp2_with fail
  refine aM rfl rfl aJ Tryz.underlying40 rfl zk ?_;exact ⟨rfl,au⟩
theorem Ju (x y n d:Int) (w:World):Calls Tryz.prog 130 #[.agg #[.int .i64 x,.int .i64 y],.int .i64 n,.int .i64 d] w (fun e w'=>e= .returned (bK (nZ (x,y) n d))∧Below w.heap.size w w'):=by
 have H:Hid (∀ W bn bd b c,ah W bn #[.int .i64 n] 3→ah W bd #[.int .i64 d] 3→ah W b #[.int .i64 x,.int .i64 y] 40→ah W c #[.int .i64 x,.int .i64 y] 40→Calls Tryz.prog 97 #[.func (.func 203) #[] #[.pointer (some ⟨bn,0,none⟩),.pointer (some ⟨bd,0,none⟩),.pointer (some ⟨b,0,none⟩)],.slice (some ⟨c,0,none⟩) 1 1] W (fun e w'=>e= .returned (bK (nZ (x,y) n d))∧Below W.heap.size W w')):=zh fun W bn bd b c h1 h2 h3 h4 =>
  kW 203 #[.pointer (some ⟨bn,0,none⟩),.pointer (some ⟨bd,0,none⟩),.pointer (some ⟨b,0,none⟩)] _ _ _ _ W (Bq.one h4) (fun h W' hW'=>ab9 x y n d h bn bd b W' (h1.later hW') (h2.later hW') (h3.later hW')) (fun args W=>by rfl)
 generalize nZ (x,y) n d=z at *;obtain ⟨⟨z1,z2⟩,z3⟩:=z;unfold bK at *;simp only at *;go_enter Tryz.func130,Tryz.ntmps130
 go_wp2_with fail
 obtain ⟨wx,EW,hz,X,N,D,R,Z⟩:=aQ7 w #[.int .i64 x,.int .i64 y] 40 #[.int .i64 n] 3 #[.int .i64 d] 3 #[.int .i64 0,.int .i64 0] 40 #[.int .i64 x,.int .i64 y] 40;rw [EW];clear EW;have HB:=zh hz;clear hz;refine (H.out _ _ _ _ _ N.out D.out X.out Z.out).mono ?_;rintro e w1 ⟨rfl,hb1⟩;replace R:=R.bl hb1;replace HB:=zh (Bt HB.out hb1);clear hb1 H;have hx:=R.out;have cx:=hx.cell;have fx:=hx.free;have lx:=hx.lt;have hw:=HB.out;go_wp2_with fail
 refine aM rfl rfl aJ Tryz.underlying40 rfl zk ?_;exact ⟨rfl,au⟩
theorem Sz (x y n d:Int) (w:World):Calls Tryz.prog 73 #[.agg #[.int .i64 x,.int .i64 y],.int .i64 n,.int .i64 d] w (fun e w'=>e= .returned (bK (Vt (x,y) n d))∧Below w.heap.size w w'):=by
 have H:Hid (∀ W bn bd b c,ah W bn #[.int .i64 n] 3→ah W bd #[.int .i64 d] 3→ah W b #[.int .i64 x,.int .i64 y] 40→ah W c #[.int .i64 x,.int .i64 y] 40→Calls Tryz.prog 97 #[.func (.func 159) #[] #[.pointer (some ⟨bn,0,none⟩),.pointer (some ⟨bd,0,none⟩),.pointer (some ⟨b,0,none⟩)],.slice (some ⟨c,0,none⟩) 1 1] W (fun e w'=>e= .returned (bK (Vt (x,y) n d))∧Below W.heap.size W w')):=zh fun W bn bd b c h1 h2 h3 h4 =>
  kW 159 #[.pointer (some ⟨bn,0,none⟩),.pointer (some ⟨bd,0,none⟩),.pointer (some ⟨b,0,none⟩)] _ _ _ _ W (Bq.one h4) (fun h W' hW'=>ac7 x y n d h bn bd b W' (h1.later hW') (h2.later hW') (h3.later hW')) (fun args W=>by rfl)
 generalize Vt (x,y) n d=z at *;obtain ⟨⟨z1,z2⟩,z3⟩:=z;unfold bK at *;simp only at *;go_enter Tryz.func73,Tryz.ntmps73
 go_wp2_with fail
 obtain ⟨wx,EW,hz,X,N,D,R,Z⟩:=aQ7 w #[.int .i64 x,.int .i64 y] 40 #[.int .i64 n] 3 #[.int .i64 d] 3 #[.int .i64 0,.int .i64 0] 40 #[.int .i64 x,.int .i64 y] 40;rw [EW];clear EW;have HB:=zh hz;clear hz;refine (H.out _ _ _ _ _ N.out D.out X.out Z.out).mono ?_;rintro e w1 ⟨rfl,hb1⟩;replace R:=R.bl hb1;replace HB:=zh (Bt HB.out hb1);clear hb1 H;have hx:=R.out;have cx:=hx.cell;have fx:=hx.free;have lx:=hx.lt;have hw:=HB.out;go_wp2_with fail
 refine aM rfl rfl aJ Tryz.underlying40 rfl zk ?_;exact ⟨rfl,au⟩
theorem ar0 (n:Int) (w:World):Calls Tryz.prog 131 #[.int .i64 n] w (fun e w'=>e= .returned (bK (ptE n))∧Below w.heap.size w w'):=by
 have H:Hid (∀ W,Calls Tryz.prog 183 #[.int .i64 n,.int .i64 n] W (fun e w'=>e= .returned (bK (ptE n))∧Below W.heap.size W w')):=zh fun W=>by
  have h:=nu n n W;unfold ptE bK
  revert h
  cases dA n n<;>exact fun h=>h
 generalize ptE n=z at *;obtain ⟨⟨z1,z2⟩,z3⟩:=z;unfold bK at *;simp only at *;go_enter Tryz.func131,Tryz.ntmps131
 go_wp2_with fail
 obtain ⟨wx,EW,hz,R⟩:=rG w #[.int .i64 0,.int .i64 0] 40;rw [EW];clear EW;have HB:=zh hz;clear hz;refine (H.out _).mono ?_;rintro e w1 ⟨rfl,hb1⟩;replace R:=R.bl hb1;replace HB:=zh (Bt HB.out hb1);clear hb1 H;have hx:=R.out;have cx:=hx.cell;have fx:=hx.free;have lx:=hx.lt;have hw:=HB.out;go_wp2_with fail
 refine aM rfl rfl aJ Tryz.underlying40 rfl zk ?_;exact ⟨rfl,au⟩
theorem ar6 (lo hi:Int) (s t:ByteArray) (b:Nat) (w:World) (h:ah w b #[.int .i64 lo,.int .i64 hi] 40) (HE:∀ W,Below w.heap.size w W→Calls Tryz.prog 196 #[.int .i64 hi] W (fun e w'=>e= .returned (.tuple #[.agg #[.string s,.string t],.int .i64 0])∧Below W.heap.size W w')) :
  Calls Tryz.prog 285 #[.pointer (some ⟨b,0,none⟩)] w (fun e w'=>e= .returned (.tuple #[.agg #[.string s,.string t],.int .i64 0])∧Below w.heap.size w w'):=by
 have H:=zh HE;clear HE;go_enter Tryz.func285,Tryz.ntmps285
 have hb:=h.alloc (.cells #[.string ⟨#[]⟩,.string ⟨#[]⟩] 32);have cb:=hb.cell;have lb:=hb.lt;go_wp2_with fail
 clear cb lb hb;obtain ⟨wx,EW,hz,HR⟩:=rG w #[.string ⟨#[]⟩,.string ⟨#[]⟩] 32;rw [EW];clear EW;refine (H.out _ hz).mono ?_;rintro e w1 ⟨rfl,hb1⟩;have hr:=HR.out.later hb1;have cr:=hr.cell;have fr:=hr.free;have hw:=Bt hz hb1;go_wp2_with fail
 refine aM rfl rfl ((hr.set 0 _).set 1 _) Tryz.underlying32 rfl zk ?_;exact ⟨rfl,(hw.setCell (p:=⟨w.heap.size,0,none⟩) (Nat.le_refl _) _).setCell (p:=⟨w.heap.size,1,none⟩) (Nat.le_refl _) _⟩
theorem YH (lo hi:Int) (s t:ByteArray) (w:World) (hv:dA lo hi=true) (HE:∀ W,Below w.heap.size w W→Calls Tryz.prog 196 #[.int .i64 hi] W (fun e w'=>e= .returned (.tuple #[.agg #[.string s,.string t],.int .i64 0])∧Below W.heap.size W w')) :
  Calls Tryz.prog 245 #[.agg #[.int .i64 lo,.int .i64 hi]] w (fun e w'=>e= .returned (.tuple #[.agg #[.string s,.string t],.int .i64 0])∧Below w.heap.size w w'):=by
 have H:Hid (∀ W b q,Below w.heap.size w W→ah W b #[.int .i64 lo,.int .i64 hi] 40→ah W q #[.int .i64 lo,.int .i64 hi] 40→Calls Tryz.prog 283 #[.func (.func 285) #[] #[.pointer (some ⟨b,0,none⟩)],.slice (some ⟨q,0,none⟩) 1 1] W (fun e w'=>e= .returned (.tuple #[.agg #[.string s,.string t],.int .i64 0])∧Below W.heap.size W w')):=zh fun W b q hW h1 h2 =>
  Ry 285 #[.pointer (some ⟨b,0,none⟩)] lo hi s t q W hv h2 (fun W' hW'=>ar6 lo hi s t b W' (h1.later hW') (fun W2 h3=>HE W2 (Bt hW (Bt hW' h3)))) (fun args W=>by rfl)
 clear HE hv;go_enter Tryz.func245,Tryz.ntmps245
 go_wp2_with fail
 obtain ⟨wx,EW,hz,X,R,Z⟩:=yx w #[.int .i64 lo,.int .i64 hi] 40 #[.string ⟨#[]⟩,.string ⟨#[]⟩] 32 #[.int .i64 lo,.int .i64 hi] 40;rw [EW];clear EW;refine (H.out _ _ _ hz X.out Z.out).mono ?_;rintro e w1 ⟨rfl,hb1⟩;have hr:=R.out.later hb1;have cr:=hr.cell;have fr:=hr.free;have hw:=Bt hz hb1;clear H;go_wp2_with fail
 refine aM rfl rfl ((hr.set 0 _).set 1 _) Tryz.underlying32 rfl zk ?_;exact ⟨rfl,(hw.setCell (p:=⟨w.heap.size+1,0,none⟩) (by show w.heap.size≤w.heap.size+1;omega) _).setCell (p:=⟨w.heap.size+1,1,none⟩) (by show w.heap.size≤w.heap.size+1;omega) _⟩
end Go.Proofs.aL
namespace Go.Proofs.whole
open Go Go.RowKit Go.SW Go.Num Go.Mem Go.Proofs Go.Dec
theorem Ac (z:Int) (hz:(Lib.decDigits z.natAbs).length≤600) (w:World) :
  Calls Tryz.prog 254 #[bW z] w (fun e w'=>∃ v,e= .returned (.tuple #[v,.bool true])∧Below w.heap.size w w'∧dH w' v z):=by
 have HC:=zh (uY ⟨(Lib.itoa z).toArray⟩);have e1:(⟨(Lib.itoa z).toArray⟩:ByteArray).data.toList=Lib.itoa z:=rfl;rw [e1,Rw] at HC;have hd:=mY z.natAbs;have hn:=nS z.natAbs;have hl:=wR z.natAbs;have hh:(Lib.decDigits z.natAbs).head? =some 48→z=0:=fun h=>Int.natAbs_eq_zero.1 (wS h);have hz1:z=0→(Lib.decDigits z.natAbs).length≤1:=fun h=>by rw [h];decide+kernel
 unfold bW;generalize (Lib.itoa z).toArray=txt at *;generalize Lib.decDigits z.natAbs=d at *;have hsz:(⟨d.toArray⟩:ByteArray).size=d.length:=rfl;have g0:((d.length:Int) == 0)=false:=beq_eq_false_iff_ne.2 zo;have g1:decide ((600:Int)<(d.length:Int))=false:=by simp;omega
 have g2:¬ d=[]:=fun h=>by rw [h] at hl;simp at hl
 have hbx:ah (w.alloc (.cells #[.slice none 0 0,.bool false] 257 (0,0))) w.heap.size #[.slice none 0 0,.bool false] 257:=ah.new _ _ _;have hbl:Below w.heap.size w (w.alloc (.cells #[.slice none 0 0,.bool false] 257 (0,0))):=(Below.refl _ _).alloc (Nat.le_refl _) _;have uw:=zh hbx;have HD:=zh hd;have HN:=zh hn;have HH:=zh hh;have HZ:=zh hz1;clear hbx hd hn hh hz1 e1;go_enter Tryz.func254,Tryz.ntmps254
 go_wp2_with (go_at_call 273;refine (HC.out _).mono ?_;rintro e w1 ⟨rfl,rfl⟩)
 go_loopw [23] (fun v wr=>∃ i:Nat,v= .int .i64 (i:Int)∧i≤d.length∧w.alloc (.cells #[.slice none 0 0,.bool false] 257 (0,0))=wr) (fun v _=>d.length - (intOf v).toNat)
 case atStart=>exact ⟨0,rfl,by omega,rfl⟩
 case round =>
  obtain ⟨i,rfl,hi,rfl⟩:=hrel
  rcases Nat.lt_or_ge i d.length with hlt|hge
  ·have hgt:(⟨d.toArray⟩:ByteArray)[i]'(by exact hlt)=d[i]:=rfl;have hdig:=HD.out d[i] (List.getElem_mem hlt);have q1:decide (((⟨d.toArray⟩:ByteArray)[i]'(by exact hlt)).toNat<(48:Int))=false:=by rw [hgt];simp;omega
   have q2:decide ((57:Int)<((⟨d.toArray⟩:ByteArray)[i]'(by exact hlt)).toNat)=false:=by rw [hgt];simp;omega
   clear hgt hdig;go_wp2_with fail
   exact ⟨⟨i+1,rfl,by omega,trivial⟩,by simp only [intOf];omega⟩
  ·obtain rfl:i=d.length:=by omega
   have hgt:(⟨d.toArray⟩:ByteArray)[0]'(by exact hl)=d[0]:=rfl;have HG:=zh (xJ ⟨d.toArray⟩ (by rw [hsz];omega) HD.out (w.alloc (.cells #[.slice none 0 0,.bool false] 257 (0,0))));have e2:num (⟨d.toArray⟩:ByteArray).data.toList=z.natAbs:=HN.out;rw [e2] at HG;have hx:d[0].toNat=48→z=0:=fun h=>HH.out (by rw [List.head?_eq_getElem?, List.getElem?_eq_getElem hl];exact congrArg some (UInt8.toNat_inj.mp h));cases hq:decide (d[0].toNat=48) with
   | true =>
    have h0:=hx (of_decide_eq_true hq);have h1:=HZ.out h0;have q1:decide ((1:Int)<(d.length:Int))=false:=by simp;omega
    have q2:decide (z<0)=false:=by simp;omega
    have q0:((((⟨d.toArray⟩:ByteArray)[0]'(by exact hl)).toNat:Int) == 48)=true:=by rw [hgt];simp at hq ⊢;omega
    clear hgt hx hq e2 hge hi h0;go_wp2_with (go_at_call 292;refine (HG.out).mono ?_;rintro e w2 ⟨v,rfl,hb2,hv⟩;have HV:=zh hv;obtain ⟨pa,ca,rfl, -⟩:=hv;have Aw:=uw.out.later hb2;have cb:=Aw.cell;have fb:=Aw.free)
    refine aM rfl rfl (((uw.out.later hb2).set 0 _).set 1 _) Tryz.underlying257 rfl zk ?_;refine ⟨_,rfl,((Bt hbl hb2).setCell (Nat.le_refl _) _).setCell (Nat.le_refl _) _,pa,_,ca,?_,(HV.out.setOther Aw zd 0 _).setOther (Aw.set 0 _) zd 1 _⟩;rw [q2];rfl
   | false =>
    have q0:((((⟨d.toArray⟩:ByteArray)[0]'(by exact hl)).toNat:Int) == 48)=false:=by rw [hgt];simp at hq ⊢;omega
    clear hgt hx hq e2 hge hi;go_wp2_with (go_at_call 292;refine (HG.out).mono ?_;rintro e w2 ⟨v,rfl,hb2,hv⟩;have HV:=zh hv;obtain ⟨pa,ca,rfl, -⟩:=hv;have Aw:=uw.out.later hb2;have cb:=Aw.cell;have fb:=Aw.free)
    refine aM rfl rfl (((uw.out.later hb2).set 0 _).set 1 _) Tryz.underlying257 rfl zk ?_;exact ⟨_,rfl,((Bt hbl hb2).setCell (Nat.le_refl _) _).setCell (Nat.le_refl _) _,pa,_,ca,rfl,(HV.out.setOther Aw zd 0 _).setOther (Aw.set 0 _) zd 1 _⟩
end Go.Proofs.whole
namespace Go.Proofs.whole
open Go Go.RowKit Go.SW Go.Num Go.Mem Go.Proofs
theorem gW (v:Value) (n:Nat) (w:World) (h:aW w v n) :
  Calls Tryz.prog 295 #[v] w fun e w'=>e= .returned (.bool (decide (n=0)))∧w=w':=zs4
def yN (a b:Nat):Int:=if a<b then -1 else if b<a then 1 else 0
theorem rZ {a b:Nat} (h:a<b):yN a b= -1:=if_pos h
theorem qz {a b:Nat} (h:b<a):yN a b=1:=by unfold yN;rw [if_neg zo,if_pos h]
theorem uL (a:Nat):yN a a=0:=by unfold yN;simp
theorem Yl (a b:Nat) (w:World):Calls Tryz.prog 275 #[.int .i64 a,.int .i64 b] w fun e w'=>e= .returned (.int .i64 (yN a b))∧w=w':=zs5
theorem Yk (a b:Nat) (w:World):Calls Tryz.prog 276 #[.int .u32 a,.int .u32 b] w fun e w'=>e= .returned (.int .i64 (yN a b))∧w=w':=zs6
theorem Dp (a b:Option Addr) (m n c d:Nat) (w:World) (h:m≠n) :
  Calls Tryz.prog 317 #[.slice a m c,.slice b n d] w fun e w'=>e= .returned (.int .i64 (yN m n))∧w=w':=zs7
theorem AP (pa pb:Option Addr) (ca cb:Nat) (l m:List Nat) (w:World) (hlen:l.length=m.length) (hm:l.length≤9223372036854775807) (hl:dY 1000000000 l) (hmd:dY 1000000000 m)
   (hc:∀ k,k<l.length→∃ b off,pa=some ⟨b,off,none⟩∧b<w.heap.size∧w.cell? ⟨b,off+k,none⟩=some (.int .u32 (l.getD k 0:Nat)))
   (hd:∀ k,k<m.length→∃ b off,pb=some ⟨b,off,none⟩∧b<w.heap.size∧w.cell? ⟨b,off+k,none⟩=some (.int .u32 (m.getD k 0:Nat))) :
    Calls Tryz.prog 317 #[.slice pa l.length ca,.slice pb m.length cb] w fun e w'=>e= .returned (.int .i64 (yN (val 1000000000 l) (val 1000000000 m)))∧Below w.heap.size w w':=zs8
theorem jh (x y:Value) (a b:Nat) (w:World) (hx:aW w x a) (hy:aW w y b) :
  Calls Tryz.prog 317 #[x,y] w fun e w'=>e= .returned (.int .i64 (yN a b))∧Below w.heap.size w w':=zs9
theorem Dg:(Tryz.prog.info? 61).map (fun i=>(i.zero,i.size,i.bytes))=some (some (.int .u32 0),1,4):=by kernel_rfl
theorem BI {B:Nat} {l m s:List Nat} {k c d c':Nat} (hk:k<l.length) (hs:s.length=k) (he:val B s+c*B^k=val B (l.take k)+val B (m.take k)) (h:d+c'*B=l.getD k 0+c+m.getD k 0) :
  val B (s++[d])+c'*B^(k+1)=val B (l.take (k+1))+val B (m.take (k+1)):=aU1
theorem BG (pl ps:Option Addr) (cl cs:Nat) (l m:List Nat) (v0 v1:Value) (w:World) (hl:dY 1000000000 l) (hmd:dY 1000000000 m) (hb1:l.length≤1099511627776) (hml:m.length≤l.length)
   (hv:(v0= .slice pl l.length cl∧v1= .slice ps m.length cs)∨(v1= .slice pl l.length cl∧v0= .slice ps m.length cs∧m.length<l.length))
   (hc:∀ k,k<l.length→∃ b off,pl=some ⟨b,off,none⟩∧b<w.heap.size∧w.cell? ⟨b,off+k,none⟩=some (.int .u32 (l.getD k 0:Nat)))
   (hd:∀ k,k<m.length→∃ b off,ps=some ⟨b,off,none⟩∧b<w.heap.size∧w.cell? ⟨b,off+k,none⟩=some (.int .u32 (m.getD k 0:Nat))) :
    Calls Tryz.prog 315 #[v0,v1] w fun e w'=>∃ s v,e= .returned v∧Below w.heap.size w w'∧nC w' v s∧dY 1000000000 s∧val 1000000000 s=val 1000000000 l+val 1000000000 m∧l.length≤s.length∧(l.length<s.length→Top s):=aU0
theorem DX (x y:Value) (a b:Nat) (w:World) (hx:aW w x a) (hy:aW w y b) (ha:sz 1000000000 a≤1099511627776) (hb:sz 1000000000 b≤1099511627776) :
  Calls Tryz.prog 315 #[x,y] w fun e w'=>∃ v,e= .returned v∧Below w.heap.size w w'∧aW w' v (a+b):=zs12
theorem Ic (pl ps:Option Addr) (cl cs:Nat) (l m:List Nat) (w:World) (hl:dY 1000000000 l) (hmd:dY 1000000000 m) (hb1:l.length≤1099511627776) (hml:m.length≤l.length) (hle:val 1000000000 m≤val 1000000000 l)
   (hc:∀ k,k<l.length→∃ b off,pl=some ⟨b,off,none⟩∧b<w.heap.size∧w.cell? ⟨b,off+k,none⟩=some (.int .u32 (l.getD k 0:Nat)))
   (hd:∀ k,k<m.length→∃ b off,ps=some ⟨b,off,none⟩∧b<w.heap.size∧w.cell? ⟨b,off+k,none⟩=some (.int .u32 (m.getD k 0:Nat))) :
    Calls Tryz.prog 326 #[.slice pl l.length cl,.slice ps m.length cs] w fun e w'=>∃ v,e= .returned v∧Below w.heap.size w w'∧aW w' v (val 1000000000 l - val 1000000000 m):=aT9
theorem Ig (x y:Value) (a b:Nat) (w:World) (hx:aW w x a) (hy:aW w y b) (ha:sz 1000000000 a≤1099511627776) (hle:b≤a) :
  Calls Tryz.prog 326 #[x,y] w fun e w'=>∃ v,e= .returned v∧Below w.heap.size w w'∧aW w' v (a - b):=aT8
theorem Xl {x y:Nat} (hx:x<1000000000) (hy:y<1000000000):(0:Int)≤(x:Int)*(y:Int)∧(x:Int)*(y:Int)≤999999998000000001:=by
 have h:x*y≤999999999*999999999:=Nat.mul_le_mul zo zo;rw [← Int.natCast_mul];omega
theorem Gi (pl ps:Option Addr) (cl cs:Nat) (l m:List Nat) (w:World) (hl:dY 1000000000 l) (hmd:dY 1000000000 m) (hb1:l.length≤1099511627776) (hb2:m.length≤1099511627776)
   (hc:∀ k,k<l.length→∃ b off,pl=some ⟨b,off,none⟩∧b<w.heap.size∧w.cell? ⟨b,off+k,none⟩=some (.int .u32 (l.getD k 0:Nat)))
   (hd:∀ k,k<m.length→∃ b off,ps=some ⟨b,off,none⟩∧b<w.heap.size∧w.cell? ⟨b,off+k,none⟩=some (.int .u32 (m.getD k 0:Nat))) :
    Calls Tryz.prog 296 #[.slice pl l.length cl,.slice ps m.length cs] w fun e w'=>∃ v,e= .returned v∧Below w.heap.size w w'∧aW w' v (val 1000000000 l*val 1000000000 m):=aT7
theorem jm (x y:Value) (a b:Nat) (w:World) (hx:aW w x a) (hy:aW w y b) (ha:sz 1000000000 a≤1099511627776) (hb:sz 1000000000 b≤1099511627776) :
  Calls Tryz.prog 296 #[x,y] w fun e w'=>∃ v,e= .returned v∧Below w.heap.size w w'∧aW w' v (a*b):=aT6
theorem yM (pl:Option Addr) (cl:Nat) (l:List Nat) (d:Nat) (w:World) (hl:dY 1000000000 l) (hb1:l.length≤1099511627776) (hd0:0<d) (hd1:d≤1000000000)
   (hc:∀ k,k<l.length→∃ b off,pl=some ⟨b,off,none⟩∧b<w.heap.size∧w.cell? ⟨b,off+k,none⟩=some (.int .u32 (l.getD k 0:Nat))) :
    Calls Tryz.prog 316 #[.slice pl l.length cl,.int .u32 d] w fun e w'=>∃ v,e= .returned (.tuple #[v,.int .u32 (val 1000000000 l%d:Nat)])∧Below w.heap.size w w'∧aW w' v (val 1000000000 l / d):=aT5
theorem zQ (x:Value) (a d:Nat) (w:World) (hx:aW w x a) (ha:sz 1000000000 a≤1099511627776) (hd0:0<d) (hd1:d≤1000000000) :
  Calls Tryz.prog 316 #[x,.int .u32 d] w fun e w'=>∃ v,e= .returned (.tuple #[v,.int .u32 (a%d:Nat)])∧Below w.heap.size w w'∧aW w' v (a / d):=by
 obtain ⟨pa,ca,rfl,h1,h2,h3⟩:=nC.read hx.Fh;have:=yM pa ca _ d w (aZ zo a) ha hd0 hd1 h3
 rwa [aT zo] at this
theorem yL (pl:Option Addr) (cl:Nat) (l:List Nat) (w:World) (hm:l.length≤9223372036854775807) (hv:val 1000000000 l≤18446744073709551615)
   (hc:∀ k,k<l.length→∃ b off,pl=some ⟨b,off,none⟩∧b<w.heap.size∧w.cell? ⟨b,off+k,none⟩=some (.int .u32 (l.getD k 0:Nat))) :
    Calls Tryz.prog 346 #[.slice pl l.length cl] w fun e w'=>e= .returned (.int .u64 (val 1000000000 l:Nat))∧w=w':=aT4
theorem Gn (x:Value) (a:Nat) (w:World) (hx:aW w x a) (ha:a≤18446744073709551615) :
  Calls Tryz.prog 346 #[x] w fun e w'=>e= .returned (.int .u64 (a:Nat))∧w=w':=by
 obtain ⟨pa,ca,rfl,h1,h2,h3⟩:=nC.read hx.Fh;have:=yL pa ca _ w zo (by rw [aT zo];exact ha) h3
 rwa [aT zo] at this
theorem mV (a:Nat) (w:World) (ha:a≤18446744073709551615) :
  Calls Tryz.prog 314 #[.int .u64 a] w fun e w'=>∃ v,e= .returned v∧Below w.heap.size w w'∧aW w' v a:=aT3
def Bl (w:World) (g k:Nat) (pre u post v:List Nat) (e:Ending) (w':World):Prop :=
 e= .returned (.int .u32 (val 1000000000 u / val 1000000000 v:Nat))∧w.grownBy w' (some g) ∧
   ∃ s,ah w' g (dh (pre++(s++[0])++post)).toArray 61∧s.length=k+2∧dY 1000000000 s∧val 1000000000 s=val 1000000000 u%val 1000000000 v
theorem Da (g j k cu:Nat) (pv:Option Addr) (cv:Nat) (pre u post v:List Nat) (w:World) (hj:pre.length=j) (hu:u.length=k+3) (hv:v.length=k+2) (du:dY 1000000000 u) (dv:dY 1000000000 v) (hk:k≤1099511627776)
  (ht:1000000000≤2*v.getD (k+1) 0) (hlt:val 1000000000 u<val 1000000000 v*1000000000) (aN1:ah w g (dh (pre++u++post)).toArray 61)
  (hd:∀ i,i<k+2→∃ b off,pv=some ⟨b,off,none⟩∧b≠g∧b<w.heap.size∧w.cell? ⟨b,off+i,none⟩=some (.int .u32 (v.getD i 0:Nat))) :
  Calls Tryz.prog 333 #[.slice (some ⟨g,j,none⟩) (k+3) cu,.slice pv (k+2) cv] w (Bl w g k pre u post v):=aT2
def nV (w:World) (q r:Nat) (e:Ending) (w':World):Prop:=∃ vq vr,e= .returned (.tuple #[vq,vr])∧Below w.heap.size w w'∧aW w' vq q∧aW w' vr r
theorem Dm (x y:Value) (a b:Nat) (w:World) (hx:aW w x a) (hy:aW w y b) (h:a<b) :
  Calls Tryz.prog 313 #[x,y] w (nV w (a / b) (a%b)):=aT1
theorem AB (pa pb:Option Addr) (ca cb:Nat) (a b:Nat) (w:World) (hx:aW w (.slice pa (sz 1000000000 a) ca) a) (hy:aW w (.slice pb 1 cb) b) (hb0:0<b) (hb1:b<1000000000) (h:b≤a) (ha:sz 1000000000 a≤549755813888) :
  Calls Tryz.prog 313 #[.slice pa (sz 1000000000 a) ca,.slice pb 1 cb] w (nV w (a / b) (a%b)):=aT0
theorem Dl (pa pb:Option Addr) (ca cb:Nat) (a b k:Nat) (w:World) (hx:aW w (.slice pa (sz 1000000000 a) ca) a) (hy:aW w (.slice pb (k+2) cb) b) (hsb:sz 1000000000 b=k+2) (h:b≤a) (ha:sz 1000000000 a≤549755813888) :
  Calls Tryz.prog 313 #[.slice pa (sz 1000000000 a) ca,.slice pb (k+2) cb] w (nV w (a / b) (a%b)):=aS9
theorem gB (x y:Value) (a b:Nat) (w:World) (hx:aW w x a) (hy:aW w y b) (hb:0<b) (ha:sz 1000000000 a≤549755813888) :
  Calls Tryz.prog 313 #[x,y] w (nV w (a / b) (a%b)):=aS8
end Go.Proofs.whole
namespace Go.Proofs.whole
open Go Go.RowKit Go.SW Go.Num Go.Mem Go.Proofs Go.Proofs.fM Go.Dec
theorem Uh (B b d wd:Nat) (l:List UInt8) (w:World) (h:IsB B b (Lib.byteCells l) w) (hB:B≤w.heap.size) (hw:wd≤9) (hd:d<1000000000) (hl:l.length≤140737488355000) (ht:Pow w) :
  Calls Tryz.prog 328 #[.int .u32 d,.int .i64 wd,.pointer (some ⟨b,0,none⟩)] w fun e w'=>e= .returned (.tuple #[])∧IsB B b (Lib.byteCells (l++(List.replicate (wd - (Lib.decDigits d).length) 48++Lib.decDigits d))) w'∧Below B w w':=aS7
def Jt (w:World) (n:Nat) (e:Ending) (w':World):Prop:=e= .returned (.string ⟨(Lib.decDigits n).toArray⟩)∧Below w.heap.size w w'
theorem ug (x:Value) (a:Nat) (w:World) (hx:aW w x a) (ha:sz 1000000000 a≤1099511627776) (ht:Pow w) :
  Calls Tryz.prog 294 #[x] w (Jt w a):=aS6
theorem lg (x:Value) (a:Nat) (w:World) (hx:aW w x a) (ha:sz 1000000000 a≤1099511627776) (ht:Pow w) :
  Calls Tryz.prog 293 #[x] w (fun e w'=>e= .returned (.int .i64 ((Lib.decDigits a).length:Nat))∧Below w.heap.size w w'):=aS5
end Go.Proofs.whole
namespace Go.Proofs.whole
open Go Go.RowKit Go.SW Go.Num Go.Mem Go.Proofs
theorem aW.inj {w:World} {v:Value} {m n:Nat} (h:aW w v m) (k:aW w v n):m=n:=aS4
open Classical in
noncomputable def Ii (w:World) (v:Value):Nat:=if h:∃ n,aW w v n then h.choose else 0
theorem wF {w:World} {v:Value} {n:Nat} (h:aW w v n):Ii w v=n:=by
 unfold Ii;rw [dif_pos ⟨n,h⟩];exact aW.inj (Exists.choose_spec (⟨n,h⟩:∃ n,aW w v n)) h
theorem wM (x y:Value) (a b:Nat) (w:World) (hx:aW w x a) (hy:aW w y b) (ha:sz 1000000000 a≤549755813888) (hb:sz 1000000000 b≤549755813888) :
  Calls Tryz.prog 332 #[x,y] w (fun e w'=>∃ v,e= .returned v∧Below w.heap.size w w'∧aW w' v (Nat.gcd a b)):=aS3
end Go.Proofs.whole
namespace Go.Proofs.whole
open Go Go.RowKit Go.SW Go.Num Go.Mem Go.Proofs Go.Dec
theorem dS (m:Value) (n:Nat) (b:Bool) (w:World) (h:aW w m n) :
  Calls Tryz.prog 256 #[m,.bool b] w (fun e w'=>∃ v,e= .returned v∧Below w.heap.size w w'∧dH w' v (iD n b)):=aS2
theorem wC (v:Value) (z:Int) (w:World) (h:dH w v z) :
  Calls Tryz.prog 331 #[v] w (fun e w'=>∃ v,e= .returned v∧Below w.heap.size w w'∧dH w' v (-z)):=aS1
theorem Pv (pa pb:Option Addr) (l m ca cb:Nat) (z y:Int) (b:Bool) (w:World) (h:aW w (.slice pa l ca) z.natAbs) (h2:aW w (.slice pb m cb) y.natAbs) (hz:decide (z<0)=b) (hy:decide (y<0)=b) (kz:sz 1000000000 z.natAbs≤549755813888) (ky:sz 1000000000 y.natAbs≤549755813888) :
  Calls Tryz.prog 308 #[.agg #[.slice pa l ca,.bool b],.agg #[.slice pb m cb,.bool b]] w (fun e w'=>∃ v,e= .returned v∧Below w.heap.size w w'∧dH w' v (z+y)):=aS0
theorem Pw (pa pb:Option Addr) (l m ca cb:Nat) (z y:Int) (b:Bool) (w:World) (h:aW w (.slice pa l ca) z.natAbs) (h2:aW w (.slice pb m cb) y.natAbs) (hz:decide (z<0)=b) (hy:decide (y<0)= !b) (kz:sz 1000000000 z.natAbs≤549755813888) (ky:sz 1000000000 y.natAbs≤549755813888) :
  Calls Tryz.prog 308 #[.agg #[.slice pa l ca,.bool b],.agg #[.slice pb m cb,.bool !b]] w (fun e w'=>∃ v,e= .returned v∧Below w.heap.size w w'∧dH w' v (z+y)):=aR9
theorem yI (v u:Value) (z y:Int) (w:World) (h:dH w v z) (h2:dH w u y) (kz:sz 1000000000 z.natAbs≤549755813888) (ky:sz 1000000000 y.natAbs≤549755813888) :
  Calls Tryz.prog 308 #[v,u] w (fun e w'=>∃ v,e= .returned v∧Below w.heap.size w w'∧dH w' v (z+y)):=aR8
end Go.Proofs.whole
namespace Go.Proofs.whole
open Go Go.RowKit Go.SW Go.Num Go.Mem Go.Proofs
theorem Qb (x:Value) (a k:Nat) (w:World) (hx:aW w x a) (hk:k≤9223372036854775807) (hb:∀ i,i≤k→sz 1000000000 (a^i)≤1099511627776) (ha:sz 1000000000 a≤1099511627776) :
  Calls Tryz.prog 257 #[x,.int .i64 (k:Int)] w (fun e w'=>∃ v,e= .returned v∧Below w.heap.size w w'∧aW w' v (a^k)):=by
 have hmf:∀ (fn:Fn) (first cap:Array Value) (w:World),(Instr.makeFunc fn first cap).run Tryz.prog w= .ok (.func fn first cap) w:=fun _ _ _ _=>rfl;obtain ⟨pa,l,ca,rfl⟩:=hx.slice;have HX:=zh hx;have HBD:=zh hb;have HA:=zh ha;clear hx hb ha;go_enter Tryz.func257,Tryz.ntmps257
 go_wp2_with fail
 have hb1:Below w.heap.size w (w.alloc (.cells #[.int .u32 1] 61)):=au;have h1:Hid (aW (w.alloc (.cells #[.int .u32 1] 61)) (.slice (some ⟨w.heap.size,0,none⟩) 1 1) 1):=zh (by have:=aW.lit (w:=w) (d:=1) zo zo;simpa using this);obtain ⟨w1,EW⟩:∃ y,w.alloc (.cells #[.int .u32 1] 61)=y:=⟨_,rfl⟩;rw [EW] at hb1 h1 ⊢;have HB1:=zh hb1;clear EW hb1
 go_loopw [5,11] (fun pv iv wr=>∃ i:Nat,iv= .int .i64 (i:Int)∧i≤k∧Hid (aW wr pv (a^i))∧Below w1.heap.size w1 wr) (fun _ iv _=>k - (intOf iv).toNat)
 case atStart=>exact ⟨0,rfl,by omega,zh (by rw [Nat.pow_zero];exact h1.out),Below.refl _ _⟩
 case round =>
  obtain ⟨i,rfl,hi,HP,hb⟩:=hrel;obtain ⟨pp,lp,cp,rfl⟩:=HP.out.slice
  rcases Nat.lt_or_ge i k with hlt|hge
  ·have HT:=zh (jm _ _ a (a^i) wr (HX.out.later (Bt HB1.out hb)) HP.out HA.out (HBD.out i hi));go_wp2_with fail
   refine HT.out.mono ?_;rintro e w2 ⟨v,rfl,hb2,hv⟩;obtain ⟨pq,lq,cq,rfl⟩:=hv.slice;have nG:Hid (aW w2 (.slice pq lq cq) (a^(i+1))):=zh (by rw [Nat.pow_succ,Nat.mul_comm];exact hv);have hz:=Bt hb hb2;clear hv hb2 HT HP;go_wp2_with fail
   go_roundw
   case rel=>exact ⟨i+1,by go_num,by omega,nG,hz⟩
   case measure=>exact zM
  ·obtain rfl:i=k:=by omega
   go_wp2_with fail
   go_ret
   exact ⟨_,rfl,Bt HB1.out hb,HP.out⟩
theorem ad6 (k d:Nat):(List.replicate (k+1) 0).set k d=List.replicate k 0++[d]:=by
 rw [List.replicate_succ'];rw [List.set_append_right _ _ zi];simp
theorem au2 {w:World} {v:Value} {k d:Nat} (h:nC w v ((List.replicate (k+1) 0).set k d)) (h0:0<d) (h1:d<1000000000):aW w v (1000000000^k*d):=by
 rw [ad6] at h
 have:=aW.Uy h (fun x hx=>by
  rcases List.mem_append.1 hx with hx|hx
  ·rw [List.eq_of_mem_replicate hx];omega
  ·simp at hx;omega) (fun j hj=>by
  have e:j=k:=by simpa using hj.symm
  subst e;rw [List.getD_eq_getElem?_getD,List.getElem?_append_right zi];simp
  omega)
 rwa [iG,xg,List.length_replicate,Nat.zero_add] at this
theorem uH (n:Nat) (hn:n≤100000) (w:World) :
  Calls Tryz.prog 312 #[.int .i64 (n:Int)] w (fun e w'=>∃ v,e= .returned v∧Below w.heap.size w w'∧aW w' v (10^n)):=by
 obtain ⟨i0,hi,hz0,hz1,hz2⟩:=info_parts Dg;have W0:∀ z:Int,0≤z∧z≤1000000000→IntKind.i64.wrap z=z:=fun z h=>by unfold IntKind.wrap;simp [IntKind.bits,IntKind.signed];omega
 obtain ⟨k,hk⟩:∃ k,n / 9=k:=⟨_,rfl⟩;obtain ⟨r,hr⟩:∃ r,n%9=r:=⟨_,rfl⟩
 have e10:10^n=1000000000^k*10^r:=by
  rw [show (1000000000:Nat)=10^9 by decide,← Nat.pow_mul,← Nat.pow_add]
  congr 1
  omega
 rw [e10];have t1:(n:Int).tdiv 9=(k:Int):=by rw [Int.tdiv_eq_ediv_of_nonneg zo];omega
 have t2:(n:Int).tmod 9=(r:Int):=by rw [Int.tmod_eq_emod_of_nonneg zo];omega
 have u1:=W0 (k:Int) zo;have u2:=W0 ((k:Int)+1) zo;have u3:=W0 (r:Int) zo;have hr8:r≤8:=by omega
 have hk9:k≤100000:=by omega
 have HT:Hid (∀ i,i≤r→0<10^i∧10^i≤100000000):=zh fun i hi=>⟨Nat.pow_pos zo,Nat.le_trans (Nat.pow_le_pow_right zo (show i≤8 by omega)) zd⟩;clear e10 hk hr W0;go_enter Tryz.func312,Tryz.ntmps312
 go_wp2_with (at_make;refine wpList_make_full _ rfl _ _ 255 rfl w.heap.size 61 i0 (.int .u32 0) 1 Tryz.underlying255 hi hz0 hz1 _ _ _ _ (k+1) rfl rfl zo zo (by rw [hz2];omega) (by unfold maxLen;omega) (Nat.le_refl _) ?_)
 intro w0 hown0 jQ;rw [tL] at hown0;have hb0:Below w.heap.size w w0:=(Below.refl _ _).grown jQ (Nat.le_refl _) (fun k h=>by cases h);have HO:=zh hown0;have HB:=zh hb0;clear hown0 jQ hb0;go_wp2_with fail
 go_loopw [4,11] (fun tv iv wr=>∃ i:Nat,iv= .int .i64 (i:Int)∧i≤r∧tv= .int .u32 ((10^i:Nat):Int)∧wr=w0) (fun _ iv _=>r - (intOf iv).toNat)
 case atStart=>exact ⟨0,rfl,by omega,rfl,rfl⟩
 case round =>
  obtain ⟨i,rfl,hi,rfl,rfl⟩:=hrel;obtain ⟨h1,h2⟩:=HT.out i hi
  rcases Nat.lt_or_ge i r with hlt|hge
  ·have h3:=(HT.out (i+1) zo).2;obtain ⟨b,hB⟩:∃ b,Hid (10^(i+1)=b):=⟨_,zh rfl⟩;rw [hB.out] at h3;have e:((10^i:Nat):Int)*10=(b:Int):=by rw [← hB.out,Nat.pow_succ];omega
   have he:IntKind.u32.wrap (((10^i:Nat):Int)*10)=(b:Int):=by rw [e];unfold IntKind.wrap;simp [IntKind.bits,IntKind.signed];omega
   clear e h3 h1 h2;generalize 10^i=a at *;go_wp2_with fail
   go_roundw
   case rel=>exact ⟨i+1,by go_num,by omega,by rw [hB.out],trivial⟩
   case measure=>exact zM
  ·obtain rfl:i=r:=by omega
   obtain ⟨d,hD⟩:∃ d,Hid (10^i=d):=⟨_,zh rfl⟩;rw [hD.out] at h1 h2 ⊢;have q1:wr.cell? ⟨w.heap.size,k,none⟩=some (.int .u32 0):=by rw [HO.out.cellAt k zo,nW zi];simp
   have q2:wr.frozen? ⟨w.heap.size,k,none⟩=false:=HO.out.frozenAt k
   have HS:Hid (aW (wr.setCell ⟨w.heap.size,k,none⟩ (.int .u32 (d:Int))) (.slice (some ⟨w.heap.size,0,none⟩) (k+1) (k+1)) (1000000000^k*d)):=zh (by
    have h3:=(HO.out.stored k (.int .u32 (d:Int))).1;rw [kH] at h3;exact au2 (nC.fV h3) h1 zo)
   have hb:Below w.heap.size w (wr.setCell ⟨w.heap.size,k,none⟩ (.int .u32 (d:Int))):=HB.out.setCell (Nat.le_refl _) _;go_wp2_with fail
   go_ret
   exact ⟨_,rfl,hb,by rw [hD.out];exact HS.out⟩
end Go.Proofs.whole
namespace Go.Proofs.whole
open Go Go.RowKit Go.SW Go.Num Go.Mem Go.Proofs Go.Dec
theorem Bv {y s:Nat} (hy:sz 1000000000 y≤s):∀ i,sz 1000000000 (y^i)≤s*i+1
 | 0=>aX zo _ _ (by rw [Nat.mul_zero,Nat.pow_zero];decide)
 | i+1=>by
  rw [Nat.pow_succ];have h:=kC (B:=1000000000) zo (y^i) y;have:=Bv hy i;rw [Nat.mul_succ];omega
theorem aH2 {l:Nat}:sz 1000000000 (10^l)≤l+1:=by
 refine aX zo _ _ ?_;have h1:10^l≤1000000000^l:=Nat.pow_le_pow_left zo l;have h2:1000000000^l<1000000000^(l+1):=Nat.pow_lt_pow_right zo zo;omega
theorem Aa (x:Value) (a k:Nat) (w:World) (hx:aW w x a) (hk:1≤k) (k12:k≤12) (hl:(Lib.decDigits a).length≤10000) (ha:sz 1000000000 a≤10000) (ht:fM.Pow w) :
  Calls Tryz.prog 278 #[x,.int .i64 (k:Int)] w (fun e w'=>∃ v,e= .returned v∧Below w.heap.size w w'∧aW w' v (dX k a)):=by
 obtain ⟨pa,la,ca,rfl⟩:=hx.slice
 rcases Nat.eq_zero_or_pos a with rfl|ha0
 ·have hr:dX k 0=0:=Nat.le_antisymm (Qz hk (by rw [Nat.zero_add,Nat.one_pow];omega)) (Nat.zero_le _);rw [hr];have HX:=zh hx;clear hx hl ha ht hr;go_enter Tryz.func278,Tryz.ntmps278
  go_wp2_with fail
  refine (gW _ 0 _ HX.out).mono ?_;rintro e w1 ⟨rfl,rfl⟩;go_wp2_with fail
  go_ret
  exact ⟨_,rfl,Below.refl _ _,aW.zero _⟩
 ·have W0:∀ z:Int,0≤z∧z≤1000000000→IntKind.i64.wrap z=z:=fun z h=>by unfold IntKind.wrap;simp [IntKind.bits,IntKind.signed];omega
  have d0:decide (a=0)=false:=by simp;omega
  have hs:=Uz (k:=k) (m:=a) hk (Jd a);obtain ⟨l,El⟩:∃ l,Hid ((Lib.decDigits a).length=l):=⟨_,zh rfl⟩;have HLEN:=zh (fun W (hW:Below w.heap.size w W)=>lg _ a W (hx.later hW) (Nat.le_trans ha zo) (ht.later hW));rw [El.out] at hs hl HLEN;obtain ⟨j,Ej⟩:∃ j,l / k=j:=⟨_,rfl⟩;have hjl:j≤l:=by rw [← Ej];exact Nat.div_le_self _ _
  have t1:(l:Int).tdiv (k:Int)=(j:Int):=by rw [Int.tdiv_eq_ediv_of_nonneg zo,← Ej];rfl
  rw [Ej] at hs;have kz:¬ k=0:=by omega
  have kz2:(k:Int)≠0:=by omega
  have kz3:((k:Int) == 0)=false:=by simp;omega
  have u1:=W0 (j:Int) zo;have u2:=W0 ((j:Int)+1) zo;obtain ⟨m,hm⟩:∃ m,Hid (k=m+1):=⟨k - 1,zh zo⟩;have e1:(k:Int) - 1=(m:Int):=by have:=hm.out;omega
  have bA7:m≤11:=by have:=hm.out;omega
  have u3:=W0 (m:Int) zo;have u4:IntKind.u64.wrap (m:Int)=(m:Int):=by unfold IntKind.wrap;simp [IntKind.bits,IntKind.signed];omega
  have u5:IntKind.u32.wrap (k:Int)=(k:Int):=by unfold IntKind.wrap;simp [IntKind.bits,IntKind.signed];omega
  have br7:=zh (fun W=>uH (j+1) zo W);have HX:=zh hx;have HA:=zh ha;have HS:=zh hs;have HA0:=zh ha0;have HRP:Hid (1≤dX k a):=zh (Aj hk (by rw [Nat.one_pow];exact ha0));clear hx ha hs ht W0 Ej;go_enter Tryz.func278,Tryz.ntmps278
  go_wp2_with fail
  refine (gW _ a _ HX.out).mono ?_;rintro e w1 ⟨rfl,rfl⟩;rw [d0];go_wp2_with fail
  refine (HLEN.out _ (Below.refl _ _)).mono ?_;rintro e w2 ⟨rfl,hb2⟩;go_wp2_with fail
  refine (br7.out _).mono ?_;rintro e w3 ⟨v,rfl,hb3,hv⟩;obtain ⟨pv,lv,cv,rfl⟩:=hv.slice;have HV:=zh hv;have HB:=zh (Bt hb2 hb3);clear hv hb2 hb3;go_wp2_with fail
  go_loopw [5] (fun xv wr=>∃ y:Nat,Hid (aW wr xv y)∧Hid (dX k a≤y∧y≤10^(j+1))∧Below w.heap.size w wr) (fun xv wr=>Ii wr xv)
  case atStart=>exact ⟨_,HV,zh ⟨HS.out,Nat.le_refl _⟩,HB.out⟩
  case round =>
   obtain ⟨y,HY,HR,hb⟩:=hrel;obtain ⟨py,ly,cy,rfl⟩:=HY.out.slice;have hy0:0<y:=by have:=HR.out.1;have:=HRP.out;omega
   have hys:sz 1000000000 y≤10002:=Nat.le_trans (dB zo HR.out.2) (Nat.le_trans aH2 zo);have WA:=zh (Qb _ y m wr HY.out zo (fun i hi=>Nat.le_trans (Bv hys i) (by have:=Nat.mul_le_mul_left 10002 (show i≤12 by omega);omega)) (Nat.le_trans hys zo));have HYS:=zh hys;have HY0:=zh hy0;have HBr:=zh hb;clear hb hys hy0;go_wp2_with fail
   refine WA.out.mono ?_;rintro e w4 ⟨v4,rfl,hb4,hv4⟩;obtain ⟨p4,l4,c4,rfl⟩:=hv4.slice;have HV4:=zh hv4;have HB4:=zh hb4;clear hv4 hb4 WA;have HD:=zh (gB _ _ a (y^m) _ (HX.out.later (Bt HBr.out HB4.out)) HV4.out (Nat.pow_pos HY0.out) (Nat.le_trans HA.out zo));go_wp2_with fail
   refine HD.out.mono ?_;rintro e w5 ⟨v5,v6,rfl,hb5,hv5, -⟩;obtain ⟨p5,l5,c5,rfl⟩:=hv5.slice;have HV5:=zh hv5;have HB5:=zh (Bt HB4.out hb5);clear hv5 hb5 HD HV4 HB4;go_wp2_with fail
   refine (mV m _ zo).mono ?_;rintro e w6 ⟨v7,rfl,hb6,hv6⟩;obtain ⟨p6,l6,c6,rfl⟩:=hv6.slice;have sm:sz 1000000000 m≤2:=aX zo 2 _ zo;have HM:=zh (jm _ _ y m _ (HY.out.later (Bt HB5.out hb6)) hv6 (Nat.le_trans HYS.out zo) (Nat.le_trans sm zo));have bg1:=zh (HV5.out.later hb6);have HB6:=zh (Bt HB5.out hb6);clear hv6 hb6 HV5 HB5;go_wp2_with fail
   refine HM.out.mono ?_;rintro e w7 ⟨v8,rfl,fK,hv7⟩;obtain ⟨p7,l7,c7,rfl⟩:=hv7.slice
   have s7:sz 1000000000 (y*m)≤10100:=by
    have h1:=kC (B:=1000000000) zo y m;have h2:=HYS.out;omega
   have s5:sz 1000000000 (a / y^m)≤10000:=Nat.le_trans (dB zo (Nat.div_le_self _ _)) HA.out;have HP:=zh (DX _ _ (y*m) (a / y^m) _ hv7 (bg1.out.later fK) (Nat.le_trans s7 zo) (Nat.le_trans s5 zo))
   have bg4:Hid (sz 1000000000 (y*m+a / y^m)≤1099511627776):=zh (by
    have:=yH (B:=1000000000) zo (y*m) (a / y^m);omega)
   have HB7:=zh (Bt HB6.out fK);clear hv7 fK HM bg1 HB6 s7 s5;go_wp2_with fail
   refine HP.out.mono ?_;rintro e w8 ⟨v9,rfl,oK,kD⟩;obtain ⟨p8,l8,c8,rfl⟩:=kD.slice;have HSH:=zh (zQ _ _ k _ kD bg4.out zo zo);have HB8:=zh (Bt HB7.out oK);clear kD oK HP bg4 HB7;have en:(y*m+a / y^m) / k=UA k a y:=by unfold UA;rw [show k - 1=m by have:=hm.out;omega]
   rw [en] at HSH;obtain ⟨z,Ez⟩:∃ z,Hid (UA k a y=z):=⟨_,zh rfl⟩;rw [Ez.out] at HSH;clear en;go_wp2_with fail
   refine HSH.out.mono ?_;rintro e w9 ⟨v10,rfl,qW,hv9⟩;obtain ⟨p9,l9,c9,rfl⟩:=hv9.slice;have HV9:=zh hv9;have HB9:=zh (Bt HB8.out qW);have HCM:=zh (jh _ _ z y _ hv9 (HY.out.later (Bt HB8.out qW)));clear hv9 qW HSH HB8;go_wp2_with fail
   refine HCM.out.mono ?_;rintro e w10 ⟨rfl,eX⟩;have aR6:=zh (Bt HB9.out eX);have bg3:=zh (HV9.out.later eX);have HYZ:=zh (HY.out.later aR6.out);clear HCM HB9 HV9 eX
   rcases Nat.lt_or_ge z y with hlt|hge
   ·rw [rZ hlt];have hz:=Bt HBr.out aR6.out;go_wp2_with fail
    go_roundw
    case rel=>exact ⟨z,bg3,zh ⟨by rw [← Ez.out];exact ay2 hk HY0.out,by have:=HR.out.2;omega⟩,hz⟩
    case measure=>rw [wF bg3.out,wF HY.out];exact hlt
   ·have g:decide ((0:Int)≤yN z y)=true:=by
     rcases Nat.eq_or_lt_of_le hge with h|h
     ·rw [h,uL];rfl
     ·rw [qz h];rfl
    have hw:=Bt HBr.out aR6.out;have HE:Hid (y=dX k a):=zh (ai3 hk HY0.out HR.out.1 (by rw [Ez.out];exact hge));go_wp2_with fail
    go_ret
    exact ⟨_,rfl,hw,by rw [← HE.out];exact HYZ.out⟩
end Go.Proofs.whole
namespace Go.Proofs.whole
open Go Go.RowKit Go.SW Go.Num Go.Mem Go.Proofs Go.Dec Go.eF
def DL (z:Int):Value:=if jG z.natAbs=true then .tuple #[bW z,.int .i64 0] else .tuple #[.string ⟨#[]⟩,.int .i64 6]
theorem kF (v:Value) (z:Int) (w:World) (h:dH w v z) (kz:sz 1000000000 z.natAbs≤1099511627776) (ht:fM.Pow w) :
  Calls Tryz.prog 255 #[v] w (fun e w'=>e= .returned (DL z)∧Below w.heap.size w w'):=by
 obtain ⟨pa,l,ca,rfl,hm⟩:=h
 have hlen:((1+(Lib.decDigits z.natAbs).length:Nat):Int)≤9223372036854775807:=by
  have h1:=wQ (aZ (B:=1000000000) zo z.natAbs);rw [aT zo] at h1;unfold sz at kz;omega
 have aF3:¬ 9223372036854775807<1+(Lib.decDigits z.natAbs).length:=by omega
 have Mj:=zh (fun W (hW:Below w.heap.size w W)=>lg _ z.natAbs W (hm.later hW) kz (ht.later hW));have HDI:=zh (fun W (hW:Below w.heap.size w W)=>ug _ z.natAbs W (hm.later hW) kz (ht.later hW));unfold DL;clear hm kz ht hlen
 rcases Nat.lt_or_ge 600 (Lib.decDigits z.natAbs).length with hb|hb
 ·rw [if_neg (by rw [Uu hb];decide)];have g:decide ((600:Int)<((Lib.decDigits z.natAbs).length:Int))=true:=by simp;omega
  clear hb aF3;generalize (Lib.decDigits z.natAbs).length=n at *;generalize decide (z<0)=b at *;go_enter Tryz.func255,Tryz.ntmps255
  go_wp2_with fail
  refine (Mj.out _ au).mono ?_;rintro e w1 ⟨rfl,hb1⟩;have hw:=Bt (show Below w.heap.size w (w.alloc (.cells #[.slice pa l ca,.bool b] 257)) from au) hb1;go_wp2_with fail
  go_ret2
  exact ⟨rfl,hw⟩
 ·rw [if_pos (dQ.2 hb)];have g:decide ((600:Int)<((Lib.decDigits z.natAbs).length:Int))=false:=by simp;omega
  by_cases hz:z<0
  ·have e:bW z= .string ⟨(45::Lib.decDigits z.natAbs).toArray⟩:=by unfold bW Lib.itoa;rw [if_pos hz]
   rw [e,decide_eq_true hz];clear e hz hb;go_enter Tryz.func255,Tryz.ntmps255
   go_wp2_with fail
   refine (Mj.out _ au).mono ?_;rintro e w1 ⟨rfl,hb1⟩;have hx:=ah.later (ah.new w #[.slice pa l ca,.bool true] 257) hb1;have cx:=hx.cell;have lx:=hx.lt;have HW:=zh (Bt (show Below w.heap.size w (w.alloc (.cells #[.slice pa l ca,.bool true] 257)) from au) hb1);go_wp2_with fail
   refine (HDI.out _ HW.out).mono ?_;rintro e w2 ⟨rfl,hb2⟩;have hw:=Bt HW.out hb2;go_wp2_with fail
   go_ret2
   exact ⟨rfl,hw⟩
  ·have e:bW z= .string ⟨(Lib.decDigits z.natAbs).toArray⟩:=by unfold bW Lib.itoa;rw [if_neg hz,show z.toNat=z.natAbs by omega]
   rw [e,decide_eq_false hz];clear e hz hb;go_enter Tryz.func255,Tryz.ntmps255
   go_wp2_with fail
   refine (Mj.out _ au).mono ?_;rintro e w1 ⟨rfl,hb1⟩;have hx:=ah.later (ah.new w #[.slice pa l ca,.bool false] 257) hb1;have cx:=hx.cell;have lx:=hx.lt;have HW:=zh (Bt (show Below w.heap.size w (w.alloc (.cells #[.slice pa l ca,.bool false] 257)) from au) hb1);go_wp2_with fail
   refine (HDI.out _ HW.out).mono ?_;rintro e w2 ⟨rfl,hb2⟩;have hw:=Bt HW.out hb2;go_wp2_with fail
   go_ret2
   exact ⟨rfl,hw⟩
theorem sF {a b:Nat} (h:jG b=true) (hab:a≤b):jG a=true:=by
 unfold jG at *;have:=of_decide_eq_true h;exact decide_eq_true zo
theorem qG {k a:Nat} (hk:1≤k):dX k a≤a:=by
 have h:=(kR hk a).1
 rcases Nat.eq_zero_or_pos (dX k a) with h0|h0
 ·omega
 ·have:=Nat.le_self_pow (by omega:k≠0) (dX k a);omega
theorem vP {a:Nat} (h:jG a=true):DL (a:Int)= .tuple #[bW (a:Int),.int .i64 0]:=by
 unfold DL;rw [Int.natAbs_natCast,if_pos h]
theorem Bh (a k:Nat) (ha:jG a=true) (hk:1≤k) (k12:k≤12) (w:World) (ht:fM.Pow w) :
  Calls Tryz.prog 232 #[bW (a:Int),.int .i64 (k:Int)] w (fun e w'=>e= .returned (.tuple #[bW (dX k a:Nat),.int .i64 0])∧Below w.heap.size w w'):=by
 have hd:(Lib.decDigits a).length≤600:=dQ.1 ha;have hs:=jP ha;have hro:jG (dX k a)=true:=sF ha (qG hk);have HR:=zh (fun W=>Ac (a:Int) (by rw [Int.natAbs_natCast];exact hd) W);have HRT:=zh (fun x W hx hp=>Aa x a k W hx hk k12 zo zo hp);have Tk:=zh (fun v W h hp=>kF v (dX k a:Nat) W h (by rw [Int.natAbs_natCast];exact Nat.le_trans (jP hro) zo) hp);rw [vP hro] at Tk;have HP:=zh ht;have g0:decide ((a:Int)<0)=false:=by simp
 have g1:decide ((k:Int)<1)=false:=by simp;omega
 have g2:decide ((12:Int)<(k:Int))=false:=by simp;omega
 clear hd hs hro ha ht;obtain ⟨r,Er⟩:∃ r,dX k a=r:=⟨_,rfl⟩;rw [Er] at HRT Tk ⊢;clear Er;unfold bW at HR Tk ⊢;generalize (⟨(Lib.itoa (a:Int)).toArray⟩:ByteArray)=ta at *;generalize (⟨(Lib.itoa (r:Int)).toArray⟩:ByteArray)=tr at *;go_enter Tryz.func232,Tryz.ntmps232
 go_wp2_with fail
 refine (HR.out _).mono ?_;rintro e w1 ⟨v,rfl,hb1,hv⟩;obtain ⟨pa,l,ca,rfl,hm⟩:=hv;rw [Int.natAbs_natCast] at hm;rw [g0];have HM:=zh hm;have HB1:=zh hb1;clear hm hb1;go_wp2_with fail
 have hb2:Below w1.heap.size w1 (w1.alloc (.cells #[.slice pa l ca,.bool false] 257)):=au;refine (HRT.out _ _ (HM.out.later hb2) (HP.out.later (Bt HB1.out hb2))).mono ?_;rintro e w2 ⟨v,rfl,hb3,hv⟩;obtain ⟨p2,l2,c2,rfl⟩:=hv.slice;have HM2:=zh hv;have HB2:=zh (Bt HB1.out (Bt hb2 hb3));clear hv hb2 hb3;go_wp2_with fail
 refine (dS _ r false _ HM2.out).mono ?_;rintro e w3 ⟨v,rfl,hb4,hv⟩;obtain ⟨p3,l3,c3,rfl,hm3⟩:=id hv;have HI:=zh (hv.cast (show iD r false=(r:Int) from rfl));have HB3:=zh (Bt HB2.out hb4);have g3:decide (iD r false<0)=false:=by unfold iD;simp
 rw [g3] at HI ⊢;clear hv hm3 hb4;go_wp2_with fail
 refine (Tk.out _ _ HI.out (HP.out.later HB3.out)).mono ?_;rintro e w4 ⟨rfl,hb5⟩;have hw:=Bt HB3.out hb5;go_wp2_with fail
 go_ret2
 exact ⟨rfl,hw⟩
theorem zx (a n:Nat) (ha:jG a=true) (n40:n≤40) (w:World) (ht:fM.Pow w) :
  Calls Tryz.prog 200 #[bW (a:Int),.int .i64 (n:Int)] w (fun e w'=>e= .returned (DL (a^n:Nat))∧Below w.heap.size w w'):=by
 have hd:(Lib.decDigits a).length≤600:=dQ.1 ha;have hs:=jP ha;have hp:∀ i,i≤n→sz 1000000000 (a^i)≤10000:=fun i hi=>Nat.le_trans (Bv hs i) (by have:=Nat.mul_le_mul_left 67 (show i≤40 by omega);omega);have HR:=zh (fun W=>Ac (a:Int) (by rw [Int.natAbs_natCast];exact hd) W);have HRT:=zh (fun x W hx=>Qb x a n W hx zo (fun i hi=>Nat.le_trans (hp i hi) zo) zo);have Tk:=zh (fun v W h hq=>kF v (a^n:Nat) W h (by rw [Int.natAbs_natCast];exact Nat.le_trans (hp n (Nat.le_refl _)) zo) hq);have HP:=zh ht;have g0:decide ((a:Int)<0)=false:=by simp
 have g1:decide ((n:Int)<0)=false:=by simp
 have g2:decide ((40:Int)<(n:Int))=false:=by simp;omega
 clear hd hs hp ha ht;obtain ⟨r,Er⟩:∃ r,a^n=r:=⟨_,rfl⟩;rw [Er] at HRT Tk ⊢;clear Er
 obtain ⟨tr,kr,Ew⟩:∃ tr kr,DL (r:Int)= .tuple #[.string tr,.int .i64 kr]:=by
  unfold DL bW;split
  ·exact ⟨_,_,rfl⟩
  ·exact ⟨_,_,rfl⟩
 rw [Ew] at Tk ⊢;clear Ew;unfold bW at HR ⊢;generalize (⟨(Lib.itoa (a:Int)).toArray⟩:ByteArray)=ta at *;go_enter Tryz.func200,Tryz.ntmps200
 go_wp2_with fail
 refine (HR.out _).mono ?_;rintro e w1 ⟨v,rfl,hb1,hv⟩;obtain ⟨pa,l,ca,rfl,hm⟩:=hv;rw [Int.natAbs_natCast] at hm;rw [g0];have HM:=zh hm;have HB1:=zh hb1;clear hm hb1;go_wp2_with fail
 obtain ⟨wx,EW,hz,X⟩:=rG w1 #[.slice pa l ca,.bool false] 257;rw [EW];clear EW;replace HM:=zh (HM.out.later hz);have HB2:=zh (Bt HB1.out hz);clear hz HB1;obtain ⟨bx,eb⟩:∃ y,w1.heap.size=y:=⟨_,rfl⟩;rw [eb] at X ⊢;have cX:=X.out.cell;have lX:=X.out.lt;refine aC [(.pure,0),(.read,1),(.pure,2),(.pure,4),(.read,5),(.ext,3),(.pure,6),(.pure,7),(.pure,8),(.pure,9),(.pure,10),(.ext,11),(.ext,12),(.pure,13),(.pure,14),(.fin,15),(.fin,16)] zk zk zR zP ?_;refine zW ?_;refine aH rfl rfl (fun we hbe J hJ=>?_);go_simp;have h1:Below wx.heap.size wx we:=au;refine (HRT.out _ _ (HM.out.later h1)).mono ?_;rintro e w2 ⟨v,rfl,hb2,hv⟩;obtain ⟨p2,l2,c2,rfl⟩:=hv.slice;refine hJ _ _ hb2 ?_;clear hJ J;have HM2:=zh hv;have h2:=Bt h1 hb2;clear hv h1 hbe hb2
 repeat (first|(refine qo rfl rfl (fun J hJ=>?_);go_simp;refine hJ _ ?_;clear hJ J)|(refine wZ rfl rfl rfl (fun J hJ=>?_);go_simp;refine hJ _ ?_;clear hJ J))
 refine aH rfl rfl (fun we hbe J hJ=>?_);go_simp;have h3:Below w2.heap.size w2 we:=au;refine (dS _ r false _ (HM2.out.later h3)).mono ?_;rintro e w3 ⟨v,rfl,hb3,hv⟩;obtain ⟨p3,l3,c3,rfl,hm3⟩:=id hv;have HI:=zh (hv.cast (show iD r false=(r:Int) from rfl));have g3:decide (iD r false<0)=false:=by unfold iD;simp
 rw [g3] at HI ⊢;refine hJ _ _ hb3 ?_;clear hJ J;have h4:=Bt h2 (Bt h3 hb3);clear hv hm3 hb3 h3 h2 hbe
 repeat (first|(refine qo rfl rfl (fun J hJ=>?_);go_simp;refine hJ _ ?_;clear hJ J)|(refine wZ rfl rfl rfl (fun J hJ=>?_);go_simp;refine hJ _ ?_;clear hJ J))
 refine aH rfl rfl (fun we hbe J hJ=>?_);go_simp;have h5:Below w3.heap.size w3 we:=au;refine (Tk.out _ _ (HI.out.later h5) (HP.out.later (Bt HB2.out (Bt h4 h5)))).mono ?_;rintro e w4 ⟨rfl,hb4⟩;refine hJ _ _ hb4 ?_;clear hJ J;have h6:=Bt h4 (Bt h5 hb4);clear hb4 h5 h4 hbe
 repeat (first|(refine qo rfl rfl (fun J hJ=>?_);go_simp;refine hJ _ ?_;clear hJ J)|(refine wZ rfl rfl rfl (fun J hJ=>?_);go_simp;refine hJ _ ?_;clear hJ J))
 refine aQ [_,_] rfl (fun wf hbf=>?_);have hw:Below w.heap.size w wf:=Bt HB2.out (Bt h6 au);go_wp2_with fail
 go_ret2
 exact ⟨rfl,hw⟩
end Go.Proofs.whole
namespace Go.Mem
open Go Go.RowKit
section
variable {P:Program} {fn:Func} {R:Ending→World→Prop} {w:World} {tmps:Array Value}
theorem PO {p q u:Tmp} {ty Dw:TypeId} (h:fn.results=#[.cell p ty,.cell q Dw,.tmp u]) :
  (results fn tmps).run P w=((asAddr (tmps.getD p undef)).run P w).andThen fun a w₁=>((loadVar ty a).run P w₁).andThen fun v w₂=>((asAddr (tmps.getD q undef)).run P w₂).andThen fun a' w₃=>((loadVar Dw a').run P w₃).andThen fun v' w₄=>.ok (.tuple #[v,v',tmps.getD u undef]) w₄:=by
 simp only [results,h];simp [Sem.run_bind,Result.andThen]
theorem av7 {p q u:Tmp} {ty Dw t t2:TypeId} {g g2:Nat} {cs cs2:Array Value} {d d2:TypeDesc} (h:fn.results=#[.cell p ty,.cell q Dw,.tmp u])
  (hp:tmps.getD p undef= .pointer (some ⟨g,0,none⟩)) (hg:ah w g cs t) (hu:P.underlying ty=some d) (hd:(match d with| .struct _| .array _ _=>true| _=>false)=true) (hi:(P.info? ty).map (·.size)=some cs.size)
  (hp2:tmps.getD q undef= .pointer (some ⟨g2,0,none⟩)) (hg2:ah w g2 cs2 t2) (hu2:P.underlying Dw=some d2) (hd2:(match d2 with| .struct _| .array _ _=>true| _=>false)=true) (hi2:(P.info? Dw).map (·.size)=some cs2.size)
  (k:R (.returned (.tuple #[.agg cs,.agg cs2,tmps.getD u undef])) w):bodyPost P fn R .ret { tmps:=tmps,defers:=[] } w:=by
 have e:(results fn tmps).run P w= .ok (.tuple #[.agg cs,.agg cs2,tmps.getD u undef]) w:=by
  rw [PO h,hp];simp only [asAddr,Sem.run_pure,Result.andThen_ok];rw [run_loadVar_row w g t ty cs (0,0) d hg hu hd hi];simp only [Result.andThen_ok];rw [hp2];simp only [asAddr,Sem.run_pure,Result.andThen_ok];rw [run_loadVar_row w g2 t2 Dw cs2 (0,0) d2 hg2 hu2 hd2 hi2];rfl
 refine bodyPost_ret e rfl k
end
end Go.Mem
namespace Go.Proofs.whole
open Go Go.RowKit Go.SW Go.Num Go.Mem Go.Proofs Go.Dec Go.eF
theorem Nl (a b:Nat) (ha:(Lib.decDigits a).length≤600) (hb:(Lib.decDigits b).length≤600) (w:World) :
  Calls Tryz.prog 307 #[bW (a:Int),bW (b:Int)] w (fun e w'=>∃ p1 l1 c1 p2 l2 c2,e= .returned (.tuple #[.agg #[.slice p1 l1 c1,.bool false],.agg #[.slice p2 l2 c2,.bool false],.int .i64 0])∧Below w.heap.size w w'∧aW w' (.slice p1 l1 c1) a∧aW w' (.slice p2 l2 c2) b):=by
 have RA:Hid (∀ W,Calls Tryz.prog 254 #[bW (a:Int)] W (fun e w'=>∃ p l c,e= .returned (.tuple #[.agg #[.slice p l c,.bool false],.bool true])∧Below W.heap.size W w'∧aW w' (.slice p l c) a)):=zh fun W=>(Ac (a:Int) (by rw [Int.natAbs_natCast];exact ha) W).mono fun e w' ⟨v,h1,h2,p,l,c,h3,h4⟩=>by
  rw [Int.natAbs_natCast] at h4;have g0:decide ((a:Int)<0)=false:=by simp
  rw [g0] at h3;exact ⟨p,l,c,by rw [h1,h3],h2,h4⟩
 have RB:Hid (∀ W,Calls Tryz.prog 254 #[bW (b:Int)] W (fun e w'=>∃ p l c,e= .returned (.tuple #[.agg #[.slice p l c,.bool false],.bool true])∧Below W.heap.size W w'∧aW w' (.slice p l c) b)):=zh fun W=>(Ac (b:Int) (by rw [Int.natAbs_natCast];exact hb) W).mono fun e w' ⟨v,h1,h2,p,l,c,h3,h4⟩=>by
  rw [Int.natAbs_natCast] at h4;have g0:decide ((b:Int)<0)=false:=by simp
  rw [g0] at h3;exact ⟨p,l,c,by rw [h1,h3],h2,h4⟩
 clear ha hb;unfold bW at *;generalize (⟨(Lib.itoa (a:Int)).toArray⟩:ByteArray)=ta at *;generalize (⟨(Lib.itoa (b:Int)).toArray⟩:ByteArray)=tb at *;go_enter Tryz.func307,Tryz.ntmps307
 go_wp2_with fail
 obtain ⟨dN,EW,hz,X1,X2⟩:=yA w #[.slice none 0 0,.bool false] 257 #[.slice none 0 0,.bool false] 257;rw [EW];have hk2:=Bt (Below.refl _ _) hz;clear EW hz;refine (RA.out _).mono ?_;rintro e ko ⟨p1,l1,c1,rfl,hb3,hm⟩;replace X1:=X1.bl hb3;replace X2:=X2.bl hb3;have hk5:=Bt hk2 hb3;clear hk2;have NX:=zh hm;clear hb3 hm;obtain ⟨gJ,gI,gN⟩:=X1.clf;go_wp2_with fail
 clear gJ gI gN;have hz:Below w.heap.size w ((ko.setCell ⟨w.heap.size,0,none⟩ (.slice p1 l1 c1)).setCell ⟨w.heap.size,1,none⟩ (.bool false)):=au;obtain ⟨wq6,EW⟩:∃ y,((ko.setCell ⟨w.heap.size,0,none⟩ (.slice p1 l1 c1)).setCell ⟨w.heap.size,1,none⟩ (.bool false))=y:=⟨_,rfl⟩;have tX1:=((X1.out.set 0 (.slice p1 l1 c1)).set 1 (.bool false));have MS:=((X2.out.setOther (a:=⟨w.heap.size,0,none⟩) (.slice p1 l1 c1) (by first|assumption|(simp;done)|(simp;omega))).setOther (a:=⟨w.heap.size,1,none⟩) (.bool false) (by first|assumption|(simp;done)|(simp;omega)));have tNX:=((NX.out.setOther X1.out zd 0 (.slice p1 l1 c1)).setOther (X1.out.set 0 (.slice p1 l1 c1)) zd 1 (.bool false));rw [EW] at tX1;replace X1:Hid (ah wq6 (w.heap.size) #[.slice p1 l1 c1,.bool false] 257):=zh tX1;clear tX1;rw [EW] at MS;replace X2:Hid (ah wq6 (w.heap.size+1) #[.slice none 0 0,.bool false] 257):=zh MS;clear MS
 rw [EW] at tNX;replace NX:=zh tNX;clear tNX;rw [EW] at hz ⊢;clear EW;clear hk5;have hk6:=hz;clear hz;refine (RB.out _).mono ?_;rintro e jX ⟨p2,l2,c2,rfl,fK,hm⟩;replace X1:=X1.bl fK;replace X2:=X2.bl fK;replace NX:=zh (NX.out.later fK);have hk9:=Bt hk6 fK;clear hk6;have NY:=zh hm;clear fK hm;obtain ⟨iF,iE,iO⟩:=X2.clf;have HK:=zh hk9;obtain ⟨wl,Ewl⟩:∃ y,y=jX:=⟨_,rfl⟩;subst Ewl;have c1':=X1.out.cell;have l1':=X1.out.lt;have f1':=X1.out.free;have c2':=X2.out.cell;have l2':=X2.out.lt;have f2':=X2.out.free;go_wp2_with fail
 go_region
 go_wp2_with fail
 have hw:=HK.out;have hx1:=X1.out;have hx2:=X2.out;refine av7 rfl rfl aJ Tryz.underlying257 rfl zk rfl aJ Tryz.underlying257 rfl zk ?_;exact ⟨_,_,_,_,_,_,rfl,au,aK,aK⟩
end Go.Proofs.whole
namespace Go.Proofs.whole
open Go Go.RowKit Go.SW Go.Num Go.Mem Go.Proofs Go.Dec
theorem yS (v u:Value) (z y:Int) (w:World) (h:dH w v z) (h2:dH w u y) (kz:sz 1000000000 z.natAbs≤549755813888) (ky:sz 1000000000 y.natAbs≤549755813888) :
  Calls Tryz.prog 310 #[v,u] w (fun e w'=>∃ v,e= .returned v∧Below w.heap.size w w'∧dH w' v (z*y)):=by
 obtain ⟨Qj,lH,RQ,rfl,H⟩:=h;replace H:=zh H;obtain ⟨by3,lH2,bD8,rfl,H2⟩:=h2;replace H2:=zh H2;have KZ:=zh kz;have KY:=zh ky;clear kz ky;go_enter Tryz.func310,Tryz.ntmps310
 go_wp2_with fail
 refine aC [(.pure,0),(.read,1),(.pure,2),(.read,3),(.pure,5),(.read,6),(.pure,7),(.read,8),(.pure,9),(.ext,4),(.ext,10),(.fin,11)] zk zk zR zP ?_;refine zV ?_;refine aH rfl rfl (fun w1 hb1 J hJ=>?_);go_simp;have BR:=ah.later (ah.drew (ah.at2 _ _ _ _ _)) hb1;have bJ:=BR.cell;have bI:=BR.free;refine (jm _ _ z.natAbs y.natAbs _ aK aK (Nat.le_trans KZ.out zo) (Nat.le_trans KY.out zo)).mono ?_;rintro e v1 ⟨v,rfl,hc1,hv⟩;obtain ⟨aI5,lHS,aP8,rfl⟩:=hv.slice;have HS:=zh hv;clear hv;replace BR:=ah.later (BR) hc1;replace bJ:=BR.cell;replace bI:=BR.free;refine hJ _ _ hc1 ?_;clear hJ J;refine aH rfl rfl (fun w2 hb2 J hJ=>?_);go_simp;replace BR:=ah.later (BR) hb2;replace bJ:=BR.cell;replace bI:=BR.free;refine (dS _ (z.natAbs*y.natAbs) _ _ aK).mono ?_;rintro e v2 ⟨v,rfl,hc2,hv⟩;obtain ⟨aI4,lHT,aP7,rfl,HT⟩:=hv;replace HT:=zh HT
 replace BR:=ah.later (BR) hc2;replace bJ:=BR.cell;replace bI:=BR.free;refine hJ _ _ hc2 ?_;clear hJ J;refine aQ [_] rfl (fun w5 hb5=>?_);replace BR:=ah.later (BR) hb5;replace bJ:=BR.cell;replace bI:=BR.free;go_wp2_with fail
 refine bZ rfl rfl aJ Tryz.underlying257 rfl zk ?_;exact ⟨_,rfl,au,(dH.eO aK).cast (zY z y)⟩
end Go.Proofs.whole
namespace Go.Proofs.whole
open Go Go.RowKit Go.SW Go.Num Go.Mem Go.Proofs Go.Dec Go.eF
theorem JL (a b:Nat) (ha:jG a=true) (hb:jG b=true) (w:World) (ht:fM.Pow w) :
  Calls Tryz.prog 277 #[.int .i64 2,bW (a:Int),bW (b:Int)] w (fun e w'=>e= .returned (DL (a*b:Nat))∧Below w.heap.size w w'):=by
 have sa:=jP ha;have sb:=jP hb
 have sr:sz 1000000000 (a*b)≤1000:=by
  have h1:=kC (B:=1000000000) zo a b;have h2:=yH (B:=1000000000) zo a b;omega
 have HPR:=zh (fun W=>Nl a b (dQ.1 ha) (dQ.1 hb) W);have HOP:=zh (fun v u W hv hu=>yS v u (a:Int) (b:Int) W hv hu (by rw [Int.natAbs_natCast];omega) (by rw [Int.natAbs_natCast];omega));have Tk:=zh (fun v W h hq=>kF v (a*b:Nat) W h (by rw [Int.natAbs_natCast];omega) hq);have HP:=zh ht;clear sa sb sr ha hb ht;have e:(a:Int)*(b:Int)=((a*b:Nat):Int):=by simp
 rw [e] at HOP;have g0:decide ((a:Int)<0)=false:=by simp
 have g1:decide ((b:Int)<0)=false:=by simp
 have IA:Hid (∀ W p l c,aW W (.slice p l c) a→dH W (.agg #[.slice p l c,.bool false]) (a:Int)):=zh fun W p l c h=>⟨p,l,c,by rw [g0],by rw [Int.natAbs_natCast];exact h⟩;have IB:Hid (∀ W p l c,aW W (.slice p l c) b→dH W (.agg #[.slice p l c,.bool false]) (b:Int)):=zh fun W p l c h=>⟨p,l,c,by rw [g1],by rw [Int.natAbs_natCast];exact h⟩;clear e g0 g1;obtain ⟨r,Er⟩:∃ r,a*b=r:=⟨_,rfl⟩;rw [Er] at HOP Tk ⊢;clear Er
 obtain ⟨tr,kr,Ew⟩:∃ tr kr,DL (r:Int)= .tuple #[.string tr,.int .i64 kr]:=by
  unfold DL bW;split
  ·exact ⟨_,_,rfl⟩
  ·exact ⟨_,_,rfl⟩
 rw [Ew] at Tk ⊢;clear Ew;unfold bW at HPR ⊢;generalize (⟨(Lib.itoa (a:Int)).toArray⟩:ByteArray)=ta at *;generalize (⟨(Lib.itoa (b:Int)).toArray⟩:ByteArray)=tb at *;go_enter Tryz.func277,Tryz.ntmps277
 go_wp2_with fail
 refine (HPR.out _).mono ?_;rintro e w1 ⟨p1,l1,c1,p2,l2,c2,rfl,hb1,hx,hy⟩;have HX:=zh hx;have HY:=zh hy;have HB1:=zh hb1;clear hx hy hb1;go_wp2_with fail
 obtain ⟨wx,EW,hz,X1,X2,X3⟩:=yx w1 #[.slice p1 l1 c1,.bool false] 257 #[.slice p2 l2 c2,.bool false] 257 #[.func (.func 308) #[] #[],.func (.func 309) #[] #[],.func (.func 310) #[] #[],.func (.func 311) #[] #[]] 308;rw [EW];clear EW;replace HX:=zh (HX.out.later hz);replace HY:=zh (HY.out.later hz);have HB2:=zh (Bt HB1.out hz);clear hz HB1;obtain ⟨bx,eb⟩:∃ y,w1.heap.size=y:=⟨_,rfl⟩;rw [eb] at X1 X2 X3 ⊢;have gJ:=X1.out.cell;have gI:=X1.out.lt;have iF:=X2.out.cell;have iE:=X2.out.lt;have rF:=X3.out.cell;have rA:=X3.out.lt;refine aC [(.pure,0),(.pure,1),(.pure,2),(.read,3),(.read,4),(.read,5),(.ext,6),(.ext,7),(.pure,8),(.pure,9),(.fin,10),(.fin,11)] zk zk zR zP ?_;refine zV ?_;refine aH rfl rfl (fun we hbe J hJ=>?_);go_simp;have h1:Below wx.heap.size wx we:=au;refine (HOP.out _ _ _ (IA.out _ _ _ _ (HX.out.later h1)) (IB.out _ _ _ _ (HY.out.later h1))).mono ?_
 rintro e w2 ⟨v,rfl,hb2,hv⟩;obtain ⟨p3,l3,c3,rfl,hm3⟩:=id hv;have HI:=zh hv;generalize decide ((r:Int)<0)=br at *;refine hJ _ _ hb2 ?_;clear hJ J;have h2:=Bt h1 hb2;clear hv h1 hbe hb2 hm3;refine zV ?_;refine aH rfl rfl (fun we hbe J hJ=>?_);go_simp;have h5:Below w2.heap.size w2 we:=au;refine (Tk.out _ _ (HI.out.later h5) (HP.out.later (Bt HB2.out (Bt h2 h5)))).mono ?_;rintro e w4 ⟨rfl,hb4⟩;refine hJ _ _ hb4 ?_;clear hJ J;have h6:=Bt h2 (Bt h5 hb4);clear hb4 h5 h2 hbe;refine zV ?_;refine aQ [_,_] rfl (fun wf hbf=>?_);have hw:Below w.heap.size w wf:=Bt HB2.out (Bt h6 au);go_wp2_with fail
 go_ret2
 exact ⟨rfl,hw⟩
theorem qP (a b:Nat) (ha:jG a=true) (hb:jG b=true) (w:World) (ht:fM.Pow w) :
  Calls Tryz.prog 289 #[bW (a:Int),bW (b:Int)] w (fun e w'=>e= .returned (DL (a*b:Nat))∧Below w.heap.size w w'):=by
 have H:=zh (JL a b ha hb w ht)
 obtain ⟨tr,kr,Ew⟩:∃ tr kr,DL (a*b:Nat)= .tuple #[.string tr,.int .i64 kr]:=by
  unfold DL bW;split
  ·exact ⟨_,_,rfl⟩
  ·exact ⟨_,_,rfl⟩
 rw [Ew] at H ⊢;clear Ew ha hb ht;unfold bW at *;generalize (⟨(Lib.itoa (a:Int)).toArray⟩:ByteArray)=ta at *;generalize (⟨(Lib.itoa (b:Int)).toArray⟩:ByteArray)=tb at *;go_enter Tryz.func289,Tryz.ntmps289
 go_wp2_with fail
 refine H.out.mono ?_;rintro e w1 ⟨rfl,hb1⟩;go_wp2_with fail
 go_ret2
 exact ⟨rfl,hb1⟩
theorem JM (a b:Nat) (ha:jG a=true) (hb:jG b=true) (w:World) (ht:fM.Pow w) :
  Calls Tryz.prog 277 #[.int .i64 0,bW (a:Int),bW (b:Int)] w (fun e w'=>e= .returned (DL (a+b:Nat))∧Below w.heap.size w w'):=by
 have sa:=jP ha;have sb:=jP hb
 have sr:sz 1000000000 (a+b)≤1000:=by
  have h1:=kC (B:=1000000000) zo a b;have h2:=yH (B:=1000000000) zo a b;omega
 have HPR:=zh (fun W=>Nl a b (dQ.1 ha) (dQ.1 hb) W);have HOP:=zh (fun v u W hv hu=>yI v u (a:Int) (b:Int) W hv hu (by rw [Int.natAbs_natCast];omega) (by rw [Int.natAbs_natCast];omega));have Tk:=zh (fun v W h hq=>kF v (a+b:Nat) W h (by rw [Int.natAbs_natCast];omega) hq);have HP:=zh ht;clear sa sb sr ha hb ht;have e:(a:Int)+(b:Int)=((a+b:Nat):Int):=by simp
 rw [e] at HOP;have g0:decide ((a:Int)<0)=false:=by simp
 have g1:decide ((b:Int)<0)=false:=by simp
 have IA:Hid (∀ W p l c,aW W (.slice p l c) a→dH W (.agg #[.slice p l c,.bool false]) (a:Int)):=zh fun W p l c h=>⟨p,l,c,by rw [g0],by rw [Int.natAbs_natCast];exact h⟩;have IB:Hid (∀ W p l c,aW W (.slice p l c) b→dH W (.agg #[.slice p l c,.bool false]) (b:Int)):=zh fun W p l c h=>⟨p,l,c,by rw [g1],by rw [Int.natAbs_natCast];exact h⟩;clear e g0 g1;obtain ⟨r,Er⟩:∃ r,a+b=r:=⟨_,rfl⟩;rw [Er] at HOP Tk ⊢;clear Er
 obtain ⟨tr,kr,Ew⟩:∃ tr kr,DL (r:Int)= .tuple #[.string tr,.int .i64 kr]:=by
  unfold DL bW;split
  ·exact ⟨_,_,rfl⟩
  ·exact ⟨_,_,rfl⟩
 rw [Ew] at Tk ⊢;clear Ew;unfold bW at HPR ⊢;generalize (⟨(Lib.itoa (a:Int)).toArray⟩:ByteArray)=ta at *;generalize (⟨(Lib.itoa (b:Int)).toArray⟩:ByteArray)=tb at *;go_enter Tryz.func277,Tryz.ntmps277
 go_wp2_with fail
 refine (HPR.out _).mono ?_;rintro e w1 ⟨p1,l1,c1,p2,l2,c2,rfl,hb1,hx,hy⟩;have HX:=zh hx;have HY:=zh hy;have HB1:=zh hb1;clear hx hy hb1;go_wp2_with fail
 obtain ⟨wx,EW,hz,X1,X2,X3⟩:=yx w1 #[.slice p1 l1 c1,.bool false] 257 #[.slice p2 l2 c2,.bool false] 257 #[.func (.func 308) #[] #[],.func (.func 309) #[] #[],.func (.func 310) #[] #[],.func (.func 311) #[] #[]] 308;rw [EW];clear EW;replace HX:=zh (HX.out.later hz);replace HY:=zh (HY.out.later hz);have HB2:=zh (Bt HB1.out hz);clear hz HB1;obtain ⟨bx,eb⟩:∃ y,w1.heap.size=y:=⟨_,rfl⟩;rw [eb] at X1 X2 X3 ⊢;have gJ:=X1.out.cell;have gI:=X1.out.lt;have iF:=X2.out.cell;have iE:=X2.out.lt;have rF:=X3.out.cell;have rA:=X3.out.lt;refine aC [(.pure,0),(.pure,1),(.pure,2),(.read,3),(.read,4),(.read,5),(.ext,6),(.ext,7),(.pure,8),(.pure,9),(.fin,10),(.fin,11)] zk zk zR zP ?_;refine zV ?_;refine aH rfl rfl (fun we hbe J hJ=>?_);go_simp;have h1:Below wx.heap.size wx we:=au;refine (HOP.out _ _ _ (IA.out _ _ _ _ (HX.out.later h1)) (IB.out _ _ _ _ (HY.out.later h1))).mono ?_
 rintro e w2 ⟨v,rfl,hb2,hv⟩;obtain ⟨p3,l3,c3,rfl,hm3⟩:=id hv;have HI:=zh hv;generalize decide ((r:Int)<0)=br at *;refine hJ _ _ hb2 ?_;clear hJ J;have h2:=Bt h1 hb2;clear hv h1 hbe hb2 hm3;refine zV ?_;refine aH rfl rfl (fun we hbe J hJ=>?_);go_simp;have h5:Below w2.heap.size w2 we:=au;refine (Tk.out _ _ (HI.out.later h5) (HP.out.later (Bt HB2.out (Bt h2 h5)))).mono ?_;rintro e w4 ⟨rfl,hb4⟩;refine hJ _ _ hb4 ?_;clear hJ J;have h6:=Bt h2 (Bt h5 hb4);clear hb4 h5 h2 hbe;refine zV ?_;refine aQ [_,_] rfl (fun wf hbf=>?_);have hw:Below w.heap.size w wf:=Bt HB2.out (Bt h6 au);go_wp2_with fail
 go_ret2
 exact ⟨rfl,hw⟩
theorem qV (a b:Nat) (ha:jG a=true) (hb:jG b=true) (w:World) (ht:fM.Pow w) :
  Calls Tryz.prog 231 #[bW (a:Int),bW (b:Int)] w (fun e w'=>e= .returned (DL (a+b:Nat))∧Below w.heap.size w w'):=by
 have H:=zh (JM a b ha hb w ht)
 obtain ⟨tr,kr,Ew⟩:∃ tr kr,DL (a+b:Nat)= .tuple #[.string tr,.int .i64 kr]:=by
  unfold DL bW;split
  ·exact ⟨_,_,rfl⟩
  ·exact ⟨_,_,rfl⟩
 rw [Ew] at H ⊢;clear Ew ha hb ht;unfold bW at *;generalize (⟨(Lib.itoa (a:Int)).toArray⟩:ByteArray)=ta at *;generalize (⟨(Lib.itoa (b:Int)).toArray⟩:ByteArray)=tb at *;go_enter Tryz.func231,Tryz.ntmps231
 go_wp2_with fail
 refine H.out.mono ?_;rintro e w1 ⟨rfl,hb1⟩;go_wp2_with fail
 go_ret2
 exact ⟨rfl,hb1⟩
theorem oQ (a b:Nat) (ha:jG a=true) (hb:jG b=true) (b0:0<b) (w:World) (ht:fM.Pow w) :
  Calls Tryz.prog 291 #[bW (a:Int),bW (b:Int)] w (fun e w'=>e= .returned (.tuple #[bW (a / b:Nat),bW (a%b:Nat),.int .i64 0])∧Below w.heap.size w w'):=by
 have sa:=jP ha;have q1:jG (a / b)=true:=sF ha (Nat.div_le_self _ _);have q2:jG (a%b)=true:=sF ha (Nat.mod_le _ _);have HPR:=zh (fun W=>Nl a b (dQ.1 ha) (dQ.1 hb) W);have Mk:=zh (fun x y W hx hy=>gB x y a b W hx hy b0 zo);have HW1:=zh (fun v W h hq=>kF v (a / b:Nat) W h (by rw [Int.natAbs_natCast];exact Nat.le_trans (jP q1) zo) hq);have HW2:=zh (fun v W h hq=>kF v (a%b:Nat) W h (by rw [Int.natAbs_natCast];exact Nat.le_trans (jP q2) zo) hq);rw [vP q1] at HW1;rw [vP q2] at HW2;have HP:=zh ht;have d0:decide (b=0)=false:=by simp;omega
 clear sa q1 q2 ha hb ht;obtain ⟨q,Eq⟩:∃ q,a / b=q:=⟨_,rfl⟩;obtain ⟨r,Er⟩:∃ r,a%b=r:=⟨_,rfl⟩;rw [Eq] at HW1;rw [Er] at HW2;have br9:Hid (∀ x y W,aW W x a→aW W y b→Calls Tryz.prog 313 #[x,y] W (nV W q r)):=zh (by rw [← Eq,← Er];exact Mk.out);rw [Eq,Er];clear Mk Eq Er b0;unfold bW at *;generalize (⟨(Lib.itoa (a:Int)).toArray⟩:ByteArray)=ta at *;generalize (⟨(Lib.itoa (b:Int)).toArray⟩:ByteArray)=tb at *;generalize (⟨(Lib.itoa (q:Int)).toArray⟩:ByteArray)=tq at *;generalize (⟨(Lib.itoa (r:Int)).toArray⟩:ByteArray)=tr at *;go_enter Tryz.func291,Tryz.ntmps291
 go_wp2_with fail
 refine (HPR.out _).mono ?_;rintro e w1 ⟨p1,l1,c1,p2,l2,c2,rfl,hb1,hx,hy⟩;have HX:=zh hx;have HY:=zh hy;have HB1:=zh hb1;clear hx hy hb1
 go_upto_region 2 with fail
 obtain ⟨wx,EW,hz,X1,X2⟩:=yA w1 #[.slice p1 l1 c1,.bool false] 257 #[.slice p2 l2 c2,.bool false] 257;rw [EW];clear EW;replace HX:=zh (HX.out.later hz);replace HY:=zh (HY.out.later hz);have HB2:=zh (Bt HB1.out hz);clear hz HB1;obtain ⟨bx,eb⟩:∃ y,w1.heap.size=y:=⟨_,rfl⟩;rw [eb] at X1 X2 ⊢;obtain ⟨gJ,gI⟩:=X1.cl;obtain ⟨iF,iE⟩:=X2.cl;go_wp2_with fail
 refine (gW _ b _ HY.out).mono ?_;rintro e w2 ⟨rfl,rfl⟩;rw [d0];go_wp2_with fail
 refine (br9.out _ _ _ HX.out HY.out).mono ?_;rintro e w3 ⟨v3,v4,rfl,hb3,hv3,hv4⟩;obtain ⟨p3,l3,c3,rfl⟩:=hv3.slice;obtain ⟨p4,l4,c4,rfl⟩:=hv4.slice;have HQ:=zh hv3;have HR:=zh hv4;have HB3:=zh (Bt HB2.out hb3);replace X1:=X1.bl hb3;replace X2:=X2.bl hb3;clear hv3 hv4 hb3 HX HY HB2 gJ gI iF iE;obtain ⟨gJ,gI⟩:=X1.cl;obtain ⟨iF,iE⟩:=X2.cl;go_wp2_with fail
 refine (dS _ q false _ HQ.out).mono ?_;rintro e w4 ⟨v,rfl,hb4,hv⟩;obtain ⟨p5,l5,c5,rfl,hm5⟩:=id hv;have HI:=zh (hv.cast (show iD q false=(q:Int) from rfl));have g3:decide (iD q false<0)=false:=by unfold iD;simp
 rw [g3] at HI ⊢;have HB4:=zh (Bt HB3.out hb4);replace HR:=zh (HR.out.later hb4);clear hv hm5 hb4 HB3 g3 gJ gI iF iE;go_wp2_with fail
 refine (HW1.out _ _ HI.out (HP.out.later HB4.out)).mono ?_;rintro e w5 ⟨rfl,hb5⟩;have HB5:=zh (Bt HB4.out hb5);replace HR:=zh (HR.out.later hb5);clear hb5 HB4 HI;go_wp2_with fail
 refine (dS _ r false _ HR.out).mono ?_;rintro e w6 ⟨v,rfl,hb6,hv⟩;obtain ⟨p6,l6,c6,rfl,hm6⟩:=id hv;have HI:=zh (hv.cast (show iD r false=(r:Int) from rfl));have g3:decide (iD r false<0)=false:=by unfold iD;simp
 rw [g3] at HI ⊢;have HB6:=zh (Bt HB5.out hb6);clear hv hm6 hb6 HB5 g3;go_wp2_with fail
 refine (HW2.out _ _ HI.out (HP.out.later HB6.out)).mono ?_;rintro e w7 ⟨rfl,fK⟩;have hw:=Bt HB6.out fK;go_wp2_with fail
 go_ret3
 exact ⟨rfl,hw⟩
end Go.Proofs.whole
namespace Go.Proofs.power
open Go Go.RowKit Go.SW Go.Num Go.Mem Go.Proofs Go.Dec Go.eF Go.Proofs.whole
theorem XK {a b:Nat}:((⟨(Lib.itoa (a:Int)).toArray⟩:ByteArray).toList == (⟨(Lib.itoa (b:Int)).toArray⟩:ByteArray).toList)=decide (a=b):=by
 rw [ByteArray.toList_eq,ByteArray.toList_eq]
 show (Lib.itoa (a:Int) == Lib.itoa (b:Int))=_
 by_cases h:a=b
 ·subst h;simp
 ·rw [decide_eq_false h];refine beq_eq_false_iff_ne.2 fun e=>h ?_;have:=Al e;omega
theorem Aa (a k:Nat) (ha:jG a=true) (hk:1≤k) (k12:k≤12) (w:World) (ht:fM.Pow w) :
  Calls Tryz.prog 157 #[bW (a:Int),.int .i64 (k:Int)] w (fun e w'=>e= .returned (.tuple #[bW (dX k a:Nat),.bool (decide (dX k a^k=a)),.int .i64 0])∧Below w.heap.size w w'):=by
 have hle:=(kR hk a).1;have hro:jG (dX k a)=true:=sF ha (qG hk);have HR:=zh (fun W hp=>Bh a k ha hk k12 W hp);have WA:=zh (fun W hp=>zx (dX k a) k hro zo W hp);rw [vP (sF ha hle)] at WA;have he:((⟨(Lib.itoa ((dX k a^k:Nat):Int)).toArray⟩:ByteArray).toList == (⟨(Lib.itoa (a:Int)).toArray⟩:ByteArray).toList)=decide (dX k a^k=a):=XK;have HP:=zh ht;clear hle hro ha ht;generalize decide (dX k a^k=a)=ex at *;generalize dX k a^k=rp at *;generalize dX k a=r at *;unfold bW at *;generalize (⟨(Lib.itoa (a:Int)).toArray⟩:ByteArray)=ta at *;generalize (⟨(Lib.itoa (rp:Int)).toArray⟩:ByteArray)=tp at *;generalize (⟨(Lib.itoa (r:Int)).toArray⟩:ByteArray)=tr at *;go_enter Tryz.func157,Tryz.ntmps157
 go_wp2_with fail
 refine (HR.out _ HP.out).mono ?_;rintro e w1 ⟨rfl,hb1⟩;have HB1:=zh hb1;clear hb1;go_wp2_with fail
 refine (WA.out _ (HP.out.later HB1.out)).mono ?_;rintro e w2 ⟨rfl,hb2⟩;have hw:=Bt HB1.out hb2;go_wp2_with fail
 go_ret3
 exact ⟨by rw [← he];rfl,hw⟩
theorem aj6 (c:Nat):Lib.itoa ((10^c:Nat):Int)=49::Lib.repeatL [48] c:=by
 have h:=Fj c 1 0 zo (Nat.pow_pos zo);rw [Nat.one_mul,Nat.add_zero,gY (u:=1) zo,GR] at h;have hr:=Lib.repeatL_replicate 48 1 c;rw [Nat.mul_one] at hr;rw [show ([48]:List UInt8)=List.replicate 1 48 from rfl,hr];exact h
theorem uH (c:Nat) (hc:c≤1000) (w:World) :
  Calls Tryz.prog 290 #[.int .i64 (c:Int)] w (fun e w'=>e= .returned (bW (10^c:Nat))∧Below w.heap.size w w'):=by
 have H:=zh (fun W=>Tryz.strings_Repeat ⟨#[48]⟩ c W zo (by rw [show (⟨#[48]⟩:ByteArray).size=1 from rfl];omega))
 have e:(⟨(Lib.itoa ((10^c:Nat):Int)).toArray⟩:ByteArray)=(⟨#[49]⟩:ByteArray)++⟨(Lib.repeatL [48] c).toArray⟩:=by
  rw [aj6];apply ByteArray.ext
  simp
 unfold bW;rw [e];clear e
 have hs:(⟨(Lib.repeatL [48] c).toArray⟩:ByteArray).size≤1000:=by
  show (Lib.repeatL [48] c).length≤1000
  rw [Lib.repeatL_length];simp
  omega
 generalize (⟨(Lib.repeatL [48] c).toArray⟩:ByteArray)=t at *;go_enter Tryz.func290,Tryz.ntmps290
 go_wp2_with fail
 refine (H.out _).mono ?_;rintro e w1 ⟨rfl,hb1⟩;go_wp2_with fail
 go_ret
 exact ⟨rfl,hb1⟩
def BS (n:Nat) (up:Bool):Int × Int:=if n≤1000000000000000000 then ((n:Int)+(if up then 1 else 0),0) else (0,6)
theorem yV (n:Nat) (up:Bool) (hn:jG n=true) (w:World) (he:Er w) :
  Calls Tryz.prog 158 #[bW (n:Int),.bool up] w (fun e w'=>e= .returned (.tuple #[.int .i64 (BS n up).1,.int .i64 (BS n up).2])∧Below w.heap.size w w'):=by
 have H:=zh (fun W h=>aR4 n hn W h);have HE:=zh he;clear hn he;unfold bW JU at *;generalize (⟨(Lib.itoa (n:Int)).toArray⟩:ByteArray)=t at *;unfold BS
 by_cases h1:n<9223372036854775808
 ·simp only [if_pos h1] at H
  by_cases h2:n≤1000000000000000000
  ·have g:decide ((1000000000000000000:Int)<(n:Int))=false:=by simp;omega
   simp only [if_pos h2];cases up
   all_goals
    go_enter Tryz.func158,Tryz.ntmps158
    go_wp2_with fail
    refine (H.out _ HE.out).mono ?_;rintro e w1 ⟨rfl,hb1⟩;go_wp2_with fail
    go_ret2
    exact ⟨by simp,hb1⟩
  ·have g:decide ((1000000000000000000:Int)<(n:Int))=true:=by simp;omega
   simp only [if_neg h2];go_enter Tryz.func158,Tryz.ntmps158
   go_wp2_with fail
   refine (H.out _ HE.out).mono ?_;rintro e w1 ⟨rfl,hb1⟩;go_wp2_with fail
   go_ret2
   exact ⟨rfl,hb1⟩
 ·simp only [if_neg h1] at H;have h2:¬ n≤1000000000000000000:=by omega
  simp only [if_neg h2];go_enter Tryz.func158,Tryz.ntmps158
  go_wp2_with fail
  refine (H.out _ HE.out).mono ?_;rintro e w1 ⟨rfl,hb1⟩;go_wp2_with fail
  go_ret2
  exact ⟨rfl,hb1⟩
theorem ad7 {c k:Nat} (h:c<k):10^c<iC k:=by
 unfold iC;exact Nat.pow_lt_pow_right zo h
theorem Xu {c:Nat} (h:c<600):jG (10^c)=true:=by
 unfold jG;exact decide_eq_true (ad7 h)
theorem Ag {n:Nat}:jG n=true↔n<10^600:=by
 unfold jG iC;exact decide_eq_true_iff
theorem zero_eq (b:Nat):((⟨(Lib.itoa (b:Int)).toArray⟩:ByteArray).toList == [48])=decide (b=0):=by
 have:= @XK b 0
 have e:(⟨(Lib.itoa ((0:Nat):Int)).toArray⟩:ByteArray).toList=[48]:=by
  rw [ByteArray.toList_eq]
  show Lib.itoa ((0:Nat):Int)=[48]
  decide+kernel
 rw [e] at this;exact this
theorem Oj {n p q:Nat} {up:Bool} (h:¬ oJ n p q≤10^18):vK n p q up=(0,6):=by
 unfold vK;rw [if_neg h]
theorem QF {n p q:Nat} {up:Bool}:BS (oJ n p q) (up&& !(SV n p q))=vK n p q up:=by
 by_cases h:oJ n p q≤10^18
 ·rw [aA2 h];unfold BS;rw [if_pos h]
 ·rw [Oj h];unfold BS;rw [if_neg h]
theorem Cj (n p q:Nat) (up:Bool) (hn:n≤10^18) (p1:1≤p) (p36:p≤36) (q1:1≤q) (OZ:q≤12) (w:World) (ht:fM.Pow w) (he:Er w) :
  Calls Tryz.prog 253 #[.agg #[.int .i64 (p:Int),.int .i64 (q:Int)],.int .i64 (n:Int),.bool up] w (fun e w'=>e= .returned (.tuple #[.int .i64 (vK n p q up).1,.int .i64 (vK n p q up).2])∧Below w.heap.size w w'):=by
 have hn0:jG n=true:=Ag.2 (Nat.lt_of_le_of_lt hn (by decide+kernel))
 have h63:(n:Int)≤9223372036854775807:=by
  have:(10:Nat)^18=1000000000000000000:=by decide
  omega
 have HO:=zh (fun W h=>Db (n:Int) zo h63 W h);have WA:=zh (fun W h=>zx n p hn0 zo W h);have HP:=zh ht;have HE:=zh he;clear ht he h63
 by_cases h1:jG (n^p)=true
 ·rw [vP h1] at WA
  by_cases hpq:p≤q
  ·have g:decide ((p:Int)≤(q:Int))=true:=by simp;omega
   have e12:(12:Int)*((q:Int) - (p:Int))=((12*(q - p):Nat):Int):=by omega
   have h12:12*(q - p)≤132:=by omega
   have HT:=zh (fun W=>uH (12*(q - p)) zo W);have HM:=zh (fun W h=>qP (n^p) (10^(12*(q - p))) h1 (Xu zo) W h);have ea:=Qc (n:=n) hpq;rw [← ea] at HM;have ex:SV n p q=_:=aI1 hpq
   by_cases h2:jG (jr n p q)=true
   ·rw [vP h2] at HM;have HR:=zh (fun W h=>Aa (jr n p q) q h2 q1 OZ W h);have HI:=zh (fun W h=>yV (oJ n p q) (up&& !(SV n p q)) (sF h2 (qG q1)) W h);rw [QF] at HI
    change Hid (∀ (W:World),fM.Pow W→Calls _ _ _ _ (fun e w'=>e= .returned (.tuple #[bW ((oJ n p q:Nat):Int),.bool (decide (oJ n p q^q=jr n p q)),.int .i64 0])∧_)) at HR
    rw [← ex] at HR;clear ex ea h2 h1 hn0;obtain ⟨v,Ev⟩:∃ v,vK n p q up=v:=⟨_,rfl⟩;rw [Ev] at HI ⊢;obtain ⟨v1,v2⟩:=v;clear Ev;simp only at HI ⊢;generalize 10^(12*(q - p))=t12 at *;generalize 12*(q - p)=c12 at *;generalize SV n p q=ex at *;generalize oJ n p q=r at *;generalize jr n p q=a at *;generalize n^p=np at *;clear hn;unfold bW at *;generalize (⟨(Lib.itoa (n:Int)).toArray⟩:ByteArray)=tn at *;generalize (⟨(Lib.itoa (np:Int)).toArray⟩:ByteArray)=tnp at *;generalize (⟨(Lib.itoa (t12:Int)).toArray⟩:ByteArray)=aX2 at *;generalize (⟨(Lib.itoa (a:Int)).toArray⟩:ByteArray)=ta at *;generalize (⟨(Lib.itoa (r:Int)).toArray⟩:ByteArray)=tr at *;go_enter Tryz.func253,Tryz.ntmps253
    go_wp2_with fail
    obtain ⟨wx,EW,hz,X⟩:=rG w #[.int .i64 (p:Int),.int .i64 (q:Int)] 252;rw [EW];clear EW;have HB1:=zh hz;clear hz;obtain ⟨bx,eb⟩:∃ y,w.heap.size=y:=⟨_,rfl⟩;rw [eb] at X ⊢;obtain ⟨cX,lX⟩:=X.cl;refine aC [(.pure,0),(.pure,2),(.pure,3),(.read,4),(.ext,1),(.ext,5),(.pure,6),(.pure,7),(.pure,8),(.fin,9),(.fin,10)] zk zk zR zP ?_;refine zW ?_;refine aH rfl rfl (fun we hbe J hJ=>?_);go_simp;have h1:Below wx.heap.size wx we:=au;refine (HO.out _ (HP.out.later (Bt HB1.out h1))).mono ?_;rintro e w1 ⟨rfl,hb1⟩;refine hJ _ _ hb1 ?_;clear hJ J;have h2:=Bt h1 hb1;clear h1 hbe hb1;refine aH rfl rfl (fun we hbe J hJ=>?_);go_simp;have h3:Below w1.heap.size w1 we:=au;refine (WA.out _ (HP.out.later (Bt HB1.out (Bt h2 h3)))).mono ?_;rintro e w2 ⟨rfl,hb2⟩;refine hJ _ _ hb2 ?_;clear hJ J;have h4:=Bt h2 (Bt h3 hb2);clear h3 h2 hbe hb2;refine zV ?_
    refine aQ [_,_] rfl (fun wf hbf=>?_);have h5:Below wx.heap.size wx wf:=Bt h4 au;replace X:=X.bl h5;replace HB1:=zh (Bt HB1.out h5);clear h5 h4 hbf cX lX;obtain ⟨cX,lX⟩:=X.cl;go_wp2_with fail
    try rw [e12]
    refine (HT.out _).mono ?_;rintro e w3 ⟨rfl,hb3⟩;replace HB1:=zh (Bt HB1.out hb3);replace X:=X.bl hb3;clear hb3 cX lX;obtain ⟨cX,lX⟩:=X.cl;go_wp2_with fail
    refine (HM.out _ (HP.out.later HB1.out)).mono ?_;rintro e w4 ⟨rfl,hb4⟩;replace HB1:=zh (Bt HB1.out hb4);replace X:=X.bl hb4;clear hb4 cX lX;obtain ⟨cX,lX⟩:=X.cl;go_wp2_with fail
    refine (HR.out _ (HP.out.later HB1.out)).mono ?_;rintro e w5 ⟨rfl,hb5⟩;replace HB1:=zh (Bt HB1.out hb5);clear hb5 X cX lX;cases up<;>cases ex
    all_goals
     go_wp2_with fail
     refine (HI.out _ (HE.out.later HB1.out)).mono ?_;rintro e w6 ⟨rfl,hb6⟩;have hw:=Bt HB1.out hb6;go_wp2_with fail
     go_ret2
     exact ⟨rfl,hw⟩
   ·have hno:¬ oJ n p q≤10^18:=Nat.not_le.2 (ap7 q1 OZ (Nat.not_lt.1 fun h=>h2 (Ag.2 h)));rw [Oj hno];rw [show DL ((jr n p q:Nat):Int)= .tuple #[.string ⟨#[]⟩,.int .i64 6] from by unfold DL;rw [Int.natAbs_natCast,if_neg h2]] at HM;clear ex ea h2 h1 hn0 hno;generalize 10^(12*(q - p))=t12 at *;generalize 12*(q - p)=c12 at *;generalize n^p=np at *;clear hn;unfold bW at *;generalize (⟨(Lib.itoa (n:Int)).toArray⟩:ByteArray)=tn at *;generalize (⟨(Lib.itoa (np:Int)).toArray⟩:ByteArray)=tnp at *;generalize (⟨(Lib.itoa (t12:Int)).toArray⟩:ByteArray)=aX2 at *;go_enter Tryz.func253,Tryz.ntmps253
    go_wp2_with fail
    obtain ⟨wx,EW,hz,X⟩:=rG w #[.int .i64 (p:Int),.int .i64 (q:Int)] 252;rw [EW];clear EW;have HB1:=zh hz;clear hz;obtain ⟨bx,eb⟩:∃ y,w.heap.size=y:=⟨_,rfl⟩;rw [eb] at X ⊢;obtain ⟨cX,lX⟩:=X.cl;refine aC [(.pure,0),(.pure,2),(.pure,3),(.read,4),(.ext,1),(.ext,5),(.pure,6),(.pure,7),(.pure,8),(.fin,9),(.fin,10)] zk zk zR zP ?_;refine zW ?_;refine aH rfl rfl (fun we hbe J hJ=>?_);go_simp;have h1:Below wx.heap.size wx we:=au;refine (HO.out _ (HP.out.later (Bt HB1.out h1))).mono ?_;rintro e w1 ⟨rfl,hb1⟩;refine hJ _ _ hb1 ?_;clear hJ J;have h2:=Bt h1 hb1;clear h1 hbe hb1;refine aH rfl rfl (fun we hbe J hJ=>?_);go_simp;have h3:Below w1.heap.size w1 we:=au;refine (WA.out _ (HP.out.later (Bt HB1.out (Bt h2 h3)))).mono ?_;rintro e w2 ⟨rfl,hb2⟩;refine hJ _ _ hb2 ?_;clear hJ J;have h4:=Bt h2 (Bt h3 hb2);clear h3 h2 hbe hb2;refine zV ?_
    refine aQ [_,_] rfl (fun wf hbf=>?_);have h5:Below wx.heap.size wx wf:=Bt h4 au;replace X:=X.bl h5;replace HB1:=zh (Bt HB1.out h5);clear h5 h4 hbf cX lX;obtain ⟨cX,lX⟩:=X.cl;go_wp2_with fail
    try rw [e12]
    refine (HT.out _).mono ?_;rintro e w3 ⟨rfl,hb3⟩;replace HB1:=zh (Bt HB1.out hb3);replace X:=X.bl hb3;clear hb3 cX lX;obtain ⟨cX,lX⟩:=X.cl;go_wp2_with fail
    refine (HM.out _ (HP.out.later HB1.out)).mono ?_;rintro e w4 ⟨rfl,hb4⟩;have hw:=Bt HB1.out hb4;go_wp2_with fail
    go_ret2
    exact ⟨rfl,hw⟩
  ·have g:decide ((p:Int)≤(q:Int))=false:=by simp;omega
   have e12:(12:Int)*((p:Int) - (q:Int))=((12*(p - q):Nat):Int):=by omega
   have h12:12*(p - q)≤420:=by omega
   have HT:=zh (fun W=>uH (12*(p - q)) zo W);have HM:=zh (fun W h=>oQ (n^p) (10^(12*(p - q))) h1 (Xu zo) (pG _) W h);have ea:=Qd (n:=n) (p:=p) (q:=q) zo;rw [← ea] at HM;have ex:SV n p q=_:=aI2 q1 zo
   have h2:jG (jr n p q)=true:=by
    rw [ea];exact sF h1 (Nat.div_le_self _ _)
   ·have HR:=zh (fun W h=>Aa (jr n p q) q h2 q1 OZ W h);have HI:=zh (fun W h=>yV (oJ n p q) (up&& !(SV n p q)) (sF h2 (qG q1)) W h);rw [QF] at HI
    change Hid (∀ (W:World),fM.Pow W→Calls _ _ _ _ (fun e w'=>e= .returned (.tuple #[bW ((oJ n p q:Nat):Int),.bool (decide (oJ n p q^q=jr n p q)),.int .i64 0])∧_)) at HR
    rw [ex] at HI;clear ex ea h2 h1 hn0;obtain ⟨v,Ev⟩:∃ v,vK n p q up=v:=⟨_,rfl⟩;rw [Ev] at HI ⊢;obtain ⟨v1,v2⟩:=v;clear Ev;simp only at HI ⊢;have hz:=zero_eq (n^p%10^(12*(p - q)));rw [← hz] at HI;clear hz;generalize n^p%10^(12*(p - q))=rm at *;generalize 10^(12*(p - q))=t12 at *;generalize 12*(p - q)=c12 at *;generalize decide (oJ n p q^q=jr n p q)=ex at *;generalize oJ n p q=r at *;generalize jr n p q=a at *;generalize n^p=np at *;clear hn;unfold bW at *;generalize (⟨(Lib.itoa (n:Int)).toArray⟩:ByteArray)=tn at *;generalize (⟨(Lib.itoa (np:Int)).toArray⟩:ByteArray)=tnp at *;generalize (⟨(Lib.itoa (t12:Int)).toArray⟩:ByteArray)=aX2 at *;generalize (⟨(Lib.itoa (a:Int)).toArray⟩:ByteArray)=ta at *;generalize (⟨(Lib.itoa (r:Int)).toArray⟩:ByteArray)=tr at *;generalize (⟨(Lib.itoa (rm:Int)).toArray⟩:ByteArray)=tm at *;go_enter Tryz.func253,Tryz.ntmps253
    go_wp2_with fail
    obtain ⟨wx,EW,hz,X⟩:=rG w #[.int .i64 (p:Int),.int .i64 (q:Int)] 252;rw [EW];clear EW;have HB1:=zh hz;clear hz;obtain ⟨bx,eb⟩:∃ y,w.heap.size=y:=⟨_,rfl⟩;rw [eb] at X ⊢;obtain ⟨cX,lX⟩:=X.cl;refine aC [(.pure,0),(.pure,2),(.pure,3),(.read,4),(.ext,1),(.ext,5),(.pure,6),(.pure,7),(.pure,8),(.fin,9),(.fin,10)] zk zk zR zP ?_;refine zW ?_;refine aH rfl rfl (fun we hbe J hJ=>?_);go_simp;have h1:Below wx.heap.size wx we:=au;refine (HO.out _ (HP.out.later (Bt HB1.out h1))).mono ?_;rintro e w1 ⟨rfl,hb1⟩;refine hJ _ _ hb1 ?_;clear hJ J;have h2:=Bt h1 hb1;clear h1 hbe hb1;refine aH rfl rfl (fun we hbe J hJ=>?_);go_simp;have h3:Below w1.heap.size w1 we:=au;refine (WA.out _ (HP.out.later (Bt HB1.out (Bt h2 h3)))).mono ?_;rintro e w2 ⟨rfl,hb2⟩;refine hJ _ _ hb2 ?_;clear hJ J;have h4:=Bt h2 (Bt h3 hb2);clear h3 h2 hbe hb2;refine zV ?_
    refine aQ [_,_] rfl (fun wf hbf=>?_);have h5:Below wx.heap.size wx wf:=Bt h4 au;replace X:=X.bl h5;replace HB1:=zh (Bt HB1.out h5);clear h5 h4 hbf cX lX;obtain ⟨cX,lX⟩:=X.cl;go_wp2_with fail
    try rw [e12]
    refine (HT.out _).mono ?_;rintro e w3 ⟨rfl,hb3⟩;replace HB1:=zh (Bt HB1.out hb3);replace X:=X.bl hb3;clear hb3 cX lX;obtain ⟨cX,lX⟩:=X.cl;go_wp2_with fail
    refine (HM.out _ (HP.out.later HB1.out)).mono ?_;rintro e w4 ⟨rfl,hb4⟩;replace HB1:=zh (Bt HB1.out hb4);replace X:=X.bl hb4;clear hb4 cX lX;obtain ⟨cX,lX⟩:=X.cl;go_wp2_with fail
    refine (HR.out _ (HP.out.later HB1.out)).mono ?_;rintro e w5 ⟨rfl,hb5⟩;replace HB1:=zh (Bt HB1.out hb5);clear hb5 X cX lX;cases hz:(tm.toList == [48])<;>rw [hz] at HI<;>cases up<;>cases ex
    all_goals
     go_wp2_with fail
     refine (HI.out _ (HE.out.later HB1.out)).mono ?_;rintro e w6 ⟨rfl,hb6⟩;have hw:=Bt HB1.out hb6;go_wp2_with fail
     go_ret2
     exact ⟨rfl,hw⟩
 ·have hno:¬ oJ n p q≤10^18:=Nat.not_le.2 (aw7 q1 p36 OZ (Nat.not_lt.1 fun h=>h1 (Ag.2 h)));rw [Oj hno];rw [show DL ((n^p:Nat):Int)= .tuple #[.string ⟨#[]⟩,.int .i64 6] from by unfold DL;rw [Int.natAbs_natCast,if_neg h1]] at WA;clear h1 hn0 hno hn;unfold bW at *;generalize (⟨(Lib.itoa (n:Int)).toArray⟩:ByteArray)=tn at *;go_enter Tryz.func253,Tryz.ntmps253
  go_wp2_with fail
  obtain ⟨wx,EW,hz,X⟩:=rG w #[.int .i64 (p:Int),.int .i64 (q:Int)] 252;rw [EW];clear EW;have HB1:=zh hz;clear hz;obtain ⟨bx,eb⟩:∃ y,w.heap.size=y:=⟨_,rfl⟩;rw [eb] at X ⊢;obtain ⟨cX,lX⟩:=X.cl;refine aC [(.pure,0),(.pure,2),(.pure,3),(.read,4),(.ext,1),(.ext,5),(.pure,6),(.pure,7),(.pure,8),(.fin,9),(.fin,10)] zk zk zR zP ?_;refine zW ?_;refine aH rfl rfl (fun we hbe J hJ=>?_);go_simp;have h1:Below wx.heap.size wx we:=au;refine (HO.out _ (HP.out.later (Bt HB1.out h1))).mono ?_;rintro e w1 ⟨rfl,hb1⟩;refine hJ _ _ hb1 ?_;clear hJ J;have h2:=Bt h1 hb1;clear h1 hbe hb1;refine aH rfl rfl (fun we hbe J hJ=>?_);go_simp;have h3:Below w1.heap.size w1 we:=au;refine (WA.out _ (HP.out.later (Bt HB1.out (Bt h2 h3)))).mono ?_;rintro e w2 ⟨rfl,hb2⟩;refine hJ _ _ hb2 ?_;clear hJ J;have h4:=Bt h2 (Bt h3 hb2);clear h3 h2 hbe hb2;refine zV ?_
  refine aQ [_,_] rfl (fun wf hbf=>?_);have h5:Below wx.heap.size wx wf:=Bt h4 au;replace X:=X.bl h5;replace HB1:=zh (Bt HB1.out h5);clear h5 h4 hbf cX lX;obtain ⟨cX,lX⟩:=X.cl;have hw:=HB1.out;go_wp2_with fail
  go_ret2
  exact ⟨rfl,hw⟩
end Go.Proofs.power
namespace Go.Proofs.power
open Go Go.RowKit Go.SW Go.Num Go.Mem Go.Proofs Go.Dec Go.eF Go.Proofs.whole Go.Proofs.aL
def JK (a b:Int × Int):(Int × Int) × Int:=if a.2≠0 then ((0,0),a.2) else if b.2≠0 then ((0,0),b.2) else if dA a.1 b.1 then ((a.1,b.1),0) else ((0,0),6)
theorem Xt (a b:Int × Int):Zv a b=bK (JK a b):=by
 unfold Zv JK bK
 by_cases h1:a.2=0<;>by_cases h2:b.2=0<;>cases h3:dA a.1 b.1<;>simp [h1,h2]
def Qa (lo hi p q:Int):(Int × Int) × Int:=if dA lo hi=false then ((0,0),30) else if eok p q=false∨lo<0 then ((0,0),2) else JK (vK lo.toNat p.toNat q.toNat false) (vK hi.toNat p.toNat q.toNat true)
theorem Jv (lo hi p q:Int) (w:World) (ht:fM.Pow w) (he:Er w) :
  Calls Tryz.prog 199 #[.agg #[.int .i64 lo,.int .i64 hi],.int .i64 p,.int .i64 q] w (fun e w'=>e= .returned (bK (Qa lo hi p q))∧Below w.heap.size w w'):=by
 have HP:=zh ht;have HE:=zh he;have HC:=zh (fun W=>iQ lo hi W);have HV:=zh (fun W=>kG p q W);clear ht he;generalize hz0:Qa lo hi p q=z at *;unfold Qa at hz0;obtain ⟨⟨z1,z2⟩,z3⟩:=z;unfold bK;simp only;go_enter Tryz.func199,Tryz.ntmps199
 go_wp2_with fail
 obtain ⟨wx,EW,hz,X,R⟩:=yA w #[.int .i64 lo,.int .i64 hi] 40 #[.int .i64 0,.int .i64 0] 40;rw [EW];clear EW;have HB:=zh hz;clear hz;obtain ⟨bx,eb⟩:∃ y,w.heap.size=y:=⟨_,rfl⟩;rw [eb] at X R ⊢;refine (HC.out _).mono ?_;rintro e w1 ⟨rfl,hb1⟩;replace X:=X.bl hb1;replace R:=R.bl hb1;replace HB:=zh (Bt HB.out hb1);clear hb1 HC;obtain ⟨cX,lX⟩:=X.cl;cases hk:dA lo hi
 ·rw [hk,if_pos rfl] at hz0;cases hz0
  have hx:=R.out;have cx:=hx.cell;have fx:=hx.free;have lx:=hx.lt;have hw:=HB.out;go_wp2_with fail
  refine aM rfl rfl aJ Tryz.underlying40 rfl zk ?_;exact ⟨rfl,au⟩
 ·rw [hk,if_neg zi] at hz0;go_wp2_with fail
  obtain ⟨wy,EW,hz,Y⟩:=rG w1 #[.int .i64 p,.int .i64 q] 252;rw [EW];clear EW;replace HB:=zh (Bt HB.out hz);replace X:=X.bl hz;replace R:=R.bl hz;clear hz cX lX;obtain ⟨by',eb⟩:∃ y,w1.heap.size=y:=⟨_,rfl⟩;rw [eb] at Y ⊢;refine (HV.out _).mono ?_;rintro e w2 ⟨rfl,hb2⟩;replace HB:=zh (Bt HB.out hb2);replace X:=X.bl hb2;replace R:=R.bl hb2;replace Y:=Y.bl hb2;clear hb2 HV;obtain ⟨cX,lX⟩:=X.cl;obtain ⟨cY,lY⟩:=Y.cl;cases hv:eok p q
  ·rw [hv,if_pos (Or.inl rfl)] at hz0;cases hz0
   have hx:=R.out;have cx:=hx.cell;have fx:=hx.free;have lx:=hx.lt;have hw:=HB.out;go_wp2_with fail
   refine aM rfl rfl aJ Tryz.underlying40 rfl zk ?_;exact ⟨rfl,au⟩
  ·by_cases h0:lo<0
   ·have g:decide (lo<0)=true:=decide_eq_true h0;rw [if_pos (Or.inr h0)] at hz0;cases hz0
    have hx:=R.out;have cx:=hx.cell;have fx:=hx.free;have lx:=hx.lt;have hw:=HB.out;go_wp2_with fail
    refine aM rfl rfl aJ Tryz.underlying40 rfl zk ?_;exact ⟨rfl,au⟩
   ·have g:decide (lo<0)=false:=decide_eq_false h0;rw [hv,if_neg (by simp [h0])] at hz0;obtain ⟨hp1,bl5,hq1,hq12⟩:1≤p∧p≤36∧1≤q∧q≤12:=by simpa [eok] using hv
    obtain ⟨hk1,hk2,hk3⟩: -1000000000000000000≤lo∧lo≤hi∧hi≤1000000000000000000:=by simpa [dA] using hk
    have h18:(10:Nat)^18=1000000000000000000:=by decide
    have E1:=fun W (h:Below w2.heap.size w2 W)=>Cj lo.toNat p.toNat q.toNat false (by rw [h18];omega) zo zo zo zo W (HP.out.later (Bt HB.out h)) (HE.out.later (Bt HB.out h));have E2:=fun W (h:Below w2.heap.size w2 W)=>Cj hi.toNat p.toNat q.toNat true (by rw [h18];omega) zo zo zo zo W (HP.out.later (Bt HB.out h)) (HE.out.later (Bt HB.out h));simp only [Int.toNat_of_nonneg (show 0≤lo by omega),Int.toNat_of_nonneg (show 0≤hi by omega),Int.toNat_of_nonneg (show 0≤p by omega),Int.toNat_of_nonneg (show 0≤q by omega)] at E1 E2;have HO:=zh (Us lo hi (.func (.func 253) #[.agg #[.int .i64 p,.int .i64 q]] #[]) 253 #[.agg #[.int .i64 p,.int .i64 q]] #[] _ _ w2 rfl E1 E2 rfl (fun args W=>by rfl));rw [Xt,hz0] at HO;unfold bK at HO;clear hz0 E1 E2 h18 hp1 bl5 hq1 hq12 hk1 hk2 hk3 hv h0 hk;go_wp2_with fail
    refine HO.out.mono ?_;rintro e w3 ⟨rfl,hb3⟩;replace HB:=zh (Bt HB.out hb3);replace R:=R.bl hb3;clear hb3 HO X Y cX lX cY lY;have hx:=R.out;have cx:=hx.cell;have fx:=hx.free;have lx:=hx.lt;have hw:=HB.out;go_wp2_with fail
    refine aM rfl rfl aJ Tryz.underlying40 rfl zk ?_;exact ⟨rfl,au⟩
theorem Bh (lo hi q:Int) (w:World) (ht:fM.Pow w) (he:Er w) :
  Calls Tryz.prog 124 #[.agg #[.int .i64 lo,.int .i64 hi],.int .i64 q] w (fun e w'=>e= .returned (bK (Qa lo hi 1 q))∧Below w.heap.size w w'):=by
 have HP:=zh ht;have HE:=zh he;have H:=zh (fun W h1 h2=>Jv lo hi 1 q W h1 h2);clear ht he;generalize Qa lo hi 1 q=z at *;obtain ⟨⟨z1,z2⟩,z3⟩:=z;unfold bK at *;simp only at *;go_enter Tryz.func124,Tryz.ntmps124
 go_wp2_with fail
 obtain ⟨wx,EW,hz,X,R⟩:=yA w #[.int .i64 lo,.int .i64 hi] 40 #[.int .i64 0,.int .i64 0] 40;rw [EW];clear EW;have HB:=zh hz;clear hz;obtain ⟨bx,eb⟩:∃ y,w.heap.size=y:=⟨_,rfl⟩;rw [eb] at X R ⊢;refine (H.out _ (HP.out.later HB.out) (HE.out.later HB.out)).mono ?_;rintro e w1 ⟨rfl,hb1⟩;replace R:=R.bl hb1;replace HB:=zh (Bt HB.out hb1);clear hb1 X;have hx:=R.out;have cx:=hx.cell;have fx:=hx.free;have lx:=hx.lt;have hw:=HB.out;go_wp2_with fail
 refine aM rfl rfl aJ Tryz.underlying40 rfl zk ?_;exact ⟨rfl,au⟩
end Go.Proofs.power
namespace Go.Proofs.dF
open Go Go.RowKit Go.SW Go.Num Go.Mem Go.Proofs Go.Dec Go.eF
theorem ai4 (x y:Value) (p q:Rat) (w:World) (hx:fJ w x p) (hy:fJ w y q) (kp:iA 1000000 p) (kq:iA 1000000 q) :
  Calls Tryz.prog 64 #[x,y] w (fun e w'=>∃ v,e= .returned v∧Below w.heap.size w w'∧fJ w' v (p*q)):=by
 obtain ⟨Qj,lH,RQ,pbH,mH,cbH,rfl,H,Hd⟩:=hx;replace H:=zh H;replace Hd:=zh Hd;obtain ⟨paG,lG,caG,pbG,mG,cbG,rfl,G,Gd⟩:=hy;replace G:=zh G;replace Gd:=zh Gd;have HP:=zh (UE p q);have hp:=p.den_pos;have hq:=q.den_pos;have hg:0<p.num.natAbs.gcd q.den:=Nat.gcd_pos_of_pos_right _ hq;have hh:0<q.num.natAbs.gcd p.den:=Nat.gcd_pos_of_pos_right _ hp;obtain ⟨kp1,kp2⟩:=kp;obtain ⟨kq1,kq2⟩:=kq;obtain ⟨g,Eg⟩:∃ y:Nat,Hid (p.num.natAbs.gcd q.den=y):=⟨_,zh rfl⟩;rw [Eg.out] at hg HP;obtain ⟨h,Eh⟩:∃ y:Nat,Hid (q.num.natAbs.gcd p.den=y):=⟨_,zh rfl⟩;rw [Eh.out] at hh HP;have k1:= @jM p.num.natAbs g;have k2:= @jM p.den h;have k3:= @jM q.num.natAbs h;have k4:= @jM q.den g;obtain ⟨a,Ea⟩:∃ y:Nat,Hid (p.num.natAbs / g=y):=⟨_,zh rfl⟩;rw [Ea.out] at HP k1;obtain ⟨b,Eb⟩:∃ y:Nat,Hid (p.den / h=y):=⟨_,zh rfl⟩;rw [Eb.out] at HP k2;obtain ⟨c,Ec⟩:∃ y:Nat,Hid (q.num.natAbs / h=y):=⟨_,zh rfl⟩
 rw [Ec.out] at HP k3;obtain ⟨d,Ed⟩:∃ y:Nat,Hid (q.den / g=y):=⟨_,zh rfl⟩;rw [Ed.out] at HP k4;obtain ⟨s,Es⟩:∃ y:Nat,Hid (a*c=y):=⟨_,zh rfl⟩;rw [Es.out] at HP;obtain ⟨t,Et⟩:∃ y:Nat,Hid (b*d=y):=⟨_,zh rfl⟩;rw [Et.out] at HP;have HGp:=zh hg;have HHp:=zh hh;have Kpn:Hid (sz 1000000000 p.num.natAbs≤549755813888):=by unfold Hid;omega
 have Kqn:Hid (sz 1000000000 q.num.natAbs≤549755813888):=by unfold Hid;omega
 have Kpd:Hid (sz 1000000000 p.den≤549755813888):=by unfold Hid;omega
 have Kqd:Hid (sz 1000000000 q.den≤549755813888):=by unfold Hid;omega
 have Ka:Hid (sz 1000000000 a≤1099511627776):=by unfold Hid;omega
 have Kb:Hid (sz 1000000000 b≤1099511627776):=by unfold Hid;omega
 have Kc:Hid (sz 1000000000 c≤1099511627776):=by unfold Hid;omega
 have Kd:Hid (sz 1000000000 d≤1099511627776):=by unfold Hid;omega
 clear k1 k2 k3 k4 kp1 kp2 kq1 kq2 hg hh hp hq;go_enter Tryz.func64,Tryz.ntmps64
 go_wp2_with fail
 refine ((wM _ _ p.num.natAbs q.den _ aK aK Kpn.out Kqd.out).mono (by rw [Eg.out];exact fun _ _ h=>h)).mono ?_;rintro e v1 ⟨v,rfl,hc1,hv⟩;obtain ⟨bw4,lMg,bC1,rfl⟩:=hv.slice;have Mg:=zh hv;clear hv;replace H:=zh (aW.carry H.out aK hc1);replace Hd:=zh (aW.carry Hd.out aK hc1);replace G:=zh (aW.carry G.out aK hc1);replace Gd:=zh (aW.carry Gd.out aK hc1);have BR:=ah.later (ah.at2 _ _ _ _ _) hc1;have bJ:=BR.cell;have bI:=BR.free;have B1:=ah.later (ah.alloc (ah.oL _ _ _ _) _) hc1;have cB1:=B1.cell;have sZ:=B1.free;have B0:=ah.later (ah.alloc (ah.alloc (ah.new _ _ _) _) _) hc1;have cB0:=B0.cell;have jU:=B0.free;go_wp2_with fail
 refine ((wM _ _ q.num.natAbs p.den _ aK aK Kqn.out Kpd.out).mono (by rw [Eh.out];exact fun _ _ h=>h)).mono ?_;rintro e v2 ⟨v,rfl,hc2,hv⟩;obtain ⟨bw3,lMh,bC0,rfl⟩:=hv.slice;have Mh:=zh hv;clear hv;replace H:=zh (aW.later H.out hc2);replace Hd:=zh (aW.later Hd.out hc2);replace G:=zh (aW.later G.out hc2);replace Gd:=zh (aW.later Gd.out hc2);replace Mg:=zh (aW.later Mg.out hc2);replace BR:=ah.later (BR) hc2;replace bJ:=BR.cell;replace bI:=BR.free;replace B1:=ah.later (B1) hc2;replace cB1:=B1.cell;replace sZ:=B1.free;replace B0:=ah.later (B0) hc2;replace cB0:=B0.cell;replace jU:=B0.free;go_wp2_with fail
 refine ((gB _ _ p.num.natAbs g _ aK aK HGp.out Kpn.out).mono (by rw [Ea.out];exact fun _ _ h=>h)).mono ?_;rintro e v3 ⟨v,vr,rfl,hc3,hv,qH⟩;obtain ⟨bw8,lMa,bC5,rfl⟩:=hv.slice;have Ma:=zh hv;clear hv;obtain ⟨bs7,by8,bt9,rfl⟩:=qH.slice;have Mar:=zh qH;clear qH;replace Hd:=zh (aW.later Hd.out hc3);replace G:=zh (aW.later G.out hc3);replace Gd:=zh (aW.later Gd.out hc3);replace Mg:=zh (aW.later Mg.out hc3);replace Mh:=zh (aW.later Mh.out hc3);replace BR:=ah.later (BR) hc3;replace bJ:=BR.cell;replace bI:=BR.free;replace B1:=ah.later (B1) hc3;replace cB1:=B1.cell;replace sZ:=B1.free;replace B0:=ah.later (B0) hc3;replace cB0:=B0.cell;replace jU:=B0.free;go_wp2_with fail
 clear Mar H;refine ((gB _ _ p.den h _ aK aK HHp.out Kpd.out).mono (by rw [Eb.out];exact fun _ _ h=>h)).mono ?_;rintro e v4 ⟨v,vr,rfl,hc4,hv,qH⟩;obtain ⟨bw7,lMb,bC4,rfl⟩:=hv.slice;have Mb:=zh hv;clear hv;obtain ⟨bs6,by7,bt8,rfl⟩:=qH.slice;have Mbr:=zh qH;clear qH;replace G:=zh (aW.later G.out hc4);replace Gd:=zh (aW.later Gd.out hc4);replace Mg:=zh (aW.later Mg.out hc4);replace Mh:=zh (aW.later Mh.out hc4);replace Ma:=zh (aW.later Ma.out hc4);replace BR:=ah.later (BR) hc4;replace bJ:=BR.cell;replace bI:=BR.free;replace B1:=ah.later (B1) hc4;replace cB1:=B1.cell;replace sZ:=B1.free;replace B0:=ah.later (B0) hc4;replace cB0:=B0.cell;replace jU:=B0.free;go_wp2_with fail
 clear Mbr Hd;refine ((gB _ _ q.num.natAbs h _ aK aK HHp.out Kqn.out).mono (by rw [Ec.out];exact fun _ _ h=>h)).mono ?_;rintro e v5 ⟨v,vr,rfl,pK,hv,qH⟩;obtain ⟨bw6,lMc,bC3,rfl⟩:=hv.slice;have Mc:=zh hv;clear hv;obtain ⟨bs5,by6,bt7,rfl⟩:=qH.slice;have Mcr:=zh qH;clear qH;replace Gd:=zh (aW.later Gd.out pK);replace Mg:=zh (aW.later Mg.out pK);replace Ma:=zh (aW.later Ma.out pK);replace Mb:=zh (aW.later Mb.out pK);replace BR:=ah.later (BR) pK;replace bJ:=BR.cell;replace bI:=BR.free;replace B1:=ah.later (B1) pK;replace cB1:=B1.cell;replace sZ:=B1.free;replace B0:=ah.later (B0) pK;replace cB0:=B0.cell;replace jU:=B0.free;go_wp2_with fail
 clear Mcr G;refine ((gB _ _ q.den g _ aK aK HGp.out Kqd.out).mono (by rw [Ed.out];exact fun _ _ h=>h)).mono ?_;rintro e v6 ⟨v,vr,rfl,hc6,hv,qH⟩;obtain ⟨bw5,lMd,bC2,rfl⟩:=hv.slice;have Md:=zh hv;clear hv;obtain ⟨bs4,by5,bt6,rfl⟩:=qH.slice;have Mdr:=zh qH;clear qH;replace Ma:=zh (aW.later Ma.out hc6);replace Mb:=zh (aW.later Mb.out hc6);replace Mc:=zh (aW.later Mc.out hc6);replace BR:=ah.later (BR) hc6;replace bJ:=BR.cell;replace bI:=BR.free;replace B1:=ah.later (B1) hc6;replace cB1:=B1.cell;replace sZ:=B1.free;replace B0:=ah.later (B0) hc6;replace cB0:=B0.cell;replace jU:=B0.free;go_wp2_with fail
 clear Mdr Gd;refine aC [(.pure,0),(.pure,1),(.pure,3),(.pure,4),(.read,5),(.pure,6),(.pure,7),(.read,8),(.pure,9),(.pure,11),(.pure,12),(.ext,2),(.ext,10),(.ext,13),(.pure,14),(.fin,15)] zk zk zR zP ?_;refine zV ?_;refine aH rfl rfl (fun w7 fK J hJ=>?_);go_simp;replace Ma:=zh (aW.carry Ma.out aK fK);replace Mb:=zh (aW.carry Mb.out aK fK);replace Mc:=zh (aW.carry Mc.out aK fK);replace Md:=zh (aW.carry Md.out aK fK);replace BR:=ah.later (ah.drew BR) fK;replace bJ:=BR.cell;replace bI:=BR.free;refine ((jm _ _ a c _ aK aK Ka.out Kc.out).mono (by rw [Es.out];exact fun _ _ h=>h)).mono ?_;rintro e v7 ⟨v,rfl,Oc,hv⟩;obtain ⟨bw2,lMs,bB9,rfl⟩:=hv.slice;have Ms:=zh hv;clear hv;replace Ma:=zh (aW.later Ma.out Oc);replace Mb:=zh (aW.later Mb.out Oc);replace Mc:=zh (aW.later Mc.out Oc);replace Md:=zh (aW.later Md.out Oc)
 replace BR:=ah.later (BR) Oc;replace bJ:=BR.cell;replace bI:=BR.free;refine hJ _ _ Oc ?_;clear hJ J;refine aH rfl rfl (fun w8 oK J hJ=>?_);go_simp;replace Mb:=zh (aW.later Mb.out oK);replace Md:=zh (aW.later Md.out oK);replace Ms:=zh (aW.later Ms.out oK);replace BR:=ah.later (BR) oK;replace bJ:=BR.cell;replace bI:=BR.free;refine (dS _ s _ _ aK).mono ?_;rintro e v8 ⟨v,rfl,hc8,hv⟩;obtain ⟨bw0,lMv,bB7,rfl,Mv⟩:=hv;replace Mv:=zh Mv;replace Mb:=zh (aW.later Mb.out hc8);replace Md:=zh (aW.later Md.out hc8);replace Ms:=zh (aW.later Ms.out hc8);replace BR:=ah.later (BR) hc8;replace bJ:=BR.cell;replace bI:=BR.free;refine hJ _ _ hc8 ?_;clear hJ J;refine aH rfl rfl (fun w9 qW J hJ=>?_);go_simp;replace Mb:=zh (aW.later Mb.out qW);replace Md:=zh (aW.later Md.out qW);replace Mv:=zh (aW.later Mv.out qW)
 replace BR:=ah.later (BR) qW;replace bJ:=BR.cell;replace bI:=BR.free;refine ((jm _ _ b d _ aK aK Kb.out Kd.out).mono (by rw [Et.out];exact fun _ _ h=>h)).mono ?_;rintro e v9 ⟨v,rfl,Vh,hv⟩;obtain ⟨bw1,lMt,bB8,rfl⟩:=hv.slice;have Mt:=zh hv;clear hv;replace Mb:=zh (aW.later Mb.out Vh);replace Md:=zh (aW.later Md.out Vh);replace Mv:=zh (aW.later Mv.out Vh);replace BR:=ah.later (BR) Vh;replace bJ:=BR.cell;replace bI:=BR.free;refine hJ _ _ Vh ?_;clear hJ J;refine zV ?_;refine aQ [_] rfl (fun w14 aN4=>?_);replace BR:=ah.later (BR) aN4;replace bJ:=BR.cell;replace bI:=BR.free;go_wp2_with fail
 refine bZ rfl rfl aJ Tryz.underlying108 rfl zk ?_;exact ⟨_,rfl,au,fJ.mk (iD s (!(decide (p.num<0) == decide (q.num<0)))).natAbs t aK aK (by rw [HP.out.1]) HP.out.2.symm (by rw [HP.out.1])⟩
theorem yR (w:World) :
  Calls Tryz.prog 62 #[.agg #[.slice none 0 0,.bool false,.slice none 0 0],.int .i64 20] w (fun e w'=>e= .returned (.tuple #[.agg #[.string ⟨#[]⟩,.string ⟨#[]⟩],.int .i64 20])∧Below w.heap.size w w'):=by
 go_enter Tryz.func62,Tryz.ntmps62
 go_wp2_with fail
 refine aM rfl rfl aJ Tryz.underlying32 rfl zk ?_;exact ⟨rfl,au⟩
theorem BA (v:Value) (q:Rat) (w:World) (h:fJ w v q) (k:iA 1000000 q) (ht:fM.Pow w) :
  Calls Tryz.prog 62 #[v,.int .i64 0] w (fun e w'=>e= .returned (Fr.res (wr q))∧Below w.heap.size w w'):=by
 obtain ⟨Qj,lH,RQ,pbH,mH,cbH,rfl,H,Hd⟩:=h;replace H:=zh H;replace Hd:=zh Hd;have HT:=zh ht;have K:=zh k;clear ht k;obtain ⟨x,Ex⟩:∃ y:FrI,Hid (wr q=y):=⟨_,zh rfl⟩;rw [Ex.out];obtain ⟨⟨s,t⟩,e⟩:=x;rw [mD];go_enter Tryz.func62,Tryz.ntmps62
 go_wp2_with fail
 refine ((kF _ q _ (fJ.of aK aK) K.out (HT.out.later au)).mono (by rw [Ex.out,mD];exact fun _ _ h=>h)).mono ?_;rintro e v1 ⟨rfl,hc1⟩;have BR:=ah.later (ah.oL _ _ _ _) hc1;have bJ:=BR.cell;have bI:=BR.free;have gT:=BR.lt;go_wp2_with fail
 refine aM rfl rfl aJ Tryz.underlying32 rfl zk ?_;exact ⟨rfl,au⟩
theorem aa9 (s t s' t':ByteArray) (w:World) (p q:Rat) (h:rd ⟨s,t⟩=some p) (k:rd ⟨s',t'⟩=some q) :
  Calls Tryz.prog 63 #[.agg #[.string s,.string t],.agg #[.string s',.string t'],.func (.func 64) #[] #[]] w (fun e w'=>∃ v,e= .returned (.tuple #[v,.int .i64 0])∧Below w.heap.size w w'∧fJ w' v (p*q)):=by
 have HR:=zh (fI h);have HS:=zh (fI k);have KP:=zh ((iT (kJ h).2).mono (show 67≤1000000 by omega));have KQ:=zh ((iT (kJ k).2).mono (show 67≤1000000 by omega));clear h k;obtain ⟨r,Er⟩:∃ y:Rat,Hid (p*q=y):=⟨_,zh rfl⟩;rw [Er.out];go_enter Tryz.func63,Tryz.ntmps63
 go_wp2_with fail
 refine (HR.out _).mono ?_;rintro e v1 ⟨v,rfl,hc1,hv⟩;obtain ⟨GU,lHp,Jj,JG,mHp,JY,rfl,Hp,ql⟩:=hv;replace Hp:=zh Hp;replace ql:=zh ql;have BR:=ah.later (ah.at2 _ _ _ _ _) hc1;have bJ:=BR.cell;have bI:=BR.free;have gT:=BR.lt;have B1:=ah.later (ah.alloc (ah.oL _ _ _ _) _) hc1;have cB1:=B1.cell;have sZ:=B1.free;have lB1:=B1.lt;go_wp2_with fail
 refine (HS.out _).mono ?_;rintro e v2 ⟨v,rfl,hc2,hv⟩;obtain ⟨xU,Ta,xY,Af,XF,AU,rfl,Hq,qj⟩:=hv;replace Hq:=zh Hq;replace qj:=zh qj;replace Hp:=zh (aW.carry Hp.out aK hc2);replace ql:=zh (aW.carry ql.out aK hc2);replace X1:ah _ (v1.heap.size) _ _:=ah.later aJ hc2;(try simp only [List.setIfInBounds_toArray,List.set_cons_zero,List.set_cons_succ] at X1);replace gJ:=X1.cell;replace gN:=X1.free;replace gI:=X1.lt;replace BR:ah _ (w.heap.size+1+1) _ _:=ah.later aJ hc2;(try simp only [List.setIfInBounds_toArray,List.set_cons_zero,List.set_cons_succ] at BR);replace bJ:=BR.cell;replace bI:=BR.free;replace gT:=BR.lt;go_wp2_with fail
 refine ((ai4 _ _ p q _ (fJ.of aK aK) (fJ.of aK aK) KP.out KQ.out).mono (by rw [Er.out];exact fun _ _ h=>h)).mono ?_;rintro e v3 ⟨v,rfl,hc3,hv⟩;obtain ⟨Nn,lHr,Ot,Um,mHr,Vu,rfl,Hr,CF⟩:=hv;replace Hr:=zh Hr;replace CF:=zh CF;replace BR:ah _ (w.heap.size+1+1) _ _:=ah.later aJ hc3;(try simp only [List.setIfInBounds_toArray,List.set_cons_zero,List.set_cons_succ] at BR);replace bJ:=BR.cell;replace bI:=BR.free;replace gT:=BR.lt;go_wp2_with fail
 refine aM rfl rfl aJ Tryz.underlying108 rfl zk ?_;exact ⟨_,rfl,au,fJ.of aK aK⟩
theorem Kk (s t s' t':ByteArray) (w:World) (h:rd ⟨s,t⟩=none∨rd ⟨s',t'⟩=none) :
  Calls Tryz.prog 63 #[.agg #[.string s,.string t],.agg #[.string s',.string t'],.func (.func 64) #[] #[]] w (fun e w'=>e= .returned (.tuple #[.agg #[.slice none 0 0,.bool false,.slice none 0 0],.int .i64 20])∧Below w.heap.size w w'):=by
 cases h1:rd ⟨s,t⟩ with
 | none =>
  have HR:=zh (gK h1);cases k:rd ⟨s',t'⟩ with
  | none =>
   have HS:=zh (gK k);clear h k h1;go_enter Tryz.func63,Tryz.ntmps63
   go_wp2_with fail
   refine (HR.out _).mono ?_;rintro e v1 ⟨rfl,hc1⟩;have BR:=ah.later (ah.at2 _ _ _ _ _) hc1;have bJ:=BR.cell;have bI:=BR.free;have gT:=BR.lt;have B1:=ah.later (ah.alloc (ah.oL _ _ _ _) _) hc1;have cB1:=B1.cell;have sZ:=B1.free;have lB1:=B1.lt;go_wp2_with fail
   refine (HS.out _).mono ?_;rintro e v2 ⟨rfl,hc2⟩;replace BR:ah _ (w.heap.size+1+1) _ _:=ah.later aJ hc2;replace bJ:=BR.cell;replace bI:=BR.free;replace gT:=BR.lt;have q1:w.heap.size+1<v2.heap.size:=by omega
   go_wp2_with fail
   refine aM rfl rfl aJ Tryz.underlying108 rfl zk ?_;exact ⟨rfl,au⟩
  | some q =>
   have HS:=zh (fI k);clear h k h1;go_enter Tryz.func63,Tryz.ntmps63
   go_wp2_with fail
   refine (HR.out _).mono ?_;rintro e v1 ⟨rfl,hc1⟩;have BR:=ah.later (ah.at2 _ _ _ _ _) hc1;have bJ:=BR.cell;have bI:=BR.free;have gT:=BR.lt;have B1:=ah.later (ah.alloc (ah.oL _ _ _ _) _) hc1;have cB1:=B1.cell;have sZ:=B1.free;have lB1:=B1.lt;go_wp2_with fail
   refine (HS.out _).mono ?_;rintro e v2 ⟨v,rfl,hc2,hv⟩;obtain ⟨xU,Ta,xY,Af,XF,AU,rfl,Hq,qj⟩:=hv;replace Hq:=zh Hq;replace qj:=zh qj;replace BR:ah _ (w.heap.size+1+1) _ _:=ah.later aJ hc2;replace bJ:=BR.cell;replace bI:=BR.free;replace gT:=BR.lt;have q1:w.heap.size+1<v2.heap.size:=by omega
   go_wp2_with fail
   refine aM rfl rfl aJ Tryz.underlying108 rfl zk ?_;exact ⟨rfl,au⟩
 | some p =>
  have HR:=zh (fI h1);cases k:rd ⟨s',t'⟩ with
  | none =>
   have HS:=zh (gK k);clear h k h1;go_enter Tryz.func63,Tryz.ntmps63
   go_wp2_with fail
   refine (HR.out _).mono ?_;rintro e v1 ⟨v,rfl,hc1,hv⟩;obtain ⟨GU,lHp,Jj,JG,mHp,JY,rfl,Hp,ql⟩:=hv;replace Hp:=zh Hp;replace ql:=zh ql;have BR:=ah.later (ah.at2 _ _ _ _ _) hc1;have bJ:=BR.cell;have bI:=BR.free;have gT:=BR.lt;have B1:=ah.later (ah.alloc (ah.oL _ _ _ _) _) hc1;have cB1:=B1.cell;have sZ:=B1.free;have lB1:=B1.lt;go_wp2_with fail
   refine (HS.out _).mono ?_;rintro e v2 ⟨rfl,hc2⟩;replace BR:ah _ (w.heap.size+1+1) _ _:=ah.later aJ hc2;replace bJ:=BR.cell;replace bI:=BR.free;replace gT:=BR.lt;have q1:w.heap.size+1<v2.heap.size:=by omega
   go_wp2_with fail
   refine aM rfl rfl aJ Tryz.underlying108 rfl zk ?_;exact ⟨rfl,au⟩
  | some q=>rw [h1,k] at h;simp at h
theorem qP (a b:Fr) (w:World) (ht:fM.Pow w) :
  Calls Tryz.prog 18 #[a.v,b.v] w (fun e w'=>e= .returned (Fr.res (og a b))∧Below w.heap.size w w'):=by
 obtain ⟨s,t⟩:=a;obtain ⟨s',t'⟩:=b
 show Calls _ _ #[.agg #[.string s,.string t],.agg #[.string s',.string t']] _ _
 unfold og;have HT:=zh ht;clear ht
 by_cases hbad:rd ⟨s,t⟩=none∨rd ⟨s',t'⟩=none
 ·have e:∀ f,bin f ⟨s,t⟩ ⟨s',t'⟩=(Fr.no,20):=fun f=>by
   rcases hbad with h|h
   ·exact rV h
   ·exact pV h
  rw [e];have HA:=zh (fun w=>Kk s t s' t' w hbad);clear hbad e;go_enter Tryz.func18,Tryz.ntmps18
  go_wp2_with fail
  refine (HA.out _).mono ?_;rintro e v1 ⟨rfl,hc1⟩;have BR:=ah.later (ah.at2 _ _ _ _ _) hc1;have bJ:=BR.cell;have bI:=BR.free;have gT:=BR.lt;go_wp2_with fail
  refine (yR _).mono ?_;rintro e v2 ⟨rfl,hc2⟩;replace BR:=ah.later (BR) hc2;replace bJ:=BR.cell;replace bI:=BR.free;replace gT:=BR.lt;go_wp2_with fail
  refine aM rfl rfl aJ Tryz.underlying32 rfl zk ?_;exact ⟨rfl,au⟩
 ·obtain ⟨p,hp⟩:∃ p,rd ⟨s,t⟩=some p:=Option.ne_none_iff_exists'.1 (fun e=>hbad (.inl e));obtain ⟨q,hq⟩:∃ q,rd ⟨s',t'⟩=some q:=Option.ne_none_iff_exists'.1 (fun e=>hbad (.inr e));rw [mZ hp hq];have KP:=zh (iT (kJ hp).2);have KQ:=zh (iT (kJ hq).2);have HA:=zh (fun w=>aa9 s t s' t' w p q hp hq);have KR:Hid (iA 1000000 (p*q)):=zh (iA.mono (k:=135) ((kM KP.out KQ.out).mono zo) zo);clear hp hq hbad KP KQ;obtain ⟨r,Er⟩:∃ y:Rat,Hid (p*q=y):=⟨_,zh rfl⟩;simp only [Er.out] at KR HA ⊢;obtain ⟨x,Ex⟩:∃ y:FrI,Hid (wr r=y):=⟨_,zh rfl⟩;rw [Ex.out];obtain ⟨⟨s1,t1⟩,e⟩:=x;rw [mD];go_enter Tryz.func18,Tryz.ntmps18
  go_wp2_with fail
  refine (HA.out _).mono ?_;rintro e v1 ⟨v,rfl,hc1,hv⟩;obtain ⟨Nn,lHr,Ot,Um,mHr,Vu,rfl,Hr,CF⟩:=hv;replace Hr:=zh Hr;replace CF:=zh CF;have BR:=ah.later (ah.at2 _ _ _ _ _) hc1;have bJ:=BR.cell;have bI:=BR.free;have gT:=BR.lt;go_wp2_with fail
  refine ((BA _ r _ (fJ.of aK aK) KR.out (HT.out.later au)).mono (by rw [Ex.out,mD];exact fun _ _ h=>h)).mono ?_;rintro e v2 ⟨rfl,hc2⟩;replace BR:=ah.later (BR) hc2;replace bJ:=BR.cell;replace bI:=BR.free;replace gT:=BR.lt;go_wp2_with fail
  refine aM rfl rfl aJ Tryz.underlying32 rfl zk ?_;exact ⟨rfl,au⟩
theorem aq3 (x y:Value) (p q:Rat) (w:World) (hx:fJ w x p) (hy:fJ w y q) (kp:iA 1000000 p) (kq:iA 1000000 q) :
  Calls Tryz.prog 239 #[x,y] w (fun e w'=>∃ v,e= .returned v∧Below w.heap.size w w'∧fJ w' v (p+q)):=by
 obtain ⟨Qj,lH,RQ,pbH,mH,cbH,rfl,H,Hd⟩:=hx;replace H:=zh H;replace Hd:=zh Hd;obtain ⟨paG,lG,caG,pbG,mG,cbG,rfl,G,Gd⟩:=hy;replace G:=zh G;replace Gd:=zh Gd;have HP:=zh (VL p q);have hp:=p.den_pos;have hq:=q.den_pos;have hg:0<p.den.gcd q.den:=Nat.gcd_pos_of_pos_right _ hq;have k1:= @jM q.den (p.den.gcd q.den);have k2:= @jM p.den (p.den.gcd q.den);have k3:=MZ (a:=p.den) hq;obtain ⟨kp1,kp2⟩:=kp;obtain ⟨kq1,kq2⟩:=kq;obtain ⟨g,Eg⟩:∃ y:Nat,Hid (p.den.gcd q.den=y):=⟨_,zh rfl⟩;rw [Eg.out] at hg HP k1 k2 k3;obtain ⟨l,El⟩:∃ y:Nat,Hid (q.den / g=y):=⟨_,zh rfl⟩;rw [El.out] at HP k1;obtain ⟨r,Er⟩:∃ y:Nat,Hid (p.den / g=y):=⟨_,zh rfl⟩;rw [Er.out] at HP k2;have k4:=pX p.num l;have k5:=pX q.num r;obtain ⟨s,Es⟩:∃ y:Int,Hid (p.num*(l:Int)=y):=⟨_,zh rfl⟩;rw [Es.out] at HP k4;obtain ⟨t,Et⟩:∃ y:Int,Hid (q.num*(r:Int)=y):=⟨_,zh rfl⟩;rw [Et.out] at HP k5
 have k6:=KH s t;obtain ⟨u,Eu⟩:∃ y:Int,Hid (s+t=y):=⟨_,zh rfl⟩;rw [Eu.out] at HP k6;have hh:0<u.natAbs.gcd g:=Nat.gcd_pos_of_pos_right _ hg;obtain ⟨h,Eh⟩:∃ y:Nat,Hid (u.natAbs.gcd g=y):=⟨_,zh rfl⟩;rw [Eh.out] at HP hh;obtain ⟨m,Em⟩:∃ y:Nat,Hid (u.natAbs / h=y):=⟨_,zh rfl⟩;rw [Em.out] at HP;obtain ⟨c,Ec⟩:∃ y:Nat,Hid (q.den / h=y):=⟨_,zh rfl⟩;rw [Ec.out] at HP;have k7:sz 1000000000 c≤sz 1000000000 q.den:=by rw [← Ec.out];exact jM
 obtain ⟨d,Ed⟩:∃ y:Nat,Hid (r*c=y):=⟨_,zh rfl⟩;rw [Ed.out] at HP;have HG:=zh hg;have HH:=zh hh;have Kpn:Hid (sz 1000000000 p.num.natAbs≤549755813888):=by unfold Hid;omega
 have Kqn:Hid (sz 1000000000 q.num.natAbs≤549755813888):=by unfold Hid;omega
 have Kpd:Hid (sz 1000000000 p.den≤549755813888):=by unfold Hid;omega
 have Kqd:Hid (sz 1000000000 q.den≤549755813888):=by unfold Hid;omega
 have Kg:Hid (sz 1000000000 g≤549755813888):=by unfold Hid;omega
 have Kl:Hid (sz 1000000000 l≤549755813888):=by unfold Hid;omega
 have Kr:Hid (sz 1000000000 r≤549755813888):=by unfold Hid;omega
 have Ks:Hid (sz 1000000000 s.natAbs≤549755813888):=by unfold Hid;omega
 have Kt:Hid (sz 1000000000 t.natAbs≤549755813888):=by unfold Hid;omega
 have Ku:Hid (sz 1000000000 u.natAbs≤549755813888):=by unfold Hid;omega
 have Kc:Hid (sz 1000000000 c≤549755813888):=by unfold Hid;omega
 clear k1 k2 k3 k4 k5 k6 k7 kp1 kp2 kq1 kq2 hg hh hp hq;go_enter Tryz.func239,Tryz.ntmps239
 go_wp2_with fail
 refine ((wM _ _ p.den q.den _ aK aK Kpd.out Kqd.out).mono (by rw [Eg.out];exact fun _ _ h=>h)).mono ?_;rintro e v1 ⟨v,rfl,hc1,hv⟩;obtain ⟨bi9,lHg,bn5,rfl⟩:=hv.slice;have Hg:=zh hv;clear hv;have BR:=ah.later (ah.at2 _ _ _ _ _) hc1;have bJ:=BR.cell;have bI:=BR.free;have B1:=ah.later (ah.alloc (ah.oL _ _ _ _) _) hc1;have cB1:=B1.cell;have sZ:=B1.free;have B0:=ah.later (ah.alloc (ah.alloc (ah.new _ _ _) _) _) hc1;have cB0:=B0.cell;have jU:=B0.free;go_wp2_with fail
 refine ((gB _ _ q.den g _ aK aK HG.out Kqd.out).mono (by rw [El.out];exact fun _ _ h=>h)).mono ?_;rintro e v2 ⟨v,vr,rfl,hc2,hv,qH⟩;obtain ⟨bx5,lHl,bD0,rfl⟩:=hv.slice;have Hl:=zh hv;clear hv;obtain ⟨bt0,bA0,bu2,rfl⟩:=qH.slice;have Hlr:=zh qH;clear qH;replace BR:=ah.later (BR) hc2;replace bJ:=BR.cell;replace bI:=BR.free;replace B1:=ah.later (B1) hc2;replace cB1:=B1.cell;replace sZ:=B1.free;replace B0:=ah.later (B0) hc2;replace cB0:=B0.cell;replace jU:=B0.free;go_wp2_with fail
 refine ((gB _ _ p.den g _ aK aK HG.out Kpd.out).mono (by rw [Er.out];exact fun _ _ h=>h)).mono ?_;rintro e v3 ⟨v,vr,rfl,hc3,hv,qH⟩;obtain ⟨Nn,lHr,Ot,rfl⟩:=hv.slice;have Hr:=zh hv;clear hv;obtain ⟨bs8,by9,bu0,rfl⟩:=qH.slice;have Hrr:=zh qH;clear qH;replace BR:=ah.later (BR) hc3;replace bJ:=BR.cell;replace bI:=BR.free;replace B1:=ah.later (B1) hc3;replace cB1:=B1.cell;replace sZ:=B1.free;replace B0:=ah.later (B0) hc3;replace cB0:=B0.cell;replace jU:=B0.free;go_wp2_with fail
 refine aC [(.pure,0),(.read,1),(.pure,2),(.pure,4),(.read,5),(.pure,6),(.ext,3),(.ext,7),(.ext,8),(.alloc #[.slice none 0 0,.bool false] 106,9),(.fin,10)] zk zk zR zP ?_;refine zV ?_;refine aH rfl rfl (fun w4 hb4 J hJ=>?_);go_simp;replace BR:=ah.later (ah.drew BR) hb4;replace bJ:=BR.cell;replace bI:=BR.free;replace B1:=ah.later (ah.drew B1) hb4;replace cB1:=B1.cell;replace sZ:=B1.free;replace B0:=ah.later (ah.drew B0) hb4;replace cB0:=B0.cell;replace jU:=B0.free;refine ((tH _ _ p.num l _ (dH.eO aK) aK Kpn.out Kl.out).mono (by rw [Es.out];exact fun _ _ h=>h)).mono ?_;rintro e v4 ⟨v,rfl,hc4,hv⟩;obtain ⟨JI,lHs,Ke,rfl,Hs⟩:=hv;replace Hs:=zh Hs;replace BR:=ah.later (BR) hc4;replace bJ:=BR.cell;replace bI:=BR.free;replace B1:=ah.later (B1) hc4;replace cB1:=B1.cell;replace sZ:=B1.free
 replace B0:=ah.later (B0) hc4;replace cB0:=B0.cell;replace jU:=B0.free;refine hJ _ _ hc4 ?_;clear hJ J;refine aH rfl rfl (fun w5 hb5 J hJ=>?_);go_simp;replace BR:=ah.later (BR) hb5;replace bJ:=BR.cell;replace bI:=BR.free;replace B1:=ah.later (B1) hb5;replace cB1:=B1.cell;replace sZ:=B1.free;replace B0:=ah.later (B0) hb5;replace cB0:=B0.cell;replace jU:=B0.free;refine ((tH _ _ q.num r _ (dH.eO aK) aK Kqn.out Kr.out).mono (by rw [Et.out];exact fun _ _ h=>h)).mono ?_;rintro e v5 ⟨v,rfl,pK,hv⟩;obtain ⟨bx2,lHt,bC7,rfl,Ht⟩:=hv;replace Ht:=zh Ht;replace BR:=ah.later (BR) pK;replace bJ:=BR.cell;replace bI:=BR.free;replace B1:=ah.later (B1) pK;replace cB1:=B1.cell;replace sZ:=B1.free;replace B0:=ah.later (B0) pK;replace cB0:=B0.cell;replace jU:=B0.free;refine hJ _ _ pK ?_;clear hJ J;refine aH rfl rfl (fun w6 hb6 J hJ=>?_);go_simp
 replace BR:=ah.later (BR) hb6;replace bJ:=BR.cell;replace bI:=BR.free;replace B1:=ah.later (B1) hb6;replace cB1:=B1.cell;replace sZ:=B1.free;replace B0:=ah.later (B0) hb6;replace cB0:=B0.cell;replace jU:=B0.free;refine ((yI _ _ s t _ (dH.eO aK) (dH.eO aK) Ks.out Kt.out).mono (by rw [Eu.out];exact fun _ _ h=>h)).mono ?_;rintro e v6 ⟨v,rfl,hc6,hv⟩;obtain ⟨bw9,lHu,bC6,rfl,Hu⟩:=hv;replace Hu:=zh Hu;replace BR:=ah.later (BR) hc6;replace bJ:=BR.cell;replace bI:=BR.free;replace B1:=ah.later (B1) hc6;replace cB1:=B1.cell;replace sZ:=B1.free;replace B0:=ah.later (B0) hc6;replace cB0:=B0.cell;replace jU:=B0.free;refine hJ _ _ hc6 ?_;clear hJ J;refine dw rfl (fun b1 w7 hw7 Vl ak5 aN8 dJ=>?_);go_simp;replace dJ:ah _ _ _ _:=dJ;have aN7:w.heap.size≤b1:=(by first|omega|exact Nat.le_trans (Below.size (B:=w.heap.size) au) Vl)
 replace BR:=ah.later (BR) hw7;replace bJ:=BR.cell;replace bI:=BR.free;replace B1:=ah.later (B1) hw7;replace cB1:=B1.cell;replace sZ:=B1.free;replace B0:=ah.later (B0) hw7;replace cB0:=B0.cell;replace jU:=B0.free;refine aQ [_] rfl (fun w8 oK=>?_);replace BR:=ah.later (BR) oK;replace bJ:=BR.cell;replace bI:=BR.free;replace B1:=ah.later (B1) oK;replace cB1:=B1.cell;replace sZ:=B1.free;replace B0:=ah.later (B0) oK;replace cB0:=B0.cell;replace jU:=B0.free;replace dJ:=ah.later (dJ) oK;replace qJ:=dJ.cell;replace qI:=dJ.free;have n0:=B0.ne dJ zd;have n1:=B1.ne dJ zd;have n2:=BR.ne dJ zd;go_wp2_with fail
 refine ((wM _ _ u.natAbs g _ aK aK Ku.out Kg.out).mono (by rw [Eh.out];exact fun _ _ h=>h)).mono ?_;rintro e v9 ⟨v,rfl,Vh,hv⟩;obtain ⟨bx6,lHh,bD1,rfl⟩:=hv.slice;have Hh:=zh hv;clear hv;replace Hu:=zh (aW.carry Hu.out aK Vh);replace Hg:=zh (aW.carry Hg.out aK Vh);replace Hr:=zh (aW.carry Hr.out aK Vh);replace G:=zh (aW.carry G.out aK Vh);replace Gd:=zh (aW.carry Gd.out aK Vh);replace dJ:ah _ (b1) _ _:=ah.later aJ Vh;(try simp only [List.setIfInBounds_toArray,List.set_cons_zero,List.set_cons_succ] at dJ);replace qJ:=dJ.cell;replace qI:=dJ.free;replace BR:ah _ (w.heap.size+1+1) _ _:=ah.later aJ Vh;(try simp only [List.setIfInBounds_toArray,List.set_cons_zero,List.set_cons_succ] at BR);replace bJ:=BR.cell;replace bI:=BR.free
 replace B1:ah _ (w.heap.size+1) _ _:=ah.later aJ Vh;(try simp only [List.setIfInBounds_toArray,List.set_cons_zero,List.set_cons_succ] at B1);replace cB1:=B1.cell;replace sZ:=B1.free;replace B0:ah _ (w.heap.size) _ _:=ah.later aJ Vh;(try simp only [List.setIfInBounds_toArray,List.set_cons_zero,List.set_cons_succ] at B0);replace cB0:=B0.cell;replace jU:=B0.free;go_wp2_with fail
 refine ((gB _ _ u.natAbs h _ aK aK HH.out Ku.out).mono (by rw [Em.out];exact fun _ _ h=>h)).mono ?_;rintro e v10 ⟨v,vr,rfl,az5,hv,qH⟩;obtain ⟨bx4,lHm,bC9,rfl⟩:=hv.slice;have Hm:=zh hv;clear hv;obtain ⟨bs9,bz0,bu1,rfl⟩:=qH.slice;have Hmr:=zh qH;clear qH;replace dJ:=ah.later (dJ) az5;replace qJ:=dJ.cell;replace qI:=dJ.free;replace BR:=ah.later (BR) az5;replace bJ:=BR.cell;replace bI:=BR.free;replace B1:=ah.later (B1) az5;replace cB1:=B1.cell;replace sZ:=B1.free;replace B0:=ah.later (B0) az5;replace cB0:=B0.cell;replace jU:=B0.free;go_wp2_with fail
 refine ((gB _ _ q.den h _ aK aK HH.out Kqd.out).mono (by rw [Ec.out];exact fun _ _ h=>h)).mono ?_;rintro e v11 ⟨v,vr,rfl,az4,hv,qH⟩;obtain ⟨bj0,lHc,bn6,rfl⟩:=hv.slice;have Hc:=zh hv;clear hv;obtain ⟨bt1,bA1,bu3,rfl⟩:=qH.slice;have Hcr:=zh qH;clear qH;replace dJ:=ah.later (dJ) az4;replace qJ:=dJ.cell;replace qI:=dJ.free;replace BR:=ah.later (BR) az4;replace bJ:=BR.cell;replace bI:=BR.free;replace B1:=ah.later (B1) az4;replace cB1:=B1.cell;replace sZ:=B1.free;replace B0:=ah.later (B0) az4;replace cB0:=B0.cell;replace jU:=B0.free;go_wp2_with fail
 refine (dS _ m _ _ aK).mono ?_;rintro e v12 ⟨v,rfl,bb5,hv⟩;obtain ⟨bi8,lHv,bn4,rfl,Hv⟩:=hv;replace Hv:=zh Hv;replace dJ:=ah.later (dJ) bb5;replace qJ:=dJ.cell;replace qI:=dJ.free;replace BR:=ah.later (BR) bb5;replace bJ:=BR.cell;replace bI:=BR.free;go_wp2_with fail
 refine ((jm _ _ r c _ aK aK (Nat.le_trans Kr.out zo) (Nat.le_trans Kc.out zo)).mono (by rw [Ed.out];exact fun _ _ h=>h)).mono ?_;rintro e v13 ⟨v,rfl,bm6,hv⟩;obtain ⟨bx7,lHd,bD2,rfl⟩:=hv.slice;have Hd:=zh hv;clear hv;replace BR:=ah.later (BR) bm6;replace bJ:=BR.cell;replace bI:=BR.free;go_wp2_with fail
 refine bZ rfl rfl aJ Tryz.underlying108 rfl zk ?_;exact ⟨_,rfl,au,fJ.mk (iD m (decide (u<0))).natAbs d aK aK (by rw [HP.out.1]) HP.out.2.symm (by rw [HP.out.1])⟩
theorem UC (v:Value) (q:Rat) (w:World) (h:fJ w v q) :
  Calls Tryz.prog 281 #[v] w (fun e w'=>∃ v,e= .returned v∧Below w.heap.size w w'∧fJ w' v (-q)):=by
 obtain ⟨Qj,lH,RQ,pbH,mH,cbH,rfl,H,Hd⟩:=h;replace H:=zh H;replace Hd:=zh Hd;go_enter Tryz.func281,Tryz.ntmps281
 go_wp2_with fail
 refine aC [(.pure,0),(.read,1),(.pure,3),(.read,4),(.ext,2),(.pure,5),(.fin,6)] zk zk zR zP ?_;refine zV ?_;refine aH rfl rfl (fun w1 hb1 J hJ=>?_);go_simp;have BR:=ah.later (ah.drew (ah.oL _ _ _ _)) hb1;have bJ:=BR.cell;have bI:=BR.free;refine (wC _ q.num _ (dH.eO aK)).mono ?_;rintro e v1 ⟨v,rfl,hc1,hv⟩;obtain ⟨aI5,lHS,aP8,rfl,HS⟩:=hv;replace HS:=zh HS;replace BR:=ah.later (BR) hc1;replace bJ:=BR.cell;replace bI:=BR.free;refine hJ _ _ hc1 ?_;clear hJ J;refine zV ?_;refine aQ [_] rfl (fun w5 hb5=>?_);replace BR:=ah.later (BR) hb5;replace bJ:=BR.cell;replace bI:=BR.free;go_wp2_with fail
 refine bZ rfl rfl aJ Tryz.underlying108 rfl zk ?_;exact ⟨_,rfl,au,fJ.mk (-q.num).natAbs q.den aK aK rfl rfl (by simp [Rat.neg_num])⟩
theorem UQ (v:Value) (q:Rat) (w:World) (h:fJ w v q) (hq:q≠0) :
  Calls Tryz.prog 202 #[v] w (fun e w'=>∃ v,e= .returned v∧Below w.heap.size w w'∧fJ w' v q⁻¹):=by
 obtain ⟨Qj,lH,RQ,pbH,mH,cbH,rfl,H,Hd⟩:=h;replace H:=zh H;replace Hd:=zh Hd;have HE:=zh (ZJ hq);clear hq;go_enter Tryz.func202,Tryz.ntmps202
 go_wp2_with fail
 refine aC [(.pure,0),(.read,1),(.pure,2),(.pure,3),(.read,4),(.pure,6),(.pure,7),(.read,8),(.ext,5),(.pure,9),(.fin,10)] zk zk zR zP ?_;refine zV ?_;refine aH rfl rfl (fun w1 hb1 J hJ=>?_);go_simp;have BR:=ah.later (ah.drew (ah.oL _ _ _ _)) hb1;have bJ:=BR.cell;have bI:=BR.free;refine (dS _ q.den _ _ aK).mono ?_;rintro e v1 ⟨v,rfl,hc1,hv⟩;obtain ⟨aI5,lHS,aP8,rfl,HS⟩:=hv;replace HS:=zh HS;replace BR:=ah.later (BR) hc1;replace bJ:=BR.cell;replace bI:=BR.free;refine hJ _ _ hc1 ?_;clear hJ J;refine zV ?_;refine aQ [_] rfl (fun w5 hb5=>?_);replace BR:=ah.later (BR) hb5;replace bJ:=BR.cell;replace bI:=BR.free;go_wp2_with fail
 refine bZ rfl rfl aJ Tryz.underlying108 rfl zk ?_;exact ⟨_,rfl,au,fJ.mk (iD q.den (decide (q.num<0))).natAbs q.num.natAbs aK aK (by rw [HE.out.1]) HE.out.2.symm (by rw [HE.out.1])⟩
theorem aH4 (x y:Value) (p q:Rat) (w:World) (hx:fJ w x p) (hy:fJ w y q) (kp:iA 1000000 p) (kq:iA 1000000 q) :
  Calls Tryz.prog 240 #[x,y] w (fun e w'=>∃ v,e= .returned v∧Below w.heap.size w w'∧fJ w' v (p - q)):=by
 obtain ⟨Qj,lH,RQ,pbH,mH,cbH,rfl,H,Hd⟩:=hx;replace H:=zh H;replace Hd:=zh Hd;obtain ⟨paG,lG,caG,pbG,mG,cbG,rfl,G,Gd⟩:=hy;replace G:=zh G;replace Gd:=zh Gd;rw [Rat.sub_eq_add_neg];have KP:=zh kp;have KQ:=zh (uI kq);clear kp kq;obtain ⟨r,Er⟩:∃ y:Rat,Hid (-q=y):=⟨_,zh rfl⟩;rw [Er.out] at KQ ⊢;obtain ⟨s,Es⟩:∃ y:Rat,Hid (p+r=y):=⟨_,zh rfl⟩;rw [Es.out];go_enter Tryz.func240,Tryz.ntmps240
 go_wp2_with fail
 refine aC [(.read,0),(.read,1),(.ext,2),(.ext,3),(.fin,4)] zk zk zR zP ?_;refine zV ?_;refine aH rfl rfl (fun w1 hb1 J hJ=>?_);go_simp;have BR:=ah.later (ah.drew (ah.at2 _ _ _ _ _)) hb1;have bJ:=BR.cell;have bI:=BR.free;refine ((UC _ q _ (fJ.of aK aK)).mono (by rw [Er.out];exact fun _ _ h=>h)).mono ?_;rintro e v1 ⟨v,rfl,hc1,hv⟩;obtain ⟨Nn,lHr,Ot,Um,mHr,Vu,rfl,Hr,CF⟩:=hv;replace Hr:=zh Hr;replace CF:=zh CF;replace BR:=ah.later (BR) hc1;replace bJ:=BR.cell;replace bI:=BR.free;refine hJ _ _ hc1 ?_;clear hJ J;refine aH rfl rfl (fun w2 hb2 J hJ=>?_);go_simp;replace BR:=ah.later (BR) hb2;replace bJ:=BR.cell;replace bI:=BR.free;refine ((aq3 _ _ p r _ (fJ.of aK aK) (fJ.of aK aK) KP.out KQ.out).mono (by rw [Es.out];exact fun _ _ h=>h)).mono ?_;rintro e v2 ⟨v,rfl,hc2,hv⟩
 obtain ⟨JI,lHs,Ke,bv9,mHs,bB6,rfl,Hs,Hsd⟩:=hv;replace Hs:=zh Hs;replace Hsd:=zh Hsd;replace BR:=ah.later (BR) hc2;replace bJ:=BR.cell;replace bI:=BR.free;refine hJ _ _ hc2 ?_;clear hJ J;refine zV ?_;refine aQ [_] rfl (fun w14 aN4=>?_);replace BR:=ah.later (BR) aN4;replace bJ:=BR.cell;replace bI:=BR.free;go_wp2_with fail
 refine bZ rfl rfl aJ Tryz.underlying108 rfl zk ?_;exact ⟨_,rfl,au,fJ.of aK aK⟩
theorem ab0 (s t s' t':ByteArray) (w:World) (p q:Rat) (h:rd ⟨s,t⟩=some p) (k:rd ⟨s',t'⟩=some q) :
  Calls Tryz.prog 63 #[.agg #[.string s,.string t],.agg #[.string s',.string t'],.func (.func 239) #[] #[]] w (fun e w'=>∃ v,e= .returned (.tuple #[v,.int .i64 0])∧Below w.heap.size w w'∧fJ w' v (p+q)):=by
 have HR:=zh (fI h);have HS:=zh (fI k);have KP:=zh ((iT (kJ h).2).mono (show 67≤1000000 by omega));have KQ:=zh ((iT (kJ k).2).mono (show 67≤1000000 by omega));clear h k;obtain ⟨r,Er⟩:∃ y:Rat,Hid (p+q=y):=⟨_,zh rfl⟩;rw [Er.out];go_enter Tryz.func63,Tryz.ntmps63
 go_wp2_with fail
 refine (HR.out _).mono ?_;rintro e v1 ⟨v,rfl,hc1,hv⟩;obtain ⟨GU,lHp,Jj,JG,mHp,JY,rfl,Hp,ql⟩:=hv;replace Hp:=zh Hp;replace ql:=zh ql;have BR:=ah.later (ah.at2 _ _ _ _ _) hc1;have bJ:=BR.cell;have bI:=BR.free;have gT:=BR.lt;have B1:=ah.later (ah.alloc (ah.oL _ _ _ _) _) hc1;have cB1:=B1.cell;have sZ:=B1.free;have lB1:=B1.lt;go_wp2_with fail
 refine (HS.out _).mono ?_;rintro e v2 ⟨v,rfl,hc2,hv⟩;obtain ⟨xU,Ta,xY,Af,XF,AU,rfl,Hq,qj⟩:=hv;replace Hq:=zh Hq;replace qj:=zh qj;replace Hp:=zh (aW.carry Hp.out aK hc2);replace ql:=zh (aW.carry ql.out aK hc2);replace X1:ah _ (v1.heap.size) _ _:=ah.later aJ hc2;(try simp only [List.setIfInBounds_toArray,List.set_cons_zero,List.set_cons_succ] at X1);replace gJ:=X1.cell;replace gN:=X1.free;replace gI:=X1.lt;replace BR:ah _ (w.heap.size+1+1) _ _:=ah.later aJ hc2;(try simp only [List.setIfInBounds_toArray,List.set_cons_zero,List.set_cons_succ] at BR);replace bJ:=BR.cell;replace bI:=BR.free;replace gT:=BR.lt;go_wp2_with fail
 refine ((aq3 _ _ p q _ (fJ.of aK aK) (fJ.of aK aK) KP.out KQ.out).mono (by rw [Er.out];exact fun _ _ h=>h)).mono ?_;rintro e v3 ⟨v,rfl,hc3,hv⟩;obtain ⟨Nn,lHr,Ot,Um,mHr,Vu,rfl,Hr,CF⟩:=hv;replace Hr:=zh Hr;replace CF:=zh CF;replace BR:ah _ (w.heap.size+1+1) _ _:=ah.later aJ hc3;(try simp only [List.setIfInBounds_toArray,List.set_cons_zero,List.set_cons_succ] at BR);replace bJ:=BR.cell;replace bI:=BR.free;replace gT:=BR.lt;go_wp2_with fail
 refine aM rfl rfl aJ Tryz.underlying108 rfl zk ?_;exact ⟨_,rfl,au,fJ.of aK aK⟩
theorem Km (s t s' t':ByteArray) (w:World) (h:rd ⟨s,t⟩=none∨rd ⟨s',t'⟩=none) :
  Calls Tryz.prog 63 #[.agg #[.string s,.string t],.agg #[.string s',.string t'],.func (.func 239) #[] #[]] w (fun e w'=>e= .returned (.tuple #[.agg #[.slice none 0 0,.bool false,.slice none 0 0],.int .i64 20])∧Below w.heap.size w w'):=by
 cases h1:rd ⟨s,t⟩ with
 | none =>
  have HR:=zh (gK h1);cases k:rd ⟨s',t'⟩ with
  | none =>
   have HS:=zh (gK k);clear h k h1;go_enter Tryz.func63,Tryz.ntmps63
   go_wp2_with fail
   refine (HR.out _).mono ?_;rintro e v1 ⟨rfl,hc1⟩;have BR:=ah.later (ah.at2 _ _ _ _ _) hc1;have bJ:=BR.cell;have bI:=BR.free;have gT:=BR.lt;have B1:=ah.later (ah.alloc (ah.oL _ _ _ _) _) hc1;have cB1:=B1.cell;have sZ:=B1.free;have lB1:=B1.lt;go_wp2_with fail
   refine (HS.out _).mono ?_;rintro e v2 ⟨rfl,hc2⟩;replace BR:ah _ (w.heap.size+1+1) _ _:=ah.later aJ hc2;replace bJ:=BR.cell;replace bI:=BR.free;replace gT:=BR.lt;have q1:w.heap.size+1<v2.heap.size:=by omega
   go_wp2_with fail
   refine aM rfl rfl aJ Tryz.underlying108 rfl zk ?_;exact ⟨rfl,au⟩
  | some q =>
   have HS:=zh (fI k);clear h k h1;go_enter Tryz.func63,Tryz.ntmps63
   go_wp2_with fail
   refine (HR.out _).mono ?_;rintro e v1 ⟨rfl,hc1⟩;have BR:=ah.later (ah.at2 _ _ _ _ _) hc1;have bJ:=BR.cell;have bI:=BR.free;have gT:=BR.lt;have B1:=ah.later (ah.alloc (ah.oL _ _ _ _) _) hc1;have cB1:=B1.cell;have sZ:=B1.free;have lB1:=B1.lt;go_wp2_with fail
   refine (HS.out _).mono ?_;rintro e v2 ⟨v,rfl,hc2,hv⟩;obtain ⟨xU,Ta,xY,Af,XF,AU,rfl,Hq,qj⟩:=hv;replace Hq:=zh Hq;replace qj:=zh qj;replace BR:ah _ (w.heap.size+1+1) _ _:=ah.later aJ hc2;replace bJ:=BR.cell;replace bI:=BR.free;replace gT:=BR.lt;have q1:w.heap.size+1<v2.heap.size:=by omega
   go_wp2_with fail
   refine aM rfl rfl aJ Tryz.underlying108 rfl zk ?_;exact ⟨rfl,au⟩
 | some p =>
  have HR:=zh (fI h1);cases k:rd ⟨s',t'⟩ with
  | none =>
   have HS:=zh (gK k);clear h k h1;go_enter Tryz.func63,Tryz.ntmps63
   go_wp2_with fail
   refine (HR.out _).mono ?_;rintro e v1 ⟨v,rfl,hc1,hv⟩;obtain ⟨GU,lHp,Jj,JG,mHp,JY,rfl,Hp,ql⟩:=hv;replace Hp:=zh Hp;replace ql:=zh ql;have BR:=ah.later (ah.at2 _ _ _ _ _) hc1;have bJ:=BR.cell;have bI:=BR.free;have gT:=BR.lt;have B1:=ah.later (ah.alloc (ah.oL _ _ _ _) _) hc1;have cB1:=B1.cell;have sZ:=B1.free;have lB1:=B1.lt;go_wp2_with fail
   refine (HS.out _).mono ?_;rintro e v2 ⟨rfl,hc2⟩;replace BR:ah _ (w.heap.size+1+1) _ _:=ah.later aJ hc2;replace bJ:=BR.cell;replace bI:=BR.free;replace gT:=BR.lt;have q1:w.heap.size+1<v2.heap.size:=by omega
   go_wp2_with fail
   refine aM rfl rfl aJ Tryz.underlying108 rfl zk ?_;exact ⟨rfl,au⟩
  | some q=>rw [h1,k] at h;simp at h
theorem qV (a b:Fr) (w:World) (ht:fM.Pow w) :
  Calls Tryz.prog 168 #[a.v,b.v] w (fun e w'=>e= .returned (Fr.res (rH a b))∧Below w.heap.size w w'):=by
 obtain ⟨s,t⟩:=a;obtain ⟨s',t'⟩:=b
 show Calls _ _ #[.agg #[.string s,.string t],.agg #[.string s',.string t']] _ _
 unfold rH;have HT:=zh ht;clear ht
 by_cases hbad:rd ⟨s,t⟩=none∨rd ⟨s',t'⟩=none
 ·have e:∀ f,bin f ⟨s,t⟩ ⟨s',t'⟩=(Fr.no,20):=fun f=>by
   rcases hbad with h|h
   ·exact rV h
   ·exact pV h
  rw [e];have HA:=zh (fun w=>Km s t s' t' w hbad);clear hbad e;go_enter Tryz.func168,Tryz.ntmps168
  go_wp2_with fail
  refine (HA.out _).mono ?_;rintro e v1 ⟨rfl,hc1⟩;have BR:=ah.later (ah.at2 _ _ _ _ _) hc1;have bJ:=BR.cell;have bI:=BR.free;have gT:=BR.lt;go_wp2_with fail
  refine (yR _).mono ?_;rintro e v2 ⟨rfl,hc2⟩;replace BR:=ah.later (BR) hc2;replace bJ:=BR.cell;replace bI:=BR.free;replace gT:=BR.lt;go_wp2_with fail
  refine aM rfl rfl aJ Tryz.underlying32 rfl zk ?_;exact ⟨rfl,au⟩
 ·obtain ⟨p,hp⟩:∃ p,rd ⟨s,t⟩=some p:=Option.ne_none_iff_exists'.1 (fun e=>hbad (.inl e));obtain ⟨q,hq⟩:∃ q,rd ⟨s',t'⟩=some q:=Option.ne_none_iff_exists'.1 (fun e=>hbad (.inr e));rw [mZ hp hq];have KP:=zh (iT (kJ hp).2);have KQ:=zh (iT (kJ hq).2);have HA:=zh (fun w=>ab0 s t s' t' w p q hp hq);have KR:Hid (iA 1000000 (p+q)):=zh (iA.mono (k:=135) (xu KP.out KQ.out) zo);clear hp hq hbad KP KQ;obtain ⟨r,Er⟩:∃ y:Rat,Hid (p+q=y):=⟨_,zh rfl⟩;simp only [Er.out] at KR HA ⊢;obtain ⟨x,Ex⟩:∃ y:FrI,Hid (wr r=y):=⟨_,zh rfl⟩;rw [Ex.out];obtain ⟨⟨s1,t1⟩,e⟩:=x;rw [mD];go_enter Tryz.func168,Tryz.ntmps168
  go_wp2_with fail
  refine (HA.out _).mono ?_;rintro e v1 ⟨v,rfl,hc1,hv⟩;obtain ⟨Nn,lHr,Ot,Um,mHr,Vu,rfl,Hr,CF⟩:=hv;replace Hr:=zh Hr;replace CF:=zh CF;have BR:=ah.later (ah.at2 _ _ _ _ _) hc1;have bJ:=BR.cell;have bI:=BR.free;have gT:=BR.lt;go_wp2_with fail
  refine ((BA _ r _ (fJ.of aK aK) KR.out (HT.out.later au)).mono (by rw [Ex.out,mD];exact fun _ _ h=>h)).mono ?_;rintro e v2 ⟨rfl,hc2⟩;replace BR:=ah.later (BR) hc2;replace bJ:=BR.cell;replace bI:=BR.free;replace gT:=BR.lt;go_wp2_with fail
  refine aM rfl rfl aJ Tryz.underlying32 rfl zk ?_;exact ⟨rfl,au⟩
theorem aa8 (s t s' t':ByteArray) (w:World) (p q:Rat) (h:rd ⟨s,t⟩=some p) (k:rd ⟨s',t'⟩=some q) :
  Calls Tryz.prog 63 #[.agg #[.string s,.string t],.agg #[.string s',.string t'],.func (.func 240) #[] #[]] w (fun e w'=>∃ v,e= .returned (.tuple #[v,.int .i64 0])∧Below w.heap.size w w'∧fJ w' v (p - q)):=by
 have HR:=zh (fI h);have HS:=zh (fI k);have KP:=zh ((iT (kJ h).2).mono (show 67≤1000000 by omega));have KQ:=zh ((iT (kJ k).2).mono (show 67≤1000000 by omega));clear h k;obtain ⟨r,Er⟩:∃ y:Rat,Hid (p - q=y):=⟨_,zh rfl⟩;rw [Er.out];go_enter Tryz.func63,Tryz.ntmps63
 go_wp2_with fail
 refine (HR.out _).mono ?_;rintro e v1 ⟨v,rfl,hc1,hv⟩;obtain ⟨GU,lHp,Jj,JG,mHp,JY,rfl,Hp,ql⟩:=hv;replace Hp:=zh Hp;replace ql:=zh ql;have BR:=ah.later (ah.at2 _ _ _ _ _) hc1;have bJ:=BR.cell;have bI:=BR.free;have gT:=BR.lt;have B1:=ah.later (ah.alloc (ah.oL _ _ _ _) _) hc1;have cB1:=B1.cell;have sZ:=B1.free;have lB1:=B1.lt;go_wp2_with fail
 refine (HS.out _).mono ?_;rintro e v2 ⟨v,rfl,hc2,hv⟩;obtain ⟨xU,Ta,xY,Af,XF,AU,rfl,Hq,qj⟩:=hv;replace Hq:=zh Hq;replace qj:=zh qj;replace Hp:=zh (aW.carry Hp.out aK hc2);replace ql:=zh (aW.carry ql.out aK hc2);replace X1:ah _ (v1.heap.size) _ _:=ah.later aJ hc2;(try simp only [List.setIfInBounds_toArray,List.set_cons_zero,List.set_cons_succ] at X1);replace gJ:=X1.cell;replace gN:=X1.free;replace gI:=X1.lt;replace BR:ah _ (w.heap.size+1+1) _ _:=ah.later aJ hc2;(try simp only [List.setIfInBounds_toArray,List.set_cons_zero,List.set_cons_succ] at BR);replace bJ:=BR.cell;replace bI:=BR.free;replace gT:=BR.lt;go_wp2_with fail
 refine ((aH4 _ _ p q _ (fJ.of aK aK) (fJ.of aK aK) KP.out KQ.out).mono (by rw [Er.out];exact fun _ _ h=>h)).mono ?_;rintro e v3 ⟨v,rfl,hc3,hv⟩;obtain ⟨Nn,lHr,Ot,Um,mHr,Vu,rfl,Hr,CF⟩:=hv;replace Hr:=zh Hr;replace CF:=zh CF;replace BR:ah _ (w.heap.size+1+1) _ _:=ah.later aJ hc3;(try simp only [List.setIfInBounds_toArray,List.set_cons_zero,List.set_cons_succ] at BR);replace bJ:=BR.cell;replace bI:=BR.free;replace gT:=BR.lt;go_wp2_with fail
 refine aM rfl rfl aJ Tryz.underlying108 rfl zk ?_;exact ⟨_,rfl,au,fJ.of aK aK⟩
theorem Kj (s t s' t':ByteArray) (w:World) (h:rd ⟨s,t⟩=none∨rd ⟨s',t'⟩=none) :
  Calls Tryz.prog 63 #[.agg #[.string s,.string t],.agg #[.string s',.string t'],.func (.func 240) #[] #[]] w (fun e w'=>e= .returned (.tuple #[.agg #[.slice none 0 0,.bool false,.slice none 0 0],.int .i64 20])∧Below w.heap.size w w'):=by
 cases h1:rd ⟨s,t⟩ with
 | none =>
  have HR:=zh (gK h1);cases k:rd ⟨s',t'⟩ with
  | none =>
   have HS:=zh (gK k);clear h k h1;go_enter Tryz.func63,Tryz.ntmps63
   go_wp2_with fail
   refine (HR.out _).mono ?_;rintro e v1 ⟨rfl,hc1⟩;have BR:=ah.later (ah.at2 _ _ _ _ _) hc1;have bJ:=BR.cell;have bI:=BR.free;have gT:=BR.lt;have B1:=ah.later (ah.alloc (ah.oL _ _ _ _) _) hc1;have cB1:=B1.cell;have sZ:=B1.free;have lB1:=B1.lt;go_wp2_with fail
   refine (HS.out _).mono ?_;rintro e v2 ⟨rfl,hc2⟩;replace BR:ah _ (w.heap.size+1+1) _ _:=ah.later aJ hc2;replace bJ:=BR.cell;replace bI:=BR.free;replace gT:=BR.lt;have q1:w.heap.size+1<v2.heap.size:=by omega
   go_wp2_with fail
   refine aM rfl rfl aJ Tryz.underlying108 rfl zk ?_;exact ⟨rfl,au⟩
  | some q =>
   have HS:=zh (fI k);clear h k h1;go_enter Tryz.func63,Tryz.ntmps63
   go_wp2_with fail
   refine (HR.out _).mono ?_;rintro e v1 ⟨rfl,hc1⟩;have BR:=ah.later (ah.at2 _ _ _ _ _) hc1;have bJ:=BR.cell;have bI:=BR.free;have gT:=BR.lt;have B1:=ah.later (ah.alloc (ah.oL _ _ _ _) _) hc1;have cB1:=B1.cell;have sZ:=B1.free;have lB1:=B1.lt;go_wp2_with fail
   refine (HS.out _).mono ?_;rintro e v2 ⟨v,rfl,hc2,hv⟩;obtain ⟨xU,Ta,xY,Af,XF,AU,rfl,Hq,qj⟩:=hv;replace Hq:=zh Hq;replace qj:=zh qj;replace BR:ah _ (w.heap.size+1+1) _ _:=ah.later aJ hc2;replace bJ:=BR.cell;replace bI:=BR.free;replace gT:=BR.lt;have q1:w.heap.size+1<v2.heap.size:=by omega
   go_wp2_with fail
   refine aM rfl rfl aJ Tryz.underlying108 rfl zk ?_;exact ⟨rfl,au⟩
 | some p =>
  have HR:=zh (fI h1);cases k:rd ⟨s',t'⟩ with
  | none =>
   have HS:=zh (gK k);clear h k h1;go_enter Tryz.func63,Tryz.ntmps63
   go_wp2_with fail
   refine (HR.out _).mono ?_;rintro e v1 ⟨v,rfl,hc1,hv⟩;obtain ⟨GU,lHp,Jj,JG,mHp,JY,rfl,Hp,ql⟩:=hv;replace Hp:=zh Hp;replace ql:=zh ql;have BR:=ah.later (ah.at2 _ _ _ _ _) hc1;have bJ:=BR.cell;have bI:=BR.free;have gT:=BR.lt;have B1:=ah.later (ah.alloc (ah.oL _ _ _ _) _) hc1;have cB1:=B1.cell;have sZ:=B1.free;have lB1:=B1.lt;go_wp2_with fail
   refine (HS.out _).mono ?_;rintro e v2 ⟨rfl,hc2⟩;replace BR:ah _ (w.heap.size+1+1) _ _:=ah.later aJ hc2;replace bJ:=BR.cell;replace bI:=BR.free;replace gT:=BR.lt;have q1:w.heap.size+1<v2.heap.size:=by omega
   go_wp2_with fail
   refine aM rfl rfl aJ Tryz.underlying108 rfl zk ?_;exact ⟨rfl,au⟩
  | some q=>rw [h1,k] at h;simp at h
theorem vE (a b:Fr) (w:World) (ht:fM.Pow w) :
  Calls Tryz.prog 171 #[a.v,b.v] w (fun e w'=>e= .returned (Fr.res (vS a b))∧Below w.heap.size w w'):=by
 obtain ⟨s,t⟩:=a;obtain ⟨s',t'⟩:=b
 show Calls _ _ #[.agg #[.string s,.string t],.agg #[.string s',.string t']] _ _
 unfold vS;have HT:=zh ht;clear ht
 by_cases hbad:rd ⟨s,t⟩=none∨rd ⟨s',t'⟩=none
 ·have e:∀ f,bin f ⟨s,t⟩ ⟨s',t'⟩=(Fr.no,20):=fun f=>by
   rcases hbad with h|h
   ·exact rV h
   ·exact pV h
  rw [e];have HA:=zh (fun w=>Kj s t s' t' w hbad);clear hbad e;go_enter Tryz.func171,Tryz.ntmps171
  go_wp2_with fail
  refine (HA.out _).mono ?_;rintro e v1 ⟨rfl,hc1⟩;have BR:=ah.later (ah.at2 _ _ _ _ _) hc1;have bJ:=BR.cell;have bI:=BR.free;have gT:=BR.lt;go_wp2_with fail
  refine (yR _).mono ?_;rintro e v2 ⟨rfl,hc2⟩;replace BR:=ah.later (BR) hc2;replace bJ:=BR.cell;replace bI:=BR.free;replace gT:=BR.lt;go_wp2_with fail
  refine aM rfl rfl aJ Tryz.underlying32 rfl zk ?_;exact ⟨rfl,au⟩
 ·obtain ⟨p,hp⟩:∃ p,rd ⟨s,t⟩=some p:=Option.ne_none_iff_exists'.1 (fun e=>hbad (.inl e));obtain ⟨q,hq⟩:∃ q,rd ⟨s',t'⟩=some q:=Option.ne_none_iff_exists'.1 (fun e=>hbad (.inr e));rw [mZ hp hq];have KP:=zh (iT (kJ hp).2);have KQ:=zh (iT (kJ hq).2);have HA:=zh (fun w=>aa8 s t s' t' w p q hp hq);have KR:Hid (iA 1000000 (p - q)):=zh (iA.mono (k:=135) (by rw [Rat.sub_eq_add_neg];exact xu KP.out (uI KQ.out)) zo);clear hp hq hbad KP KQ;obtain ⟨r,Er⟩:∃ y:Rat,Hid (p - q=y):=⟨_,zh rfl⟩;simp only [Er.out] at KR HA ⊢;obtain ⟨x,Ex⟩:∃ y:FrI,Hid (wr r=y):=⟨_,zh rfl⟩;rw [Ex.out];obtain ⟨⟨s1,t1⟩,e⟩:=x;rw [mD];go_enter Tryz.func171,Tryz.ntmps171
  go_wp2_with fail
  refine (HA.out _).mono ?_;rintro e v1 ⟨v,rfl,hc1,hv⟩;obtain ⟨Nn,lHr,Ot,Um,mHr,Vu,rfl,Hr,CF⟩:=hv;replace Hr:=zh Hr;replace CF:=zh CF;have BR:=ah.later (ah.at2 _ _ _ _ _) hc1;have bJ:=BR.cell;have bI:=BR.free;have gT:=BR.lt;go_wp2_with fail
  refine ((BA _ r _ (fJ.of aK aK) KR.out (HT.out.later au)).mono (by rw [Ex.out,mD];exact fun _ _ h=>h)).mono ?_;rintro e v2 ⟨rfl,hc2⟩;replace BR:=ah.later (BR) hc2;replace bJ:=BR.cell;replace bI:=BR.free;replace gT:=BR.lt;go_wp2_with fail
  refine aM rfl rfl aJ Tryz.underlying32 rfl zk ?_;exact ⟨rfl,au⟩
theorem aA6 (s t s' t':ByteArray) (w:World) (h:rd ⟨s,t⟩=none∨rd ⟨s',t'⟩=none) :
  Calls Tryz.prog 128 #[.agg #[.string s,.string t],.agg #[.string s',.string t']] w (fun e w'=>e= .returned (.tuple #[.agg #[.string ⟨#[]⟩,.string ⟨#[]⟩],.int .i64 20])∧Below w.heap.size w w'):=by
 cases h1:rd ⟨s,t⟩ with
 | none =>
  have HR:=zh (gK h1);cases k:rd ⟨s',t'⟩ with
  | none =>
   have HS:=zh (gK k);clear h k h1;go_enter Tryz.func128,Tryz.ntmps128
   go_wp2_with fail
   refine (HR.out _).mono ?_;rintro e v1 ⟨rfl,hc1⟩;have BR:=ah.later (ah.at2 _ _ _ _ _) hc1;have bJ:=BR.cell;have bI:=BR.free;have gT:=BR.lt;have B1:=ah.later (ah.alloc (ah.oL _ _ _ _) _) hc1;have cB1:=B1.cell;have sZ:=B1.free;have lB1:=B1.lt;go_wp2_with fail
   refine (HS.out _).mono ?_;rintro e v2 ⟨rfl,hc2⟩;replace BR:ah _ (w.heap.size+1+1) _ _:=ah.later aJ hc2;(try simp only [List.setIfInBounds_toArray,List.set_cons_zero,List.set_cons_succ] at BR);replace bJ:=BR.cell;replace bI:=BR.free;replace gT:=BR.lt;go_wp2_with fail
   refine aM rfl rfl aJ Tryz.underlying32 rfl zk ?_;exact ⟨rfl,au⟩
  | some q =>
   have HS:=zh (fI k);clear h k h1;go_enter Tryz.func128,Tryz.ntmps128
   go_wp2_with fail
   refine (HR.out _).mono ?_;rintro e v1 ⟨rfl,hc1⟩;have BR:=ah.later (ah.at2 _ _ _ _ _) hc1;have bJ:=BR.cell;have bI:=BR.free;have gT:=BR.lt;have B1:=ah.later (ah.alloc (ah.oL _ _ _ _) _) hc1;have cB1:=B1.cell;have sZ:=B1.free;have lB1:=B1.lt;go_wp2_with fail
   refine (HS.out _).mono ?_;rintro e v2 ⟨v,rfl,hc2,hv⟩;obtain ⟨xU,Ta,xY,Af,XF,AU,rfl,Hq,qj⟩:=hv;replace Hq:=zh Hq;replace qj:=zh qj;replace BR:ah _ (w.heap.size+1+1) _ _:=ah.later aJ hc2;(try simp only [List.setIfInBounds_toArray,List.set_cons_zero,List.set_cons_succ] at BR);replace bJ:=BR.cell;replace bI:=BR.free;replace gT:=BR.lt;go_wp2_with fail
   refine aM rfl rfl aJ Tryz.underlying32 rfl zk ?_;exact ⟨rfl,au⟩
 | some p =>
  have HR:=zh (fI h1);cases k:rd ⟨s',t'⟩ with
  | none =>
   have HS:=zh (gK k);clear h k h1;go_enter Tryz.func128,Tryz.ntmps128
   go_wp2_with fail
   refine (HR.out _).mono ?_;rintro e v1 ⟨v,rfl,hc1,hv⟩;obtain ⟨GU,lHp,Jj,JG,mHp,JY,rfl,Hp,ql⟩:=hv;replace Hp:=zh Hp;replace ql:=zh ql;have BR:=ah.later (ah.at2 _ _ _ _ _) hc1;have bJ:=BR.cell;have bI:=BR.free;have gT:=BR.lt;have B1:=ah.later (ah.alloc (ah.oL _ _ _ _) _) hc1;have cB1:=B1.cell;have sZ:=B1.free;have lB1:=B1.lt;go_wp2_with fail
   refine (HS.out _).mono ?_;rintro e v2 ⟨rfl,hc2⟩;replace BR:ah _ (w.heap.size+1+1) _ _:=ah.later aJ hc2;(try simp only [List.setIfInBounds_toArray,List.set_cons_zero,List.set_cons_succ] at BR);replace bJ:=BR.cell;replace bI:=BR.free;replace gT:=BR.lt;go_wp2_with fail
   refine aM rfl rfl aJ Tryz.underlying32 rfl zk ?_;exact ⟨rfl,au⟩
  | some q=>rw [h1,k] at h;simp at h
theorem div_zero (s t s' t':ByteArray) (w:World) (p:Rat) (h:rd ⟨s,t⟩=some p) (k:rd ⟨s',t'⟩=some 0) :
  Calls Tryz.prog 128 #[.agg #[.string s,.string t],.agg #[.string s',.string t']] w (fun e w'=>e= .returned (.tuple #[.agg #[.string ⟨#[]⟩,.string ⟨#[]⟩],.int .i64 7])∧Below w.heap.size w w'):=by
 have HR:=zh (fI h);have HS:=zh (fI k);clear h k;obtain ⟨n,En⟩:∃ y:Nat,Hid ((0:Rat).num.natAbs=y):=⟨_,zh rfl⟩;have hz:decide (n=0)=true:=by rw [← En.out];rfl
 have HZ:=zh hz;clear hz;go_enter Tryz.func128,Tryz.ntmps128
 go_wp2_with fail
 refine (HR.out _).mono ?_;rintro e v1 ⟨v,rfl,hc1,hv⟩;obtain ⟨GU,lHp,Jj,JG,mHp,JY,rfl,Hp,ql⟩:=hv;replace Hp:=zh Hp;replace ql:=zh ql;have BR:=ah.later (ah.at2 _ _ _ _ _) hc1;have bJ:=BR.cell;have bI:=BR.free;have gT:=BR.lt;have B1:=ah.later (ah.alloc (ah.oL _ _ _ _) _) hc1;have cB1:=B1.cell;have sZ:=B1.free;have lB1:=B1.lt;go_wp2_with fail
 refine (HS.out _).mono ?_;rintro e v2 ⟨v,rfl,hc2,hv⟩;obtain ⟨xU,Ta,xY,Af,XF,AU,rfl,Hq,qj⟩:=hv;replace Hq:=zh Hq;replace qj:=zh qj;replace BR:ah _ (w.heap.size+1+1) _ _:=ah.later aJ hc2;(try simp only [List.setIfInBounds_toArray,List.set_cons_zero,List.set_cons_succ] at BR);replace bJ:=BR.cell;replace bI:=BR.free;replace gT:=BR.lt;go_wp2_with fail
 rw [En.out] at Hq;refine (gW _ n _ aK).mono ?_;rintro e v5 ⟨rfl,rfl⟩;rw [HZ.out];go_wp2_with fail
 refine aM rfl rfl aJ Tryz.underlying32 rfl zk ?_;exact ⟨rfl,au⟩
theorem ao0 (s t s' t':ByteArray) (w:World) (p q:Rat) (h:rd ⟨s,t⟩=some p) (k:rd ⟨s',t'⟩=some q) (h0:q≠0) (ht:fM.Pow w) :
  Calls Tryz.prog 128 #[.agg #[.string s,.string t],.agg #[.string s',.string t']] w (fun e w'=>e= .returned (Fr.res (wr (p / q)))∧Below w.heap.size w w'):=by
 have HR:=zh (fI h);have HS:=zh (fI k);have kp:=iT (kJ h).2;have kq:=iT (kJ k).2;have ki:=MW kq h0
 have hz:decide (q.num.natAbs=0)=false:=by
  simp [h0]
 have HZ:=zh hz;have HQ0:=zh h0;have HT:=zh ht;rw [Rat.div_def];have km:=kM kp ki;obtain ⟨i,Ei⟩:∃ y:Rat,Hid (q⁻¹=y):=⟨_,zh rfl⟩;rw [Ei.out] at km ki ⊢;obtain ⟨r,Er⟩:∃ y:Rat,Hid (p*i=y):=⟨_,zh rfl⟩;rw [Er.out] at km ⊢;have KP:=zh (kp.mono (show 67≤1000000 by omega));have KI:=zh (ki.mono (show 67≤1000000 by omega));have KR:=zh (km.mono (show 2*67≤1000000 by omega));obtain ⟨x,Ex⟩:∃ y:FrI,Hid (wr r=y):=⟨_,zh rfl⟩;rw [Ex.out];obtain ⟨⟨s1,t1⟩,e⟩:=x;rw [mD];clear h k kp kq ki hz h0 ht km;go_enter Tryz.func128,Tryz.ntmps128
 go_wp2_with fail
 refine (HR.out _).mono ?_;rintro e v1 ⟨v,rfl,hc1,hv⟩;obtain ⟨GU,lHp,Jj,JG,mHp,JY,rfl,Hp,ql⟩:=hv;replace Hp:=zh Hp;replace ql:=zh ql;have BR:=ah.later (ah.at2 _ _ _ _ _) hc1;have bJ:=BR.cell;have bI:=BR.free;have gT:=BR.lt;have B1:=ah.later (ah.alloc (ah.oL _ _ _ _) _) hc1;have cB1:=B1.cell;have sZ:=B1.free;have lB1:=B1.lt;go_wp2_with fail
 refine (HS.out _).mono ?_;rintro e v2 ⟨v,rfl,hc2,hv⟩;obtain ⟨xU,Ta,xY,Af,XF,AU,rfl,Hq,qj⟩:=hv;replace Hq:=zh Hq;replace qj:=zh qj;replace Hp:=zh (aW.carry Hp.out aK hc2);replace ql:=zh (aW.carry ql.out aK hc2);replace X1:ah _ (v1.heap.size) _ _:=ah.later aJ hc2;(try simp only [List.setIfInBounds_toArray,List.set_cons_zero,List.set_cons_succ] at X1);replace gJ:=X1.cell;replace gN:=X1.free;replace gI:=X1.lt;replace BR:ah _ (w.heap.size+1+1) _ _:=ah.later aJ hc2;(try simp only [List.setIfInBounds_toArray,List.set_cons_zero,List.set_cons_succ] at BR);replace bJ:=BR.cell;replace bI:=BR.free;replace gT:=BR.lt;go_wp2_with fail
 refine (gW _ q.num.natAbs _ aK).mono ?_;rintro e v5 ⟨rfl,rfl⟩;rw [HZ.out];go_wp2_with fail
 refine aC [(.read,0),(.read,1),(.ext,2),(.ext,3),(.ext,4),(.pure,5),(.pure,6),(.fin,7),(.fin,8)] zk zk zR zP ?_;refine zV ?_;refine aH rfl rfl (fun w3 hb3 J hJ=>?_);go_simp;replace Hp:=zh (aW.carry Hp.out aK hb3);replace ql:=zh (aW.carry ql.out aK hb3);replace BR:ah _ (w.heap.size+1+1) _ _:=ah.later aJ hb3;(try simp only [List.setIfInBounds_toArray,List.set_cons_zero,List.set_cons_succ] at BR);replace bJ:=BR.cell;replace bI:=BR.free;replace gT:=BR.lt;refine ((UQ _ q _ (fJ.of aK aK) HQ0.out).mono (by rw [Ei.out];exact fun _ _ h=>h)).mono ?_;rintro e v3 ⟨v,rfl,hc3,hv⟩;obtain ⟨bi8,lHv,bn4,bv8,mHv,bB5,rfl,Hv,Hvd⟩:=hv;replace Hv:=zh Hv;replace Hvd:=zh Hvd;replace Hp:=zh (aW.later Hp.out hc3);replace ql:=zh (aW.later ql.out hc3);replace BR:=ah.later (BR) hc3;replace bJ:=BR.cell;replace bI:=BR.free;replace gT:=BR.lt
 refine hJ _ _ hc3 ?_;clear hJ J;refine aH rfl rfl (fun w4 hb4 J hJ=>?_);go_simp;replace Hp:=zh (aW.later Hp.out hb4);replace ql:=zh (aW.later ql.out hb4);replace Hv:=zh (aW.later Hv.out hb4);replace Hvd:=zh (aW.later Hvd.out hb4);replace BR:=ah.later (BR) hb4;replace bJ:=BR.cell;replace bI:=BR.free;replace gT:=BR.lt;refine ((ai4 _ _ p i _ (fJ.of aK aK) (fJ.of aK aK) KP.out KI.out).mono (by rw [Er.out];exact fun _ _ h=>h)).mono ?_;rintro e v4 ⟨v,rfl,hc4,hv⟩;obtain ⟨Nn,lHr,Ot,Um,mHr,Vu,rfl,Hr,CF⟩:=hv;replace Hr:=zh Hr;replace CF:=zh CF;replace Hp:=zh (aW.later Hp.out hc4);replace ql:=zh (aW.later ql.out hc4);replace Hv:=zh (aW.later Hv.out hc4);replace Hvd:=zh (aW.later Hvd.out hc4);replace BR:=ah.later (BR) hc4;replace bJ:=BR.cell;replace bI:=BR.free;replace gT:=BR.lt;refine hJ _ _ hc4 ?_;clear hJ J
 refine aH rfl rfl (fun w5 hb5 J hJ=>?_);go_simp;replace Hr:=zh (aW.later Hr.out hb5);replace CF:=zh (aW.later CF.out hb5);replace BR:=ah.later (BR) hb5;replace bJ:=BR.cell;replace bI:=BR.free;replace gT:=BR.lt;refine ((kF _ r _ (fJ.of aK aK) KR.out (HT.out.later au)).mono (by rw [Ex.out,mD];exact fun _ _ h=>h)).mono ?_;rintro e v5 ⟨rfl,pK⟩;replace Hr:=zh (aW.later Hr.out pK);replace CF:=zh (aW.later CF.out pK);replace BR:=ah.later (BR) pK;replace bJ:=BR.cell;replace bI:=BR.free;replace gT:=BR.lt;refine hJ _ _ pK ?_;clear hJ J;refine zV ?_;refine aQ [_,_] rfl (fun w9 qW=>?_);replace BR:=ah.later (BR) qW;replace bJ:=BR.cell;replace bI:=BR.free;replace gT:=BR.lt;go_wp2_with fail
 refine aM rfl rfl aJ Tryz.underlying32 rfl zk ?_;exact ⟨rfl,au⟩
theorem oQ (a b:Fr) (w:World) (ht:fM.Pow w) :
  Calls Tryz.prog 128 #[a.v,b.v] w (fun e w'=>e= .returned (Fr.res (lW a b))∧Below w.heap.size w w'):=by
 obtain ⟨s,t⟩:=a;obtain ⟨s',t'⟩:=b
 show Calls _ _ #[.agg #[.string s,.string t],.agg #[.string s',.string t']] _ _
 unfold lW
 by_cases hbad:rd ⟨s,t⟩=none∨rd ⟨s',t'⟩=none
 ·have e:∀ f,bin f ⟨s,t⟩ ⟨s',t'⟩=(Fr.no,20):=fun f=>by
   rcases hbad with h|h
   ·exact rV h
   ·exact pV h
  rw [e];exact aA6 s t s' t' w hbad
 ·obtain ⟨p,hp⟩:∃ p,rd ⟨s,t⟩=some p:=Option.ne_none_iff_exists'.1 (fun e=>hbad (.inl e));obtain ⟨q,hq⟩:∃ q,rd ⟨s',t'⟩=some q:=Option.ne_none_iff_exists'.1 (fun e=>hbad (.inr e));rw [mZ hp hq]
  by_cases h0:q=0
  ·rw [if_pos h0];subst h0;exact div_zero s t s' t' w p hp hq
  ·rw [if_neg h0];exact ao0 s t s' t' w p q hp hq h0 ht
theorem aw6 (p:Rat) (h:0≤p) (n:Nat):((p^n).num=((p.num.natAbs^n:Nat):Int))∧(p^n).den=p.den^n:=by
 have h0:0≤p.num:=by
  rw [Rat.num_nonneg];exact h
 refine ⟨?_,Rat.den_pow p n⟩;rw [Rat.num_pow,Int.natCast_pow,Int.natAbs_of_nonneg h0]
theorem zx (p:Rat) (n:Nat) (hp:rz p=true) (h0:0≤p) (n40:n≤40) (w:World) (ht:fM.Pow w) :
  Calls Tryz.prog 127 #[(Fr.of p).v,.int .i64 (n:Int)] w (fun e w'=>e= .returned (Fr.res (wr (p^n)))∧Below w.heap.size w w'):=by
 obtain ⟨e1,e2⟩:=aw6 p h0 n
 have hn0:0≤p.num:=by
  rw [Rat.num_nonneg];exact h0
 have hq:=iI hp;have HC:=zh (fun W=>kK (Fr.of p) W);unfold Cn at HC;rw [hq] at HC;obtain ⟨o1,o2⟩:jG p.num.natAbs=true∧jG p.den=true:=by simpa [rz] using hp
 have H1:=zh (fun W h=>whole.zx p.num.natAbs n o1 n40 W h);have H2:=zh (fun W h=>whole.zx p.den n o2 n40 W h);have HP:=zh ht
 have ev:(Fr.of p).v= .agg #[bW ((p.num.natAbs:Nat):Int),bW ((p.den:Nat):Int)]:=by
  rw [Int.natAbs_of_nonneg hn0];rfl
 have er:Fr.res (wr (p^n))=if jG (p.num.natAbs^n)=true then if jG (p.den^n)=true then .tuple #[.agg #[bW ((p.num.natAbs^n:Nat):Int),bW ((p.den^n:Nat):Int)],.int .i64 0] else .tuple #[.agg #[.string ⟨#[]⟩,.string ⟨#[]⟩],.int .i64 6] else .tuple #[.agg #[.string ⟨#[]⟩,.string ⟨#[]⟩],.int .i64 6]:=by
  have eo:rz (p^n)=(jG (p.num.natAbs^n)&&jG (p.den^n)):=by
   unfold rz;rw [e1,e2,Int.natAbs_natCast]
  by_cases k1:jG (p.num.natAbs^n)=true
  ·rw [if_pos k1]
   by_cases k2:jG (p.den^n)=true
   ·rw [if_pos k2,aE6 (by rw [eo,k1,k2];rfl),e1,e2]
   ·rw [if_neg k2,Mr (by rw [eo,k1];simpa using k2)]
  ·rw [if_neg k1,Mr (by rw [eo];simp [k1])]
 rw [ev] at HC ⊢;rw [er];unfold whole.DL at H1 H2;simp only [Int.natAbs_natCast] at H1 H2;clear e1 e2 hn0 hq o1 o2 ht ev er hp h0;simp only [Option.isSome_some,if_true] at HC;obtain ⟨oa,Ea⟩:∃ y,jG (p.num.natAbs^n)=y:=⟨_,rfl⟩;obtain ⟨ob,Eb⟩:∃ y,jG (p.den^n)=y:=⟨_,rfl⟩;simp only [Ea] at H1 ⊢;simp only [Eb] at H2 ⊢;clear Ea Eb;generalize p.num.natAbs^n=an at *;generalize p.den^n=bn at *;generalize p.num.natAbs=a at *;generalize p.den=b at *;unfold bW at *;generalize (⟨(Lib.itoa (a:Int)).toArray⟩:ByteArray)=ta at *;generalize (⟨(Lib.itoa (b:Int)).toArray⟩:ByteArray)=tb at *;generalize (⟨(Lib.itoa (an:Int)).toArray⟩:ByteArray)=tan at *;generalize (⟨(Lib.itoa (bn:Int)).toArray⟩:ByteArray)=tbn at *;go_enter Tryz.func127,Tryz.ntmps127
 go_wp2_with fail
 obtain ⟨wx,EW,hz,X,R⟩:=yA w #[.string ta,.string tb] 32 #[.string ⟨#[]⟩,.string ⟨#[]⟩] 32;rw [EW];clear EW;have HB:=zh hz;clear hz;obtain ⟨bx,eb⟩:∃ y,w.heap.size=y:=⟨_,rfl⟩;rw [eb] at X R ⊢;refine (HC.out _).mono ?_;rintro e w1 ⟨rfl,hb1⟩;replace X:=X.bl hb1;replace R:=R.bl hb1;replace HB:=zh (Bt HB.out hb1);clear hb1 HC;obtain ⟨cX,lX⟩:=X.cl;go_wp2_with fail
 refine (H1.out _ (HP.out.later HB.out)).mono ?_;rintro e w2 ⟨rfl,hb2⟩;replace X:=X.bl hb2;replace R:=R.bl hb2;replace HB:=zh (Bt HB.out hb2);clear hb2 H1 cX lX;obtain ⟨cX,lX⟩:=X.cl
 by_cases k1:oa=true
 ·simp only [if_pos k1];go_wp2_with fail
  refine (H2.out _ (HP.out.later HB.out)).mono ?_;rintro e w3 ⟨rfl,hb3⟩;replace R:=R.bl hb3;replace HB:=zh (Bt HB.out hb3);clear hb3 H2 cX lX X;have hx:=R.out;have cx:=hx.cell;have fx:=hx.free;have lx:=hx.lt;have hw:=HB.out;rw [eb] at hw
  by_cases k2:ob=true
  ·simp only [if_pos k2];go_wp2_with fail
   refine aM rfl rfl aJ Tryz.underlying32 rfl zk ?_;exact ⟨rfl,au⟩
  ·simp only [if_neg k2];go_wp2_with fail
   refine aM rfl rfl aJ Tryz.underlying32 rfl zk ?_;exact ⟨rfl,au⟩
 ·simp only [if_neg k1];have hx:=R.out;have cx:=hx.cell;have fx:=hx.free;have lx:=hx.lt;have hw:=HB.out;rw [eb] at hw;go_wp2_with fail
  refine aM rfl rfl aJ Tryz.underlying32 rfl zk ?_;exact ⟨rfl,au⟩
end Go.Proofs.dF
namespace Go.Proofs.power
open Go Go.RowKit Go.SW Go.Num Go.Mem Go.Proofs Go.Dec Go.eF Go.Proofs.whole Go.Proofs.aL
theorem Qk (lo hi:ByteArray) (f:Value) (F:FuncId) (caps free:Array Value) (a b:Int × Int) (w:World) (hf:f= .func (.func F) caps free)
  (h1:∀ W,Below w.heap.size w W→Calls Tryz.prog F (caps++#[.string lo,.bool false]) W (fun e w'=>e= .returned (.tuple #[.int .i64 a.1,.int .i64 a.2])∧Below W.heap.size W w'))
  (h2:∀ W,Below w.heap.size w W→Calls Tryz.prog F (caps++#[.string hi,.bool true]) W (fun e w'=>e= .returned (.tuple #[.int .i64 b.1,.int .i64 b.2])∧Below W.heap.size W w')) (hfr:free=#[])
  (hen:∀ args W,(callFunc F args).run Tryz.prog W= .ok (.enter F args) W) :
  Calls Tryz.prog 155 #[.string lo,.string hi,f] w (fun e w'=>e= .returned (Zv a b)∧Below w.heap.size w w'):=by
 subst hf hfr;obtain ⟨a1,a2⟩:=a;obtain ⟨b1,b2⟩:=b;have H1:=zh h1;have H2:=zh h2;have HO:=zh (fun W=>nu a1 b1 W);unfold Zv;simp only;clear h1 h2;go_enter Tryz.func155,Tryz.ntmps155
 go_wp2_with fail
 refine (H1.out _ au).mono ?_;rintro e w1 ⟨rfl,hb1⟩;have hx:=ah.later (ah.new w #[.int .i64 0,.int .i64 0] 40) hb1;have HX:=zh hx;have HB1:=zh (Bt (show Below w.heap.size w (w.alloc (.cells #[.int .i64 0,.int .i64 0] 40)) from au) hb1);clear hx hb1
 by_cases ha:a2=0
 ·subst ha;go_wp2_with fail
  refine (H2.out _ HB1.out).mono ?_;rintro e w2 ⟨rfl,hb2⟩;replace HX:=zh (HX.out.later hb2);have HB2:=zh (Bt HB1.out hb2);clear hb2 HB1
  by_cases hb:b2=0
  ·subst hb;go_wp2_with fail
   refine (HO.out _).mono ?_;rintro e w3 ⟨rfl,hb3⟩;replace HX:=zh (HX.out.later hb3);have HB3:=zh (Bt HB2.out hb3);clear hb3 HB2;have hx:=HX.out;have cx:=hx.cell;have fx:=hx.free;have lx:=hx.lt;have hw:=HB3.out;cases hk:dA a1 b1
   all_goals
    go_wp2_with fail
    refine aM rfl rfl aJ Tryz.underlying40 rfl zk ?_;exact ⟨by first|rfl|(rw [if_neg (fun h=>h rfl),if_neg (fun h=>h rfl),hk];rfl),au⟩
  ·have g:(b2 == 0)=false:=beq_eq_false_iff_ne.2 hb;have hx:=HX.out;have cx:=hx.cell;have fx:=hx.free;have lx:=hx.lt;have hw:=HB2.out;go_wp2_with fail
   refine aM rfl rfl aJ Tryz.underlying40 rfl zk ?_;exact ⟨by first|rfl|(rw [if_neg (fun h=>h rfl),if_pos hb];rfl),au⟩
 ·have g:(a2 == 0)=false:=beq_eq_false_iff_ne.2 ha;have hx:=HX.out;have cx:=hx.cell;have fx:=hx.free;have lx:=hx.lt;have hw:=HB1.out;go_wp2_with fail
  refine aM rfl rfl aJ Tryz.underlying40 rfl zk ?_;exact ⟨by first|rfl|(rw [if_pos ha];rfl),au⟩
theorem Bb (s n:Nat) (hs:jG s=true) (hn:n≤10^18) (hk:jG (s+n^2)=true) (w:World) (ht:fM.Pow w) :
  Calls Tryz.prog 154 #[bW (s:Int),.int .i64 (n:Int)] w (fun e w'=>e= .returned (.tuple #[bW ((s+n^2:Nat):Int),.int .i64 0])∧Below w.heap.size w w'):=by
 have hn0:jG n=true:=Ag.2 (Nat.lt_of_le_of_lt hn (by decide+kernel));have hn2:jG (n^2)=true:=sF hk zo
 have h63:(n:Int)≤9223372036854775807:=by
  have:(10:Nat)^18=1000000000000000000:=by decide
  omega
 have HO:=zh (fun W h=>Db (n:Int) zo h63 W h);have WA:=zh (fun W h=>zx n 2 hn0 zo W h);have HA:=zh (fun W h=>qV s (n^2) hs hn2 W h);rw [vP hn2] at WA;rw [vP hk] at HA;have HP:=zh ht;clear ht h63 hn2 hn0 hs hn hk;generalize s+n^2=u at *;generalize n^2=n2 at *;unfold bW at *;generalize (⟨(Lib.itoa (n:Int)).toArray⟩:ByteArray)=tn at *;generalize (⟨(Lib.itoa (n2:Int)).toArray⟩:ByteArray)=tn2 at *;generalize (⟨(Lib.itoa (s:Int)).toArray⟩:ByteArray)=ts at *;generalize (⟨(Lib.itoa (u:Int)).toArray⟩:ByteArray)=tu at *;go_enter Tryz.func154,Tryz.ntmps154
 go_wp2_with fail
 refine (HO.out _ HP.out).mono ?_;rintro e w1 ⟨rfl,hb1⟩;go_wp2_with fail
 refine (WA.out _ (HP.out.later hb1)).mono ?_;rintro e w2 ⟨rfl,hb2⟩;go_wp2_with fail
 refine (HA.out _ (HP.out.later (Bt hb1 hb2))).mono ?_;rintro e w3 ⟨rfl,hb3⟩;go_wp2_with fail
 go_ret2
 exact ⟨rfl,Bt hb1 (Bt hb2 hb3)⟩
theorem Sv (s:Nat) (up:Bool) (hs:jG s=true) (w:World) (ht:fM.Pow w) (he:Er w) :
  Calls Tryz.prog 156 #[bW (s:Int),.bool up] w (fun e w'=>e= .returned (.tuple #[.int .i64 (BS (dX 2 s) (up&& !(decide (dX 2 s^2=s)))).1,.int .i64 (BS (dX 2 s) (up&& !(decide (dX 2 s^2=s)))).2])∧Below w.heap.size w w'):=by
 have HR:=zh (fun W h=>Aa s 2 hs zo zo W h);have HI:=zh (fun W h=>yV (dX 2 s) (up&& !(decide (dX 2 s^2=s))) (sF hs (qG zo)) W h);have HP:=zh ht;have HE:=zh he;clear ht he hs;generalize decide (dX 2 s^2=s)=ex at *;obtain ⟨v,Ev⟩:∃ v,BS (dX 2 s) (up&& !ex)=v:=⟨_,rfl⟩;rw [Ev] at HI ⊢;clear Ev;obtain ⟨v1,v2⟩:=v;simp only at HI ⊢;generalize dX 2 s=r at *;unfold bW at *;generalize (⟨(Lib.itoa (s:Int)).toArray⟩:ByteArray)=ts at *;generalize (⟨(Lib.itoa (r:Int)).toArray⟩:ByteArray)=tr at *;go_enter Tryz.func156,Tryz.ntmps156
 go_wp2_with fail
 refine (HR.out _ HP.out).mono ?_;rintro e w1 ⟨rfl,hb1⟩;cases up<;>cases ex
 all_goals
  go_wp2_with fail
  refine (HI.out _ (HE.out.later hb1)).mono ?_;rintro e w2 ⟨rfl,hb2⟩;go_wp2_with fail
  go_ret2
  exact ⟨rfl,Bt hb1 hb2⟩
theorem ZK {l:List Nat} {up:Bool}:BS (dX 2 (uF l)) (up&& !(decide (dX 2 (uF l)^2=uF l)))=BM l up:=by
 show BS (nlo l) (up&& !(decide (nlo l^2=uF l)))=BM l up
 by_cases h:nlo l≤10^18
 ·rw [ax9 h];unfold BS;rw [if_pos h]
 ·unfold BM BS;rw [if_neg h,if_neg h]
end Go.Proofs.power
namespace Go.Proofs.power
open Go Go.RowKit Go.Shelf Go.SW Go.Num Go.Mem Go.Proofs Go.Dec Go.eF Go.Proofs.whole Go.Proofs.aL
attribute [local go_sem] Oper.semAt_some
theorem eZ {W W':World} (h:Below W.heap.size W W'):KeepsOthers W W' :=
 ⟨h.size,fun k o hk _=>(h.block k (Array.getElem?_eq_some_iff.1 hk).1).trans hk⟩
theorem gu {W W':World} {row:Option Nat} {b:Nat} {cs:Array Value} {T:TypeId} (h:ah W b cs T) (hg:W.grownBy W' row) (hr:∀ r,row=some r→∃ o:Obj,W.heap[r]? =some o∧o.isCells=false):ah W' b cs T:=by
 unfold ah at *;rw [hg.block b (Array.getElem?_eq_some_iff.1 h).1 ?_]
 ·exact h
 ·intro e;obtain ⟨o,ho,hc⟩:=hr b e.symm;rw [h] at ho;cases ho
  cases hc
theorem Ze {l:List Nat} {m:Nat} (h:∀ x∈l,x≤m):uF l≤l.length*m^2:=by
 induction l with
 | nil=>exact Nat.zero_le _
 | cons x t ih =>
  rw [ae7,List.length_cons,Nat.add_mul,Nat.one_mul,Nat.add_comm];exact Nat.add_le_add (ih fun y hy=>h y (List.mem_cons_of_mem _ hy)) (Nat.pow_le_pow_left (h x zi) 2)
theorem Xv {l:List Nat} (h:∀ x∈l,x≤10^18) (h8:l.length≤8):jG (uF l)=true:=by
 have h1:=Ze h;have h3:8*(10^18)^2<10^600:=by decide+kernel
 generalize (10^18)^2=m at *;have h2:l.length*m≤8*m:=Nat.mul_le_mul_right _ h8;exact Ag.2 (Nat.lt_of_le_of_lt h1 (Nat.lt_of_le_of_lt h2 h3))
def los (bs:List (Int × Int)) (pre:List (Fin bs.length)):List Nat:=pre.map fun x=>Ph bs[x.1]
def his (bs:List (Int × Int)) (pre:List (Fin bs.length)):List Nat:=pre.map fun x=>Ou bs[x.1]
theorem Qr (bs:List (Int × Int)):los bs (upto bs.length (Nat.le_refl _))=bs.map Ph:=by
 unfold los upto;rw [List.map_ofFn];refine List.ext_getElem zi fun i h1 h2=>?_;simp
theorem QM (bs:List (Int × Int)):his bs (upto bs.length (Nat.le_refl _))=bs.map Ou:=by
 unfold his upto;rw [List.map_ofFn];refine List.ext_getElem zi fun i h1 h2=>?_;simp
theorem Qs (bs:List (Int × Int)) (pre:List (Fin bs.length)) (x:Fin bs.length):uF (los bs (pre++[x]))=uF (los bs pre)+Ph bs[x.1]^2:=by
 unfold los;rw [List.map_append,Gm];simp [uF]
theorem QW (bs:List (Int × Int)) (pre:List (Fin bs.length)) (x:Fin bs.length):uF (his bs (pre++[x]))=uF (his bs pre)+Ou bs[x.1]^2:=by
 unfold his;rw [List.map_append,Gm];simp [uF]
theorem ax0 (l m:List Nat) (hl:jG (uF l)=true) (hm:jG (uF m)=true) (w:World) (ht:fM.Pow w) (he:Er w) :
  Calls Tryz.prog 155 #[bW (uF l:Nat),bW (uF m:Nat),.func (.func 156) #[] #[]] w (fun e w'=>e= .returned (bK (JK (BM l false) (BM m true)))∧Below w.heap.size w w'):=by
 have E1:=fun W (h:Below w.heap.size w W)=>Sv (uF l) false hl W (ht.later h) (he.later h);have E2:=fun W (h:Below w.heap.size w W)=>Sv (uF m) true hm W (ht.later h) (he.later h);simp only [ZK] at E1 E2;unfold bW at *;rw [← Xt];exact Qk _ _ (.func (.func 156) #[] #[]) 156 #[] #[] _ _ w rfl E1 E2 rfl (fun args W=>by rfl)
def ay0 (bs:List (Int × Int)):(Int × Int) × Int:=if bs.length=0 then ((0,0),2) else if 8<bs.length then ((0,0),3) else if okB bs=false then ((0,0),30) else JK (BM (bs.map Ph) false) (BM (bs.map Ou) true)
theorem ac2 (a:Option Addr) (cap:Nat) (T:TypeId) (bs:List (Int × Int)) (h1:1≤bs.length) (h8:bs.length≤8) (hok:okB bs=true) (w:World) (hv:Bq w T (.slice a bs.length cap) bs) (ht:fM.Pow w) (he:Er w) :
  Calls Tryz.prog 71 #[.slice a bs.length cap] w (fun e w'=>e= .returned (bK (JK (BM (bs.map Ph) false) (BM (bs.map Ou) true)))∧Below w.heap.size w w'):=by
 have q1:((bs.length:Int) == 0)=false:=beq_eq_false_iff_ne.2 zo;have q2:decide ((8:Int)<(bs.length:Int))=false:=by simp;omega
 have HR:=zh hv;have HP:=zh ht;have HE:=zh he;have HOK:=zh hok;have HL:=zh h8
 have hread:∀ k (_:k<bs.length),∃ b off,a=some ⟨b,off,none⟩∧b<w.heap.size∧w.cell? ⟨b,off+k*2,none⟩=some (.int .i64 bs[k].1)∧w.cell? ⟨b,off+k*2+1,none⟩=some (.int .i64 bs[k].2):=by
  obtain ⟨a',cap',e, -, -, h⟩:=hv.read;cases e
  exact h
 have HRD:=zh hread;clear hread;clear hv ht he hok h8;obtain ⟨z,EZ⟩:∃ z,JK (BM (bs.map Ph) false) (BM (bs.map Ou) true)=z:=⟨_,rfl⟩;rw [EZ];have HZ:=zh EZ;clear EZ;obtain ⟨⟨z1,z2⟩,z3⟩:=z;unfold bK;simp only;refine (callsIn_wide (n:=3)).1 ?_;refine callsIn_of_wp_marks Tryz.func71 rfl trivial ?_ rfl;simp only [Tryz.ntmps71,List.size_toArray,List.length_cons,List.length_nil,Nat.reduceAdd,Nat.reduceSub,Array.replicate_succ,Array.replicate_zero,List.push_toArray,List.append_toArray,List.nil_append,List.cons_append]
 gi_wp2
 refine Tm ?_
 gi_wp2
 refine wpIn_label ?_;obtain ⟨wx,EW,hz,R,E3,E⟩:=yx w #[.int .i64 0,.int .i64 0] 40 #[.int .i64 0] 43 #[.int .i64 0] 43;rw [EW];clear EW;obtain ⟨bx,eb⟩:∃ y,w.heap.size=y:=⟨_,rfl⟩;rw [eb] at R E3 E ⊢
 gi_wp2
 gi_loopw [20] (fun i wr=>∃ k:Nat,i= .int .i64 k∧k≤bs.length∧Below w.heap.size w wr∧Hid (ah wr bx #[.int .i64 0,.int .i64 0] 40)∧Hid (ah wr (bx+1) #[.int .i64 0] 43)∧Hid (ah wr (bx+1+1) #[.int .i64 0] 43))
  (fun i _=>bs.length - (intOf i).toNat)
 case atStart=>exact ⟨0,rfl,Nat.zero_le _,hz,R,E3,E⟩
 case round =>
  clear R E3 E hz;obtain ⟨k,rfl,hk,hnx,R,E3,E⟩:=hrel
  have hw1:wrap64 ((k:Int)+1)=((k+1:Nat):Int):=by
   have:=HL.out;unfold wrap64;omega
  by_cases hlt:k<bs.length
  ·obtain ⟨b,off,rfl,hbl,hx1,hx2⟩:=HRD.out k hlt;have hc1:=(hnx.cell (p:=⟨b,off+k*2,none⟩) hbl).trans hx1;have hc2:=(hnx.cell (p:=⟨b,off+k*2+1,none⟩) hbl).trans hx2;clear hx1 hx2;have hv:dA bs[k].1 bs[k].2=true:=List.all_eq_true.1 HOK.out _ (List.getElem_mem hlt);have HC:=zh (fun W=>iQ bs[k].1 bs[k].2 W);rw [hv,if_pos rfl] at HC;have HB:=zh hbl;clear hv hbl;generalize bs[k].1=y1 at *;generalize bs[k].2=y2 at *
   gi_wp2_with (refine ⟨trivial,?_⟩;gi_at_call 151;refine (callsIn_wide.2 (HC.out _)).mono ?_;rintro e w1 ⟨rfl,hc3⟩;have HN:=zh (hnx.alloc hnx.size (.cells #[.int .i64 y1,.int .i64 y2] 40));replace R:=(zh (R.out.alloc (.cells #[.int .i64 y1,.int .i64 y2] 40))).bl hc3;replace E3:=(zh (E3.out.alloc (.cells #[.int .i64 y1,.int .i64 y2] 40))).bl hc3;replace E:=(zh (E.out.alloc (.cells #[.int .i64 y1,.int .i64 y2] 40))).bl hc3;replace HN:=zh (Bt HN.out hc3);clear hc3 hnx hc1 hc2;have cE:=E.out.cell;have fE:=E.out.free;have lE:=E.out.lt)
   go_roundw
   case rel =>
    have hn:=HN.out;rw [eb] at hn;have r:=R.out;have e3:=E3.out;have e4:=E.out;rw [eb];exact ⟨k+1,by rw [hw1],by omega,au,zh aJ,zh aJ,zh (e4.set 0 _)⟩
   case measure =>
    rw [hw1];simp only [intOf,Int.toNat_natCast];omega
  ·obtain rfl:k=bs.length:=by omega
   have hge:¬ bs.length<bs.length:=by omega
   have bm2:decide ((bs.length:Int)<(bs.length:Int))=false:=by simp
   have cE:=E.out.cell;have fE:=E.out.free;have lE:=E.out.lt
   gi_wp2_with (refine ⟨trivial,?_⟩;gi_at_call 153;refine (Ov 2 _ _ _ _).mono ?_;rintro e w' ⟨rfl,rfl⟩)
   have bl6:=hnx;obtain ⟨wy,EW,hz,LO,HI,SB⟩:=yx wr #[.string ⟨#[48]⟩] 30 #[.string ⟨#[48]⟩] 30 #[.slice a bs.length cap] 122;rw [EW];clear EW;obtain ⟨lb,el⟩:∃ y,wr.heap.size=y:=⟨_,rfl⟩;have hB0:Below w.heap.size w wy:=Bt hnx hz;have hlb:bx+1+1<lb:=by rw [← el];exact E.out.lt
   replace R:=R.bl hz;replace E3:=E3.bl hz;replace E:=E.bl hz;rw [el] at LO HI SB ⊢;clear cE fE lE hz hnx bl6;have z0:Value.string ⟨#[48]⟩=bW ((0:Nat):Int):=by kernel_rfl
   rw [z0] at LO HI;have bt5:=HL.out;have HBN:Hid (∀ x:Fin bs.length,dA bs[x.1].1 bs[x.1].2=true):=zh fun x=>List.all_eq_true.1 HOK.out _ (List.getElem_mem x.2)
   have HLO:Hid (∀ pre:List (Fin bs.length),pre.length≤bs.length→jG (uF (los bs pre))=true):=zh fun pre hp=>Xv (fun y hy=>by
    obtain ⟨x, -, rfl⟩:=List.mem_map.1 hy;have:=Vw (HBN.out x);omega) (by unfold los;rw [List.length_map];omega)
   have HHI:Hid (∀ pre:List (Fin bs.length),pre.length≤bs.length→jG (uF (his bs pre))=true):=zh fun pre hp=>Xv (fun y hy=>by
    obtain ⟨x, -, rfl⟩:=List.mem_map.1 hy;exact (Vw (HBN.out x)).2) (by unfold his;rw [List.length_map];omega)
   refine wpIn_rangeFunc_ownH (α:=Fin bs.length) rfl zo (gf:=230) (lb:=#[.pointer (some ⟨lb+1+1,0,none⟩)]) rfl trivial (enters_of Tryz.func230 zk rfl)
    (DJ 2 zo (lb+1+1) w.heap.size (.slice a bs.length cap) T bs HOK.out w wy SB.out.lt hB0.size ((SB.out.cell 0).trans rfl) HR.out (Nat.le_refl _) hB0) belowK_t (belowK_b hB0.size) (Below.refl _ _) (fun _=>rfl)
    (fun pre W=>(ah W bx #[.int .i64 0,.int .i64 0] 40∧ah W (bx+1) #[.int .i64 0] 43∧ah W (bx+1+1) #[.int .i64 0] 43∧ah W lb #[bW (uF (los bs pre):Nat)] 30∧ah W (lb+1) #[bW (uF (his bs pre):Nat)] 30)∧Below w.heap.size w W)
    (fun c' pre W=>False∧Below w.heap.size w W)
    (OwnFrom.and (Own.from (fun s A B row hs hg hr=>⟨gu hs.1 hg hr,gu hs.2.1 hg hr,gu hs.2.2.1 hg hr,gu hs.2.2.2.1 hg hr,gu hs.2.2.2.2 hg hr⟩) _) (ownFrom_below (Nat.le_refl _) hB0.size))
    (fun c=>OwnFrom.and (Own.from (fun s A B row hs hg hr=>hs) _) (ownFrom_below (Nat.le_refl _) hB0.size))
    ⟨⟨R.out,E3.out,E.out,LO.out,HI.out⟩,hB0⟩ (fun x a' W=>∃ u35 B,lb+1<B∧a'={ tmps:=#[Value.slice a bs.length cap,undef,.pointer (some ⟨bx,0,none⟩),.pointer (some ⟨bx+1,0,none⟩),.pointer (some ⟨bx+1+1,0,none⟩),undef,u6,.pointer (some ⟨lb,0,none⟩),.pointer (some ⟨lb+1,0,none⟩),.pointer (some ⟨B,0,none⟩),.slice a bs.length cap,.int .i64 bs.length,.bool false,undef,.slice a bs.length cap,.int .i64 bs.length,.bool false,undef,.slice a bs.length cap,.int .i64 bs.length,.int .i64 bs.length,.bool false,u22,u23,u24,u25,u26,u27,u28,.int .i64 0,.bool false,undef,undef,.slice a bs.length cap,.func (.func 230) #[] #[.pointer (some ⟨lb+1+1,0,none⟩)],u35,undef,undef,undef,undef,undef,undef,undef,undef,undef,undef,undef,undef,undef,undef,undef,undef,undef,undef,undef,undef,undef,undef,undef,undef,undef,undef,undef],defers:=[] }∧ah W B #[.int .i64 ((Ph bs[x.1]:Nat):Int),.int .i64 ((Ou bs[x.1]:Nat):Int)] 40) ?hAx ?assign ?body ?done ?stop
   case hAx =>
    intro x a'
    exact Own.from (fun s A B row hs hg hr=>by
     obtain ⟨u1,B',h0,h1,h2⟩:=hs;exact ⟨u1,B',h0,h1,gu h2 hg hr⟩) _
   case assign =>
    intro l pre x W K hI hK;unfold aA3
    gi_wp2
    exact hK _ _ ((eZ au).from _) ((Below.refl _ W).alloc hI.2.size _) ⟨⟨hI.1.1.alloc _,hI.1.2.1.alloc _,hI.1.2.2.1.alloc _,hI.1.2.2.2.1.alloc _,hI.1.2.2.2.2.alloc _⟩,hI.2.alloc hI.2.size _⟩ ⟨_,_,hI.1.2.2.2.2.lt,rfl,aJ⟩
   case body =>
    rintro l pre x a' W hl hr ⟨⟨b1,b2,b3,b4,b5⟩,hB⟩ ⟨u35,B',hBl,rfl,hbB⟩ hpl
    dsimp only
    have hS1:=HLO.out pre zo;have hS2:=HHI.out pre zo;have hT1:=HLO.out (pre++[x]) (by rw [List.length_append,List.length_singleton];omega);have hT2:=HHI.out (pre++[x]) (by rw [List.length_append,List.length_singleton];omega);have hbx:=Vw (HBN.out x);rw [Qs] at hT1;rw [QW] at hT2;have A1:=zh (fun W h=>Bb (uF (los bs pre)) (Ph bs[x.1]) hS1 zo hT1 W h);have A2:=zh (fun W h=>Bb (uF (his bs pre)) (Ou bs[x.1]) hS2 hbx.2 hT2 W h);rw [← Qs] at A1;rw [← QW] at A2;clear hS1 hS2 hT1 hT2 hbx;obtain ⟨t1,Et1⟩:∃ y,bW ((uF (los bs (pre++[x])):Nat):Int)= .string y:=⟨_,rfl⟩;obtain ⟨t2,Et2⟩:∃ y,bW ((uF (his bs (pre++[x])):Nat):Int)= .string y:=⟨_,rfl⟩;obtain ⟨s1,Es1⟩:∃ y,bW ((uF (los bs pre):Nat):Int)= .string y:=⟨_,rfl⟩;obtain ⟨s2,Es2⟩:∃ y,bW ((uF (his bs pre):Nat):Int)= .string y:=⟨_,rfl⟩;rw [Et1,Es1] at A1;rw [Et2,Es2] at A2;rw [Es1] at b4
    rw [Es2] at b5;have HT1:=zh Et1;have HT2:=zh Et2;clear Et1 Et2 Es1 Es2;generalize Ph bs[x.1]=n1 at *;generalize Ou bs[x.1]=n2 at *;have ne1:lb≠bx+1+1:=by omega
    have ne2:lb+1≠bx+1+1:=by omega
    have ne3:B'≠lb:=by omega
    have ne4:B'≠bx+1+1:=by omega
    have cB:=hbB.cell;have lB:=hbB.lt;have c4:=b4.cell;have l4:=b4.lt
    gi_wp2_with (first|(refine ⟨trivial,?_⟩;gi_at_call 154;with_reducible refine (CallsIn.inRound l (callsIn_wide.2 (A1.out _ ?_))).mono ?_;exact (HP.out.later hB);rintro e w1 ⟨rfl,hc1⟩;have c1:=(b1.later hc1);have c2:=(b2.later hc1);have c3:=(b3.later hc1);have c4:=(b4.later hc1);have c5:=(b5.later hc1);have cB:=(hbB.later hc1).cell;have lB:=(hbB.later hc1).lt;have d3:=c3.cell;have d4:=c4.cell;have d5:=c5.cell;have f3:=c3.free;have f4:=c4.free;have f5:=c5.free;have l3:=c3.lt;have l4:=c4.lt;have l5:=c5.lt))
    have k1:KeepsOthers W ((w1.setCell ⟨lb,0,none⟩ (.string t1)).setCell ⟨bx+1+1,0,none⟩ (.int .i64 0)):=((eZ hc1).trans (KeepsOthers.setCell _ _ _)).trans (KeepsOthers.setCell _ _ _);have p1:Below w.heap.size W ((w1.setCell ⟨lb,0,none⟩ (.string t1)).setCell ⟨bx+1+1,0,none⟩ (.int .i64 0)):=((hc1.mono hB.size).setCell (p:=⟨lb,0,none⟩) (by simp;omega) _).setCell (p:=⟨bx+1+1,0,none⟩) (by simp;omega) _;have e1:ah ((w1.setCell ⟨lb,0,none⟩ (.string t1)).setCell ⟨bx+1+1,0,none⟩ (.int .i64 0)) bx #[.int .i64 0,.int .i64 0] 40:=ah.setOther (ah.setOther c1 _ (by simp;omega)) _ (by simp;omega);have e2:ah ((w1.setCell ⟨lb,0,none⟩ (.string t1)).setCell ⟨bx+1+1,0,none⟩ (.int .i64 0)) (bx+1) #[.int .i64 0] 43:=ah.setOther (ah.setOther c2 _ (by simp;omega)) _ zi
    have e3:ah ((w1.setCell ⟨lb,0,none⟩ (.string t1)).setCell ⟨bx+1+1,0,none⟩ (.int .i64 0)) (bx+1+1) #[.int .i64 0] 43:=ah.set (ah.setOther c3 _ (by simp;omega)) 0 _;have e4:ah ((w1.setCell ⟨lb,0,none⟩ (.string t1)).setCell ⟨bx+1+1,0,none⟩ (.int .i64 0)) lb #[.string t1] 30:=ah.setOther (ah.set c4 0 _) _ (by simp;omega);have e5:ah ((w1.setCell ⟨lb,0,none⟩ (.string t1)).setCell ⟨bx+1+1,0,none⟩ (.int .i64 0)) (lb+1) #[.string s2] 30:=ah.setOther (ah.setOther c5 _ zi) _ (by simp;omega);generalize (w1.setCell ⟨lb,0,none⟩ (.string t1)).setCell ⟨bx+1+1,0,none⟩ (.int .i64 0)=w2 at *;clear c1 c2 c3 c4 c5 d3 d4 d5 f3 f4 f5 l3 l4 l5 cB lB hc1 b1 b2 b3 b4 b5;refine ⟨trivial,?_⟩;have hB2:=hB.trans p1;refine (CallsIn.inRound l (callsIn_wide.2 (A2.out _ (HP.out.later hB2)))).mono ?_;rintro e w3 ⟨rfl,hc3⟩;have q1:=e1.later hc3;have q2:=e2.later hc3;have q3:=e3.later hc3;have q4:=e4.later hc3
    have q5:=e5.later hc3;have d3:=q3.cell;have d5:=q5.cell;have f3:=q3.free;have f5:=q5.free;have l3:=q3.lt;have l5:=q5.lt
    gi_wp2
    have k3:KeepsOthers W ((w3.setCell ⟨lb+1,0,none⟩ (.string t2)).setCell ⟨bx+1+1,0,none⟩ (.int .i64 0)):=((k1.trans (eZ hc3)).trans (KeepsOthers.setCell _ _ _)).trans (KeepsOthers.setCell _ _ _);have p3:Below w.heap.size W ((w3.setCell ⟨lb+1,0,none⟩ (.string t2)).setCell ⟨bx+1+1,0,none⟩ (.int .i64 0)):=((p1.trans (hc3.mono hB2.size)).setCell (p:=⟨lb+1,0,none⟩) (by simp;omega) _).setCell (p:=⟨bx+1+1,0,none⟩) (by simp;omega) _;have g1:ah ((w3.setCell ⟨lb+1,0,none⟩ (.string t2)).setCell ⟨bx+1+1,0,none⟩ (.int .i64 0)) bx #[.int .i64 0,.int .i64 0] 40:=ah.setOther (ah.setOther q1 _ (by simp;omega)) _ (by simp;omega);have g2:ah ((w3.setCell ⟨lb+1,0,none⟩ (.string t2)).setCell ⟨bx+1+1,0,none⟩ (.int .i64 0)) (bx+1) #[.int .i64 0] 43:=ah.setOther (ah.setOther q2 _ (by simp;omega)) _ zi
    have g3:ah ((w3.setCell ⟨lb+1,0,none⟩ (.string t2)).setCell ⟨bx+1+1,0,none⟩ (.int .i64 0)) (bx+1+1) #[.int .i64 0] 43:=ah.set (ah.setOther q3 _ (by simp;omega)) 0 _;have g4:ah ((w3.setCell ⟨lb+1,0,none⟩ (.string t2)).setCell ⟨bx+1+1,0,none⟩ (.int .i64 0)) lb #[.string t1] 30:=ah.setOther (ah.setOther q4 _ zi) _ (by simp;omega);have g5:ah ((w3.setCell ⟨lb+1,0,none⟩ (.string t2)).setCell ⟨bx+1+1,0,none⟩ (.int .i64 0)) (lb+1) #[.string t2] 30:=ah.setOther (ah.set q5 0 _) _ (by simp;omega);refine ⟨k3.from _,p3,⟨g1,g2,g3,?_,?_⟩,hB.trans p3⟩
    ·rw [HT1.out];exact g4
    ·rw [HT2.out];exact g5
   case done =>
    rintro D ys W hD rfl ⟨⟨b1,b2,b3,b4,b5⟩,hB⟩ hK;rw [Qr] at b4;rw [QM] at b5;have HO:=zh (fun W h1 h2=>ax0 (bs.map Ph) (bs.map Ou) (by rw [← Qr];exact HLO.out _ (by rw [jK];omega)) (by rw [← QM];exact HHI.out _ (by rw [jK];omega)) W h1 h2);rw [HZ.out] at HO;unfold bK at HO;simp only at HO;obtain ⟨s1,Es1⟩:∃ y,bW ((uF (bs.map Ph):Nat):Int)= .string y:=⟨_,rfl⟩;obtain ⟨s2,Es2⟩:∃ y,bW ((uF (bs.map Ou):Nat):Int)= .string y:=⟨_,rfl⟩;rw [Es1,Es2] at HO;rw [Es1] at b4;rw [Es2] at b5;clear Es1 Es2;have c4:=b4.cell;have l4:=b4.lt;have c5:=b5.cell;have l5:=b5.lt
    gi_wp2_with (refine ⟨trivial,?_⟩;gi_at_call 155;refine (callsIn_wide.2 (HO.out _ (HP.out.later hB) (HE.out.later hB))).mono ?_;rintro e w1 ⟨rfl,hc1⟩;have c1:=(b1.later hc1);have c2:=(b2.later hc1);have d1:=c1.cell;have d2:=c2.cell;have f1:=c1.free;have f2:=c2.free;have l1:=c1.lt;have l2:=c2.lt)
    rw [Exit.noGoto_ret];have hDW:D<W.heap.size:=(Array.getElem?_eq_some_iff.1 hK).1;have hK1:=(hc1.block D hDW).trans hK;have hK2:=(((KeepsOthers.setCell w1 ⟨bx,0,none⟩ (.int .i64 z1)).trans (KeepsOthers.setCell _ ⟨bx,1,none⟩ (.int .i64 z2))).trans (KeepsOthers.setCell _ ⟨bx+1,0,none⟩ (.int .i64 z3))).same D _ hK1 rfl;refine ⟨by simp,.inl ⟨_,_,rfl,run_takeDeferred hK2,?_⟩⟩;have g1:ah (((w1.setCell ⟨bx,0,none⟩ (.int .i64 z1)).setCell ⟨bx,1,none⟩ (.int .i64 z2)).setCell ⟨bx+1,0,none⟩ (.int .i64 z3)) bx #[.int .i64 z1,.int .i64 z2] 40:=ah.setOther ((c1.set 0 _).set 1 _) _ zi;have g2:ah (((w1.setCell ⟨bx,0,none⟩ (.int .i64 z1)).setCell ⟨bx,1,none⟩ (.int .i64 z2)).setCell ⟨bx+1,0,none⟩ (.int .i64 z3)) (bx+1) #[.int .i64 z3] 43:=ah.set (ah.setOther (ah.setOther c2 _ zi) _ zi) 0 _
    have hW:=(((hB.trans (hc1.mono hB.size)).setCell (p:=⟨bx,0,none⟩) (by simp;omega) (.int .i64 z1)).setCell (p:=⟨bx,1,none⟩) (by simp;omega) (.int .i64 z2)).setCell (p:=⟨bx+1,0,none⟩) (by simp;omega) (.int .i64 z3);have g1:=gu g1 (grownBy_putObj' _ D (.deferred none)) (fun r e=>by cases e;exact ⟨_,hK2,rfl⟩);have g2:=gu g2 (grownBy_putObj' _ D (.deferred none)) (fun r e=>by cases e;exact ⟨_,hK2,rfl⟩);have hW2:=hW.trans (belowK_b (w:=w) (Nat.le_refl _) _ D _ (.deferred none) (by have:=hB0.size;omega) hK2 rfl rfl);have hc1':=g1.cell;have hc2':=g2.cell;have hl1:=hc1' 0;have hl2:=hc1' 1;have hl3:=hc2' 0;refine ⟨.tuple #[.agg #[.int .i64 z1,.int .i64 z2],.int .i64 z3],?_,rfl,hW2⟩;simp [results,Tryz.f71,go_sem,hl1,hl2,hl3]
   case stop =>
    rintro D c' pre W hD hpre ⟨h, -⟩ hK;cases h
end Go.Proofs.power
