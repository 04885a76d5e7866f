/- Lemmas for the proof. No condition. -/
import Derived.Test.YtneajphgfdlmhaaGreatDoorUB15
import Derived.Test.YtneajphgfdlmhaaGreatDoorUB26
set_option linter.unusedVariables false
set_option linter.unusedSimpArgs false
set_option maxRecDepth 100000
set_option maxHeartbeats 16000000
open Go.Ending renaming returned → ah
open Go.IntKind renaming i64 → I
open Go.Value renaming agg → au, bool → ak, int → Z, pointer → aA, slice → aj, string → O, tuple → aD
open List renaming cons_append → dx, getElem_mem → fq, length_cons → bg, set_cons_succ → aN, set_cons_zero → aM
open Nat renaming add_comm → iO, add_mul → dL, le_refl → aC, lt_of_le_of_lt → gH, mul_le_mul_right → bf, one_mul → iw
namespace Go.Proofs.fC
open Go Go.RowKit Go.SW Go.Num Go.Mem Go.Proofs Go.Dec Go.gB
theorem Zy (s t s' t':ByteArray) (w:World) (h:rd ⟨s,t⟩=none∨rd ⟨s',t'⟩=none) :
  Calls Tryz.prog 128 #[au #[O s,O t],au #[O s',O t']] w (fun e w'=>e= ah (aD #[au #[O ⟨#[]⟩,O ⟨#[]⟩],Z I 20])∧Below w.heap.size w w'):=by
 cases h1:rd ⟨s,t⟩ with
 | none =>
  have HR:=zh (iL h1);cases k:rd ⟨s',t'⟩ with
  | none =>
   have HS:=zh (iL k);clear h k h1;go_enter Tryz.func128,Tryz.ntmps128
   go_wp2_with fail
   refine (HR.out _).mono ?_;rintro e v1 ⟨rfl,hc1⟩;have BR:=aB.later (aB.at2 _ _ _ _ _) hc1;have dV:=BR.cell;have dU:=BR.free;have kg:=BR.lt;have B1:=aB.later (aB.alloc (aB.qM _ _ _ _) _) hc1;have cB1:=B1.cell;have wu:=B1.free;have lB1:=B1.lt;go_wp2_with fail
   refine (HS.out _).mono ?_;rintro e v2 ⟨rfl,hc2⟩;replace BR:aB _ (w.heap.size+1+1) _ _:=aB.later bI hc2;(try simp only [List.setIfInBounds_toArray,aM,aN] at BR);replace dV:=BR.cell;replace dU:=BR.free;replace kg:=BR.lt;go_wp2_with fail
   refine bK rfl rfl bI Tryz.underlying32 rfl zk ?_;exact ⟨rfl,aJ⟩
  | some q =>
   have HS:=zh (iB k);clear h k h1;go_enter Tryz.func128,Tryz.ntmps128
   go_wp2_with fail
   refine (HR.out _).mono ?_;rintro e v1 ⟨rfl,hc1⟩;have BR:=aB.later (aB.at2 _ _ _ _ _) hc1;have dV:=BR.cell;have dU:=BR.free;have kg:=BR.lt;have B1:=aB.later (aB.alloc (aB.qM _ _ _ _) _) hc1;have cB1:=B1.cell;have wu:=B1.free;have lB1:=B1.lt;go_wp2_with fail
   refine (HS.out _).mono ?_;rintro e v2 ⟨v,rfl,hc2,hv⟩;obtain ⟨Bh,Uu,Bq,Fw,XV,FN,rfl,Hq,uG⟩:=hv;replace Hq:=zh Hq;replace uG:=zh uG;replace BR:aB _ (w.heap.size+1+1) _ _:=aB.later bI hc2;(try simp only [List.setIfInBounds_toArray,aM,aN] at BR);replace dV:=BR.cell;replace dU:=BR.free;replace kg:=BR.lt;go_wp2_with fail
   refine bK rfl rfl bI Tryz.underlying32 rfl zk ?_;exact ⟨rfl,aJ⟩
 | some p =>
  have HR:=zh (iB h1);cases k:rd ⟨s',t'⟩ with
  | none =>
   have HS:=zh (iL k);clear h k h1;go_enter Tryz.func128,Tryz.ntmps128
   go_wp2_with fail
   refine (HR.out _).mono ?_;rintro e v1 ⟨v,rfl,hc1,hv⟩;obtain ⟨MN,lHp,NI,RF,mHp,SF,rfl,Hp,wU⟩:=hv;replace Hp:=zh Hp;replace wU:=zh wU;have BR:=aB.later (aB.at2 _ _ _ _ _) hc1;have dV:=BR.cell;have dU:=BR.free;have kg:=BR.lt;have B1:=aB.later (aB.alloc (aB.qM _ _ _ _) _) hc1;have cB1:=B1.cell;have wu:=B1.free;have lB1:=B1.lt;go_wp2_with fail
   refine (HS.out _).mono ?_;rintro e v2 ⟨rfl,hc2⟩;replace BR:aB _ (w.heap.size+1+1) _ _:=aB.later bI hc2;(try simp only [List.setIfInBounds_toArray,aM,aN] at BR);replace dV:=BR.cell;replace dU:=BR.free;replace kg:=BR.lt;go_wp2_with fail
   refine bK rfl rfl bI Tryz.underlying32 rfl zk ?_;exact ⟨rfl,aJ⟩
  | some q=>rw [h1,k] at h;simp at h
theorem div_zero (s t s' t':ByteArray) (w:World) (p:Rat) (h:rd ⟨s,t⟩=some p) (k:rd ⟨s',t'⟩=some 0) :
  Calls Tryz.prog 128 #[au #[O s,O t],au #[O s',O t']] w (fun e w'=>e= ah (aD #[au #[O ⟨#[]⟩,O ⟨#[]⟩],Z I 7])∧Below w.heap.size w w'):=by
 have HR:=zh (iB h);have HS:=zh (iB k);clear h k;obtain ⟨n,En⟩:∃ y:Nat,Hid ((0:Rat).num.natAbs=y):=⟨_,zh rfl⟩;have hz:decide (n=0)=true:=by rw [← En.out];rfl
 have HZ:=zh hz;clear hz;go_enter Tryz.func128,Tryz.ntmps128
 go_wp2_with fail
 refine (HR.out _).mono ?_;rintro e v1 ⟨v,rfl,hc1,hv⟩;obtain ⟨MN,lHp,NI,RF,mHp,SF,rfl,Hp,wU⟩:=hv;replace Hp:=zh Hp;replace wU:=zh wU;have BR:=aB.later (aB.at2 _ _ _ _ _) hc1;have dV:=BR.cell;have dU:=BR.free;have kg:=BR.lt;have B1:=aB.later (aB.alloc (aB.qM _ _ _ _) _) hc1;have cB1:=B1.cell;have wu:=B1.free;have lB1:=B1.lt;go_wp2_with fail
 refine (HS.out _).mono ?_;rintro e v2 ⟨v,rfl,hc2,hv⟩;obtain ⟨Bh,Uu,Bq,Fw,XV,FN,rfl,Hq,uG⟩:=hv;replace Hq:=zh Hq;replace uG:=zh uG;replace BR:aB _ (w.heap.size+1+1) _ _:=aB.later bI hc2;(try simp only [List.setIfInBounds_toArray,aM,aN] at BR);replace dV:=BR.cell;replace dU:=BR.free;replace kg:=BR.lt;go_wp2_with fail
 rw [En.out] at Hq;refine (iU _ n _ aY).mono ?_;rintro e v5 ⟨rfl,rfl⟩;rw [HZ.out];go_wp2_with fail
 refine bK rfl rfl bI Tryz.underlying32 rfl zk ?_;exact ⟨rfl,aJ⟩
theorem WU (s t s' t':ByteArray) (w:World) (p q:Rat) (h:rd ⟨s,t⟩=some p) (k:rd ⟨s',t'⟩=some q) (h0:q≠0) (ht:jN.Pow w) :
  Calls Tryz.prog 128 #[au #[O s,O t],au #[O s',O t']] w (fun e w'=>e= ah (Fr.res (wr (p / q)))∧Below w.heap.size w w'):=by
 have HR:=zh (iB h);have HS:=zh (iB k);have kp:=mU (oK h).2;have kq:=mU (oK k).2;have ki:=OQ kq h0
 have hz:decide (q.num.natAbs=0)=false:=by
  simp [h0]
 have HZ:=zh hz;have HQ0:=zh h0;have HT:=zh ht;rw [Rat.div_def];have km:=nO kp ki;obtain ⟨i,Ei⟩:∃ y:Rat,Hid (q⁻¹=y):=⟨_,zh rfl⟩;rw [Ei.out] at km ki ⊢;obtain ⟨r,Er⟩:∃ y:Rat,Hid (p*i=y):=⟨_,zh rfl⟩;rw [Er.out] at km ⊢;have KP:=zh (kp.mono (show 67≤1000000 by omega));have KI:=zh (ki.mono (show 67≤1000000 by omega));have KR:=zh (km.mono (show 2*67≤1000000 by omega));obtain ⟨x,Ex⟩:∃ y:FrI,Hid (wr r=y):=⟨_,zh rfl⟩;rw [Ex.out];obtain ⟨⟨s1,t1⟩,e⟩:=x;rw [q8];clear h k kp kq ki hz h0 ht km;go_enter Tryz.func128,Tryz.ntmps128
 go_wp2_with fail
 refine (HR.out _).mono ?_;rintro e v1 ⟨v,rfl,hc1,hv⟩;obtain ⟨MN,lHp,NI,RF,mHp,SF,rfl,Hp,wU⟩:=hv;replace Hp:=zh Hp;replace wU:=zh wU;have BR:=aB.later (aB.at2 _ _ _ _ _) hc1;have dV:=BR.cell;have dU:=BR.free;have kg:=BR.lt;have B1:=aB.later (aB.alloc (aB.qM _ _ _ _) _) hc1;have cB1:=B1.cell;have wu:=B1.free;have lB1:=B1.lt;go_wp2_with fail
 refine (HS.out _).mono ?_;rintro e v2 ⟨v,rfl,hc2,hv⟩;obtain ⟨Bh,Uu,Bq,Fw,XV,FN,rfl,Hq,uG⟩:=hv;replace Hq:=zh Hq;replace uG:=zh uG;replace Hp:=zh (bZ.carry Hp.out aY hc2);replace wU:=zh (bZ.carry wU.out aY hc2);replace X1:aB _ (v1.heap.size) _ _:=aB.later bI hc2;(try simp only [List.setIfInBounds_toArray,aM,aN] at X1);replace nK:=X1.cell;replace oq:=X1.free;replace nI:=X1.lt;replace BR:aB _ (w.heap.size+1+1) _ _:=aB.later bI hc2;(try simp only [List.setIfInBounds_toArray,aM,aN] at BR);replace dV:=BR.cell;replace dU:=BR.free;replace kg:=BR.lt;go_wp2_with fail
 refine (iU _ q.num.natAbs _ aY).mono ?_;rintro e v5 ⟨rfl,rfl⟩;rw [HZ.out];go_wp2_with fail
 refine aO [(.read,0),(.read,1),(.ext,2),(.ext,3),(.ext,4),(.pure,5),(.pure,6),(.fin,7),(.fin,8)] zk zk zR zP ?_;refine zV ?_;refine aU rfl rfl (fun w3 hb3 J hJ=>?_);go_simp;replace Hp:=zh (bZ.carry Hp.out aY hb3);replace wU:=zh (bZ.carry wU.out aY hb3);replace BR:aB _ (w.heap.size+1+1) _ _:=aB.later bI hb3;(try simp only [List.setIfInBounds_toArray,aM,aN] at BR);replace dV:=BR.cell;replace dU:=BR.free;replace kg:=BR.lt;refine ((Nh _ q _ (gX.of aY aY) HQ0.out).mono (by rw [Ei.out];exact fun _ _ h=>h)).mono ?_;rintro e v3 ⟨v,rfl,hc3,hv⟩;obtain ⟨aE7,lHv,aK3,aT3,mHv,aY1,rfl,Hv,Hvd⟩:=hv;replace Hv:=zh Hv;replace Hvd:=zh Hvd;replace Hp:=zh (bZ.later Hp.out hc3);replace wU:=zh (bZ.later wU.out hc3);replace BR:=aB.later (BR) hc3;replace dV:=BR.cell;replace dU:=BR.free;replace kg:=BR.lt
 refine hJ _ _ hc3 ?_;clear hJ J;refine aU rfl rfl (fun w4 hb4 J hJ=>?_);go_simp;replace Hp:=zh (bZ.later Hp.out hb4);replace wU:=zh (bZ.later wU.out hb4);replace Hv:=zh (bZ.later Hv.out hb4);replace Hvd:=zh (bZ.later Hvd.out hb4);replace BR:=aB.later (BR) hb4;replace dV:=BR.cell;replace dU:=BR.free;replace kg:=BR.lt;refine ((VG _ _ p i _ (gX.of aY aY) (gX.of aY aY) KP.out KI.out).mono (by rw [Er.out];exact fun _ _ h=>h)).mono ?_;rintro e v4 ⟨v,rfl,hc4,hv⟩;obtain ⟨Vr,lHr,Xd,ag3,mHr,am7,rfl,Hr,Ou⟩:=hv;replace Hr:=zh Hr;replace Ou:=zh Ou;replace Hp:=zh (bZ.later Hp.out hc4);replace wU:=zh (bZ.later wU.out hc4);replace Hv:=zh (bZ.later Hv.out hc4);replace Hvd:=zh (bZ.later Hvd.out hc4);replace BR:=aB.later (BR) hc4;replace dV:=BR.cell;replace dU:=BR.free;replace kg:=BR.lt;refine hJ _ _ hc4 ?_;clear hJ J
 refine aU rfl rfl (fun w5 hb5 J hJ=>?_);go_simp;replace Hr:=zh (bZ.later Hr.out hb5);replace Ou:=zh (bZ.later Ou.out hb5);replace BR:=aB.later (BR) hb5;replace dV:=BR.cell;replace dU:=BR.free;replace kg:=BR.lt;refine ((mI _ r _ (gX.of aY aY) KR.out (HT.out.later aJ)).mono (by rw [Ex.out,q8];exact fun _ _ h=>h)).mono ?_;rintro e v5 ⟨rfl,pQ⟩;replace Hr:=zh (bZ.later Hr.out pQ);replace Ou:=zh (bZ.later Ou.out pQ);replace BR:=aB.later (BR) pQ;replace dV:=BR.cell;replace dU:=BR.free;replace kg:=BR.lt;refine hJ _ _ pQ ?_;clear hJ J;refine zV ?_;refine dD [_,_] rfl (fun w9 uD=>?_);replace BR:=aB.later (BR) uD;replace dV:=BR.cell;replace dU:=BR.free;replace kg:=BR.lt;go_wp2_with fail
 refine bK rfl rfl bI Tryz.underlying32 rfl zk ?_;exact ⟨rfl,aJ⟩
theorem xV (a b:Fr) (w:World) (ht:jN.Pow w) :
  Calls Tryz.prog 128 #[a.v,b.v] w (fun e w'=>e= ah (Fr.res (oN a b))∧Below w.heap.size w w'):=by
 obtain ⟨s,t⟩:=a;obtain ⟨s',t'⟩:=b
 show Calls _ _ #[au #[O s,O t],au #[O s',O t']] _ _
 unfold oN
 by_cases hbad:rd ⟨s,t⟩=none∨rd ⟨s',t'⟩=none
 ·have e:∀ f,bin f ⟨s,t⟩ ⟨s',t'⟩=(Fr.no,20):=fun f=>by
   rcases hbad with h|h
   ·exact pY h
   ·exact qW h
  rw [e];exact Zy s t s' t' w hbad
 ·obtain ⟨p,hp⟩:∃ p,rd ⟨s,t⟩=some p:=Option.ne_none_iff_exists'.1 (fun e=>hbad (.inl e));obtain ⟨q,hq⟩:∃ q,rd ⟨s',t'⟩=some q:=Option.ne_none_iff_exists'.1 (fun e=>hbad (.inr e));rw [lM hp hq]
  by_cases h0:q=0
  ·rw [if_pos h0];subst h0;exact div_zero s t s' t' w p hp hq
  ·rw [if_neg h0];exact WU s t s' t' w p q hp hq h0 ht
theorem Yz (p:Rat) (h:0≤p) (n:Nat):((p^n).num=((p.num.natAbs^n:Nat):Int))∧(p^n).den=p.den^n:=by
 have h0:0≤p.num:=by
  rw [Rat.num_nonneg];exact h
 refine ⟨?_,Rat.den_pow p n⟩;rw [Rat.num_pow,Int.natCast_pow,Int.natAbs_of_nonneg h0]
theorem xR (p:Rat) (n:Nat) (hp:uQ p=true) (h0:0≤p) (n40:n≤40) (w:World) (ht:jN.Pow w) :
  Calls Tryz.prog 127 #[(Fr.of p).v,Z I (n:Int)] w (fun e w'=>e= ah (Fr.res (wr (p^n)))∧Below w.heap.size w w'):=by
 obtain ⟨e1,e2⟩:=Yz p h0 n
 have hn0:0≤p.num:=by
  rw [Rat.num_nonneg];exact h0
 have hq:=o9 hp;have HC:=zh (fun W=>mO (Fr.of p) W);unfold A8 at HC;rw [hq] at HC;obtain ⟨o1,o2⟩:kS p.num.natAbs=true∧kS p.den=true:=by simpa [uQ] using hp
 have H1:=zh (fun W h=>whole.xR p.num.natAbs n o1 n40 W h);have H2:=zh (fun W h=>whole.xR p.den n o2 n40 W h);have HP:=zh ht
 have ev:(Fr.of p).v= au #[dW ((p.num.natAbs:Nat):Int),dW ((p.den:Nat):Int)]:=by
  rw [Int.natAbs_of_nonneg hn0];rfl
 have er:Fr.res (wr (p^n))=if kS (p.num.natAbs^n)=true then if kS (p.den^n)=true then aD #[au #[dW ((p.num.natAbs^n:Nat):Int),dW ((p.den^n:Nat):Int)],Z I 0] else aD #[au #[O ⟨#[]⟩,O ⟨#[]⟩],Z I 6] else aD #[au #[O ⟨#[]⟩,O ⟨#[]⟩],Z I 6]:=by
  have eo:uQ (p^n)=(kS (p.num.natAbs^n)&&kS (p.den^n)):=by
   unfold uQ;rw [e1,e2,Int.natAbs_natCast]
  by_cases k1:kS (p.num.natAbs^n)=true
  ·rw [if_pos k1]
   by_cases k2:kS (p.den^n)=true
   ·rw [if_pos k2,ab5 (by rw [eo,k1,k2];rfl),e1,e2]
   ·rw [if_neg k2,GY (by rw [eo,k1];simpa using k2)]
  ·rw [if_neg k1,GY (by rw [eo];simp [k1])]
 rw [ev] at HC ⊢;rw [er];unfold whole.Bz at H1 H2;simp only [Int.natAbs_natCast] at H1 H2;clear e1 e2 hn0 hq o1 o2 ht ev er hp h0;simp only [Option.isSome_some,if_true] at HC;obtain ⟨oa,Ea⟩:∃ y,kS (p.num.natAbs^n)=y:=⟨_,rfl⟩;obtain ⟨ob,Eb⟩:∃ y,kS (p.den^n)=y:=⟨_,rfl⟩;simp only [Ea] at H1 ⊢;simp only [Eb] at H2 ⊢;clear Ea Eb;generalize p.num.natAbs^n=an at *;generalize p.den^n=bn at *;generalize p.num.natAbs=a at *;generalize p.den=b at *;unfold dW at *;generalize (⟨(Lib.itoa (a:Int)).toArray⟩:ByteArray)=ta at *;generalize (⟨(Lib.itoa (b:Int)).toArray⟩:ByteArray)=tb at *;generalize (⟨(Lib.itoa (an:Int)).toArray⟩:ByteArray)=tan at *;generalize (⟨(Lib.itoa (bn:Int)).toArray⟩:ByteArray)=tbn at *;go_enter Tryz.func127,Tryz.ntmps127
 go_wp2_with fail
 obtain ⟨wx,EW,hz,X,R⟩:=Lf w #[O ta,O tb] 32 #[O ⟨#[]⟩,O ⟨#[]⟩] 32;rw [EW];clear EW;have HB:=zh hz;clear hz;obtain ⟨bx,eb⟩:∃ y,w.heap.size=y:=⟨_,rfl⟩;rw [eb] at X R ⊢;refine (HC.out _).mono ?_;rintro e w1 ⟨rfl,hb1⟩;replace X:=X.bl hb1;replace R:=R.bl hb1;replace HB:=zh (Bt HB.out hb1);clear hb1 HC;obtain ⟨cX,lX⟩:=X.cl;go_wp2_with fail
 refine (H1.out _ (HP.out.later HB.out)).mono ?_;rintro e w2 ⟨rfl,hb2⟩;replace X:=X.bl hb2;replace R:=R.bl hb2;replace HB:=zh (Bt HB.out hb2);clear hb2 H1 cX lX;obtain ⟨cX,lX⟩:=X.cl
 by_cases k1:oa=true
 ·simp only [if_pos k1];go_wp2_with fail
  refine (H2.out _ (HP.out.later HB.out)).mono ?_;rintro e w3 ⟨rfl,hb3⟩;replace R:=R.bl hb3;replace HB:=zh (Bt HB.out hb3);clear hb3 H2 cX lX X;have hx:=R.out;have cx:=hx.cell;have fx:=hx.free;have lx:=hx.lt;have hw:=HB.out;rw [eb] at hw
  by_cases k2:ob=true
  ·simp only [if_pos k2];go_wp2_with fail
   refine bK rfl rfl bI Tryz.underlying32 rfl zk ?_;exact ⟨rfl,aJ⟩
  ·simp only [if_neg k2];go_wp2_with fail
   refine bK rfl rfl bI Tryz.underlying32 rfl zk ?_;exact ⟨rfl,aJ⟩
 ·simp only [if_neg k1];have hx:=R.out;have cx:=hx.cell;have fx:=hx.free;have lx:=hx.lt;have hw:=HB.out;rw [eb] at hw;go_wp2_with fail
  refine bK rfl rfl bI Tryz.underlying32 rfl zk ?_;exact ⟨rfl,aJ⟩
end Go.Proofs.fC
namespace Go.Proofs.power
open Go Go.RowKit Go.SW Go.Num Go.Mem Go.Proofs Go.Dec Go.gB Go.Proofs.whole Go.Proofs.aW
theorem JQ (lo hi:ByteArray) (f:Value) (F:FuncId) (caps free:Array Value) (a b:Int × Int) (w:World) (hf:f= .func (.func F) caps free)
  (h1:∀ W,Below w.heap.size w W→Calls Tryz.prog F (caps++#[O lo,ak false]) W (fun e w'=>e= ah (aD #[Z I a.1,Z I a.2])∧Below W.heap.size W w'))
  (h2:∀ W,Below w.heap.size w W→Calls Tryz.prog F (caps++#[O hi,ak true]) W (fun e w'=>e= ah (aD #[Z I b.1,Z I b.2])∧Below W.heap.size W w')) (hfr:free=#[])
  (hen:∀ args W,(callFunc F args).run Tryz.prog W= .ok (.enter F args) W) :
  Calls Tryz.prog 155 #[O lo,O hi,f] w (fun e w'=>e= ah (RS a b)∧Below w.heap.size w w'):=by
 subst hf hfr;obtain ⟨a1,a2⟩:=a;obtain ⟨b1,b2⟩:=b;have H1:=zh h1;have H2:=zh h2;have HO:=zh (fun W=>mE a1 b1 W);unfold RS;simp only;clear h1 h2;go_enter Tryz.func155,Tryz.ntmps155
 go_wp2_with fail
 refine (H1.out _ aJ).mono ?_;rintro e w1 ⟨rfl,hb1⟩;have hx:=aB.later (aB.new w #[Z I 0,Z I 0] 40) hb1;have HX:=zh hx;have HB1:=zh (Bt (show Below w.heap.size w (w.alloc (.cells #[Z I 0,Z I 0] 40)) from aJ) hb1);clear hx hb1
 by_cases ha:a2=0
 ·subst ha;go_wp2_with fail
  refine (H2.out _ HB1.out).mono ?_;rintro e w2 ⟨rfl,hb2⟩;replace HX:=zh (HX.out.later hb2);have HB2:=zh (Bt HB1.out hb2);clear hb2 HB1
  by_cases hb:b2=0
  ·subst hb;go_wp2_with fail
   refine (HO.out _).mono ?_;rintro e w3 ⟨rfl,hb3⟩;replace HX:=zh (HX.out.later hb3);have HB3:=zh (Bt HB2.out hb3);clear hb3 HB2;have hx:=HX.out;have cx:=hx.cell;have fx:=hx.free;have lx:=hx.lt;have hw:=HB3.out;cases hk:gM a1 b1
   all_goals
    go_wp2_with fail
    refine bK rfl rfl bI Tryz.underlying40 rfl zk ?_;exact ⟨by first|rfl|(rw [if_neg (fun h=>h rfl),if_neg (fun h=>h rfl),hk];rfl),aJ⟩
  ·have g:(b2 == 0)=false:=beq_eq_false_iff_ne.2 hb;have hx:=HX.out;have cx:=hx.cell;have fx:=hx.free;have lx:=hx.lt;have hw:=HB2.out;go_wp2_with fail
   refine bK rfl rfl bI Tryz.underlying40 rfl zk ?_;exact ⟨by first|rfl|(rw [if_neg (fun h=>h rfl),if_pos hb];rfl),aJ⟩
 ·have g:(a2 == 0)=false:=beq_eq_false_iff_ne.2 ha;have hx:=HX.out;have cx:=hx.cell;have fx:=hx.free;have lx:=hx.lt;have hw:=HB1.out;go_wp2_with fail
  refine bK rfl rfl bI Tryz.underlying40 rfl zk ?_;exact ⟨by first|rfl|(rw [if_pos ha];rfl),aJ⟩
theorem zu (s n:Nat) (hs:kS s=true) (hn:n≤10^18) (hk:kS (s+n^2)=true) (w:World) (ht:jN.Pow w) :
  Calls Tryz.prog 154 #[dW (s:Int),Z I (n:Int)] w (fun e w'=>e= ah (aD #[dW ((s+n^2:Nat):Int),Z I 0])∧Below w.heap.size w w'):=by
 have hn0:kS n=true:=yB.2 (gH hn (by decide+kernel));have hn2:kS (n^2)=true:=ru hk zo
 have h63:(n:Int)≤9223372036854775807:=by
  have:(10:Nat)^18=1000000000000000000:=by decide
  omega
 have HO:=zh (fun W h=>Az (n:Int) zo h63 W h);have Ow:=zh (fun W h=>xR n 2 hn0 zo W h);have HA:=zh (fun W h=>uj s (n^2) hs hn2 W h);rw [uH hn2] at Ow;rw [uH hk] at HA;have HP:=zh ht;clear ht h63 hn2 hn0 hs hn hk;generalize s+n^2=u at *;generalize n^2=n2 at *;unfold dW at *;generalize (⟨(Lib.itoa (n:Int)).toArray⟩:ByteArray)=tn at *;generalize (⟨(Lib.itoa (n2:Int)).toArray⟩:ByteArray)=tn2 at *;generalize (⟨(Lib.itoa (s:Int)).toArray⟩:ByteArray)=ts at *;generalize (⟨(Lib.itoa (u:Int)).toArray⟩:ByteArray)=tu at *;go_enter Tryz.func154,Tryz.ntmps154
 go_wp2_with fail
 refine (HO.out _ HP.out).mono ?_;rintro e w1 ⟨rfl,hb1⟩;go_wp2_with fail
 refine (Ow.out _ (HP.out.later hb1)).mono ?_;rintro e w2 ⟨rfl,hb2⟩;go_wp2_with fail
 refine (HA.out _ (HP.out.later (Bt hb1 hb2))).mono ?_;rintro e w3 ⟨rfl,hb3⟩;go_wp2_with fail
 go_ret2
 exact ⟨rfl,Bt hb1 (Bt hb2 hb3)⟩
theorem Ll (s:Nat) (up:Bool) (hs:kS s=true) (w:World) (ht:jN.Pow w) (he:Er w) :
  Calls Tryz.prog 156 #[dW (s:Int),ak up] w (fun e w'=>e= ah (aD #[Z I (Ac (gP 2 s) (up&& !(decide (gP 2 s^2=s)))).1,Z I (Ac (gP 2 s) (up&& !(decide (gP 2 s^2=s)))).2])∧Below w.heap.size w w'):=by
 have HR:=zh (fun W h=>yu s 2 hs zo zo W h);have HI:=zh (fun W h=>xH (gP 2 s) (up&& !(decide (gP 2 s^2=s))) (ru hs (qB zo)) W h);have HP:=zh ht;have HE:=zh he;clear ht he hs;generalize decide (gP 2 s^2=s)=ex at *;obtain ⟨v,Ev⟩:∃ v,Ac (gP 2 s) (up&& !ex)=v:=⟨_,rfl⟩;rw [Ev] at HI ⊢;clear Ev;obtain ⟨v1,v2⟩:=v;simp only at HI ⊢;generalize gP 2 s=r at *;unfold dW at *;generalize (⟨(Lib.itoa (s:Int)).toArray⟩:ByteArray)=ts at *;generalize (⟨(Lib.itoa (r:Int)).toArray⟩:ByteArray)=tr at *;go_enter Tryz.func156,Tryz.ntmps156
 go_wp2_with fail
 refine (HR.out _ HP.out).mono ?_;rintro e w1 ⟨rfl,hb1⟩;cases up<;>cases ex
 all_goals
  go_wp2_with fail
  refine (HI.out _ (HE.out.later hb1)).mono ?_;rintro e w2 ⟨rfl,hb2⟩;go_wp2_with fail
  go_ret2
  exact ⟨rfl,Bt hb1 hb2⟩
theorem Sg {l:List Nat} {up:Bool}:Ac (gP 2 (sM l)) (up&& !(decide (gP 2 (sM l)^2=sM l)))=zZ l up:=by
 show Ac (nlo l) (up&& !(decide (nlo l^2=sM l)))=zZ l up
 by_cases h:nlo l≤10^18
 ·rw [YO h];unfold Ac;rw [if_pos h]
 ·unfold zZ Ac;rw [if_neg h,if_neg h]
end Go.Proofs.power
namespace Go.Proofs.power
open Go Go.RowKit Go.Shelf Go.SW Go.Num Go.Mem Go.Proofs Go.Dec Go.gB Go.Proofs.whole Go.Proofs.aW
attribute [local go_sem] Oper.semAt_some
theorem gY {W W':World} (h:Below W.heap.size W W'):KeepsOthers W W' :=
 ⟨h.size,fun k o hk _=>(h.block k (Array.getElem?_eq_some_iff.1 hk).1).trans hk⟩
theorem iH {W W':World} {row:Option Nat} {b:Nat} {cs:Array Value} {T:TypeId} (h:aB W b cs T) (hg:W.grownBy W' row) (hr:∀ r,row=some r→∃ o:Obj,W.heap[r]? =some o∧o.isCells=false):aB W' b cs T:=by
 unfold aB at *;rw [hg.block b (Array.getElem?_eq_some_iff.1 h).1 ?_]
 ·exact h
 ·intro e;obtain ⟨o,ho,hc⟩:=hr b e.symm;rw [h] at ho;cases ho
  cases hc
theorem QI {l:List Nat} {m:Nat} (h:∀ x∈l,x≤m):sM l≤l.length*m^2:=by
 induction l with
 | nil=>exact Nat.zero_le _
 | cons x t ih =>
  rw [U4,bg,dL,iw,iO];exact Nat.add_le_add (ih fun y hy=>h y (List.mem_cons_of_mem _ hy)) (Nat.pow_le_pow_left (h x zi) 2)
theorem Po {l:List Nat} (h:∀ x∈l,x≤10^18) (h8:l.length≤8):kS (sM l)=true:=by
 have h1:=QI h;have h3:8*(10^18)^2<10^600:=by decide+kernel
 generalize (10^18)^2=m at *;have h2:l.length*m≤8*m:=bf _ h8;exact yB.2 (gH h1 (gH h2 h3))
def los (bs:List (Int × Int)) (pre:List (Fin bs.length)):List Nat:=pre.map fun x=>FQ bs[x.1]
def his (bs:List (Int × Int)) (pre:List (Fin bs.length)):List Nat:=pre.map fun x=>IW bs[x.1]
theorem JZ (bs:List (Int × Int)):los bs (upto bs.length (aC _))=bs.map FQ:=by
 unfold los upto;rw [List.map_ofFn];refine List.ext_getElem zi fun i h1 h2=>?_;simp
theorem Kk (bs:List (Int × Int)):his bs (upto bs.length (aC _))=bs.map IW:=by
 unfold his upto;rw [List.map_ofFn];refine List.ext_getElem zi fun i h1 h2=>?_;simp
theorem J3 (bs:List (Int × Int)) (pre:List (Fin bs.length)) (x:Fin bs.length):sM (los bs (pre++[x]))=sM (los bs pre)+FQ bs[x.1]^2:=by
 unfold los;rw [List.map_append,Cr];simp [sM]
theorem Km (bs:List (Int × Int)) (pre:List (Fin bs.length)) (x:Fin bs.length):sM (his bs (pre++[x]))=sM (his bs pre)+IW bs[x.1]^2:=by
 unfold his;rw [List.map_append,Cr];simp [sM]
theorem YE (l m:List Nat) (hl:kS (sM l)=true) (hm:kS (sM m)=true) (w:World) (ht:jN.Pow w) (he:Er w) :
  Calls Tryz.prog 155 #[dW (sM l:Nat),dW (sM m:Nat),.func (.func 156) #[] #[]] w (fun e w'=>e= ah (dZ (MP (zZ l false) (zZ m true)))∧Below w.heap.size w w'):=by
 have E1:=fun W (h:Below w.heap.size w W)=>Ll (sM l) false hl W (ht.later h) (he.later h);have E2:=fun W (h:Below w.heap.size w W)=>Ll (sM m) true hm W (ht.later h) (he.later h);simp only [Sg] at E1 E2;unfold dW at *;rw [← Pm];exact JQ _ _ (.func (.func 156) #[] #[]) 156 #[] #[] _ _ w rfl E1 E2 rfl (fun args W=>by rfl)
def YP (bs:List (Int × Int)):(Int × Int) × Int:=if bs.length=0 then ((0,0),2) else if 8<bs.length then ((0,0),3) else if okB bs=false then ((0,0),30) else MP (zZ (bs.map FQ) false) (zZ (bs.map IW) true)
theorem T9 (a:Option Addr) (cap:Nat) (T:TypeId) (bs:List (Int × Int)) (h1:1≤bs.length) (h8:bs.length≤8) (hok:okB bs=true) (w:World) (hv:zG w T (aj a bs.length cap) bs) (ht:jN.Pow w) (he:Er w) :
  Calls Tryz.prog 71 #[aj a bs.length cap] w (fun e w'=>e= ah (dZ (MP (zZ (bs.map FQ) false) (zZ (bs.map IW) true)))∧Below w.heap.size w w'):=by
 have q1:((bs.length:Int) == 0)=false:=beq_eq_false_iff_ne.2 zo;have q2:decide ((8:Int)<(bs.length:Int))=false:=by simp;omega
 have HR:=zh hv;have HP:=zh ht;have HE:=zh he;have HOK:=zh hok;have HL:=zh h8
 have hread:∀ k (_:k<bs.length),∃ b off,a=some ⟨b,off,none⟩∧b<w.heap.size∧w.cell? ⟨b,off+k*2,none⟩=some (.int .i64 bs[k].1)∧w.cell? ⟨b,off+k*2+1,none⟩=some (.int .i64 bs[k].2):=by
  obtain ⟨a',cap',e, -, -, h⟩:=hv.read;cases e
  exact h
 have HRD:=zh hread;clear hread;clear hv ht he hok h8;obtain ⟨z,EZ⟩:∃ z,MP (zZ (bs.map FQ) false) (zZ (bs.map IW) true)=z:=⟨_,rfl⟩;rw [EZ];have HZ:=zh EZ;clear EZ;obtain ⟨⟨z1,z2⟩,z3⟩:=z;unfold dZ;simp only;refine (callsIn_wide (n:=3)).1 ?_;refine callsIn_of_wp_marks Tryz.func71 rfl trivial ?_ rfl;simp only [Tryz.ntmps71,List.size_toArray,bg,List.length_nil,Nat.reduceAdd,Nat.reduceSub,Array.replicate_succ,Array.replicate_zero,List.push_toArray,List.append_toArray,List.nil_append,dx]
 gi_wp2
 refine LU ?_
 gi_wp2
 refine wpIn_label ?_;obtain ⟨wx,EW,hz,R,E3,E⟩:=LK w #[Z I 0,Z I 0] 40 #[Z I 0] 43 #[Z I 0] 43;rw [EW];clear EW;obtain ⟨bx,eb⟩:∃ y,w.heap.size=y:=⟨_,rfl⟩;rw [eb] at R E3 E ⊢
 gi_wp2
 gi_loopw [20] (fun i wr=>∃ k:Nat,i= Z I k∧k≤bs.length∧Below w.heap.size w wr∧Hid (aB wr bx #[Z I 0,Z I 0] 40)∧Hid (aB wr (bx+1) #[Z I 0] 43)∧Hid (aB wr (bx+1+1) #[Z I 0] 43))
  (fun i _=>bs.length - (intOf i).toNat)
 case atStart=>exact ⟨0,rfl,Nat.zero_le _,hz,R,E3,E⟩
 case round =>
  clear R E3 E hz;obtain ⟨k,rfl,hk,hnx,R,E3,E⟩:=hrel
  have hw1:wrap64 ((k:Int)+1)=((k+1:Nat):Int):=by
   have:=HL.out;unfold wrap64;omega
  by_cases hlt:k<bs.length
  ·obtain ⟨b,off,rfl,hbl,hx1,hx2⟩:=HRD.out k hlt;have hc1:=(hnx.cell (p:=⟨b,off+k*2,none⟩) hbl).trans hx1;have hc2:=(hnx.cell (p:=⟨b,off+k*2+1,none⟩) hbl).trans hx2;clear hx1 hx2;have hv:gM bs[k].1 bs[k].2=true:=List.all_eq_true.1 HOK.out _ (fq hlt);have HC:=zh (fun W=>iT bs[k].1 bs[k].2 W);rw [hv,if_pos rfl] at HC;have HB:=zh hbl;clear hv hbl;generalize bs[k].1=y1 at *;generalize bs[k].2=y2 at *
   gi_wp2_with (refine ⟨trivial,?_⟩;gi_at_call 151;refine (callsIn_wide.2 (HC.out _)).mono ?_;rintro e w1 ⟨rfl,hc3⟩;have HN:=zh (hnx.alloc hnx.size (.cells #[Z I y1,Z I y2] 40));replace R:=(zh (R.out.alloc (.cells #[Z I y1,Z I y2] 40))).bl hc3;replace E3:=(zh (E3.out.alloc (.cells #[Z I y1,Z I y2] 40))).bl hc3;replace E:=(zh (E.out.alloc (.cells #[Z I y1,Z I y2] 40))).bl hc3;replace HN:=zh (Bt HN.out hc3);clear hc3 hnx hc1 hc2;have cE:=E.out.cell;have fE:=E.out.free;have lE:=E.out.lt)
   go_roundw
   case rel =>
    have hn:=HN.out;rw [eb] at hn;have r:=R.out;have e3:=E3.out;have e4:=E.out;rw [eb];exact ⟨k+1,by rw [hw1],by omega,aJ,zh bI,zh bI,zh (e4.set 0 _)⟩
   case measure =>
    rw [hw1];simp only [intOf,Int.toNat_natCast];omega
  ·obtain rfl:k=bs.length:=by omega
   have hge:¬ bs.length<bs.length:=by omega
   have aJ3:decide ((bs.length:Int)<(bs.length:Int))=false:=by simp
   have cE:=E.out.cell;have fE:=E.out.free;have lE:=E.out.lt
   gi_wp2_with (refine ⟨trivial,?_⟩;gi_at_call 153;refine (IX 2 _ _ _ _).mono ?_;rintro e w' ⟨rfl,rfl⟩)
   have aI7:=hnx;obtain ⟨wy,EW,hz,LO,HI,SB⟩:=LK wr #[O ⟨#[48]⟩] 30 #[O ⟨#[48]⟩] 30 #[aj a bs.length cap] 122;rw [EW];clear EW;obtain ⟨lb,el⟩:∃ y,wr.heap.size=y:=⟨_,rfl⟩;have hB0:Below w.heap.size w wy:=Bt hnx hz;have hlb:bx+1+1<lb:=by rw [← el];exact E.out.lt
   replace R:=R.bl hz;replace E3:=E3.bl hz;replace E:=E.bl hz;rw [el] at LO HI SB ⊢;clear cE fE lE hz hnx aI7;have z0:Value.string ⟨#[48]⟩=dW ((0:Nat):Int):=by kernel_rfl
   rw [z0] at LO HI;have aQ3:=HL.out;have HBN:Hid (∀ x:Fin bs.length,gM bs[x.1].1 bs[x.1].2=true):=zh fun x=>List.all_eq_true.1 HOK.out _ (fq x.2)
   have HLO:Hid (∀ pre:List (Fin bs.length),pre.length≤bs.length→kS (sM (los bs pre))=true):=zh fun pre hp=>Po (fun y hy=>by
    obtain ⟨x, -, rfl⟩:=List.mem_map.1 hy;have:=NK (HBN.out x);omega) (by unfold los;rw [List.length_map];omega)
   have HHI:Hid (∀ pre:List (Fin bs.length),pre.length≤bs.length→kS (sM (his bs pre))=true):=zh fun pre hp=>Po (fun y hy=>by
    obtain ⟨x, -, rfl⟩:=List.mem_map.1 hy;exact (NK (HBN.out x)).2) (by unfold his;rw [List.length_map];omega)
   refine wpIn_rangeFunc_ownH (α:=Fin bs.length) rfl zo (gf:=230) (lb:=#[aA (some ⟨lb+1+1,0,none⟩)]) rfl trivial (enters_of Tryz.func230 zk rfl)
    (Bu 2 zo (lb+1+1) w.heap.size (aj a bs.length cap) T bs HOK.out w wy SB.out.lt hB0.size ((SB.out.cell 0).trans rfl) HR.out (aC _) hB0) belowK_t (belowK_b hB0.size) (Below.refl _ _) (fun _=>rfl)
    (fun pre W=>(aB W bx #[Z I 0,Z I 0] 40∧aB W (bx+1) #[Z I 0] 43∧aB W (bx+1+1) #[Z I 0] 43∧aB W lb #[dW (sM (los bs pre):Nat)] 30∧aB W (lb+1) #[dW (sM (his bs pre):Nat)] 30)∧Below w.heap.size w W)
    (fun c' pre W=>False∧Below w.heap.size w W)
    (OwnFrom.and (Own.from (fun s A B row hs hg hr=>⟨iH hs.1 hg hr,iH hs.2.1 hg hr,iH hs.2.2.1 hg hr,iH hs.2.2.2.1 hg hr,iH hs.2.2.2.2 hg hr⟩) _) (ownFrom_below (aC _) hB0.size))
    (fun c=>OwnFrom.and (Own.from (fun s A B row hs hg hr=>hs) _) (ownFrom_below (aC _) hB0.size))
    ⟨⟨R.out,E3.out,E.out,LO.out,HI.out⟩,hB0⟩ (fun x a' W=>∃ u35 B,lb+1<B∧a'={ tmps:=#[Value.slice a bs.length cap,undef,aA (some ⟨bx,0,none⟩),aA (some ⟨bx+1,0,none⟩),aA (some ⟨bx+1+1,0,none⟩),undef,u6,aA (some ⟨lb,0,none⟩),aA (some ⟨lb+1,0,none⟩),aA (some ⟨B,0,none⟩),aj a bs.length cap,Z I bs.length,ak false,undef,aj a bs.length cap,Z I bs.length,ak false,undef,aj a bs.length cap,Z I bs.length,Z I bs.length,ak false,u22,u23,u24,u25,u26,u27,u28,Z I 0,ak false,undef,undef,aj a bs.length cap,.func (.func 230) #[] #[aA (some ⟨lb+1+1,0,none⟩)],u35,undef,undef,undef,undef,undef,undef,undef,undef,undef,undef,undef,undef,undef,undef,undef,undef,undef,undef,undef,undef,undef,undef,undef,undef,undef,undef,undef],defers:=[] }∧aB W B #[Z I ((FQ bs[x.1]:Nat):Int),Z I ((IW bs[x.1]:Nat):Int)] 40) ?hAx ?assign ?body ?done ?stop
   case hAx =>
    intro x a'
    exact Own.from (fun s A B row hs hg hr=>by
     obtain ⟨u1,B',h0,h1,h2⟩:=hs;exact ⟨u1,B',h0,h1,iH h2 hg hr⟩) _
   case assign =>
    intro l pre x W K hI hK;unfold Zw
    gi_wp2
    exact hK _ _ ((gY aJ).from _) ((Below.refl _ W).alloc hI.2.size _) ⟨⟨hI.1.1.alloc _,hI.1.2.1.alloc _,hI.1.2.2.1.alloc _,hI.1.2.2.2.1.alloc _,hI.1.2.2.2.2.alloc _⟩,hI.2.alloc hI.2.size _⟩ ⟨_,_,hI.1.2.2.2.2.lt,rfl,bI⟩
   case body =>
    rintro l pre x a' W hl hr ⟨⟨b1,b2,b3,b4,b5⟩,hB⟩ ⟨u35,B',hBl,rfl,Uw⟩ hpl
    dsimp only
    have hS1:=HLO.out pre zo;have hS2:=HHI.out pre zo;have hT1:=HLO.out (pre++[x]) (by rw [List.length_append,List.length_singleton];omega);have hT2:=HHI.out (pre++[x]) (by rw [List.length_append,List.length_singleton];omega);have hbx:=NK (HBN.out x);rw [J3] at hT1;rw [Km] at hT2;have A1:=zh (fun W h=>zu (sM (los bs pre)) (FQ bs[x.1]) hS1 zo hT1 W h);have A2:=zh (fun W h=>zu (sM (his bs pre)) (IW bs[x.1]) hS2 hbx.2 hT2 W h);rw [← J3] at A1;rw [← Km] at A2;clear hS1 hS2 hT1 hT2 hbx;obtain ⟨t1,Et1⟩:∃ y,dW ((sM (los bs (pre++[x])):Nat):Int)= O y:=⟨_,rfl⟩;obtain ⟨t2,Et2⟩:∃ y,dW ((sM (his bs (pre++[x])):Nat):Int)= O y:=⟨_,rfl⟩;obtain ⟨s1,Es1⟩:∃ y,dW ((sM (los bs pre):Nat):Int)= O y:=⟨_,rfl⟩;obtain ⟨s2,Es2⟩:∃ y,dW ((sM (his bs pre):Nat):Int)= O y:=⟨_,rfl⟩;rw [Et1,Es1] at A1;rw [Et2,Es2] at A2;rw [Es1] at b4
    rw [Es2] at b5;have HT1:=zh Et1;have HT2:=zh Et2;clear Et1 Et2 Es1 Es2;generalize FQ bs[x.1]=n1 at *;generalize IW bs[x.1]=n2 at *;have ne1:lb≠bx+1+1:=by omega
    have ne2:lb+1≠bx+1+1:=by omega
    have ne3:B'≠lb:=by omega
    have ne4:B'≠bx+1+1:=by omega
    have cB:=Uw.cell;have lB:=Uw.lt;have c4:=b4.cell;have l4:=b4.lt
    gi_wp2_with (first|(refine ⟨trivial,?_⟩;gi_at_call 154;with_reducible refine (CallsIn.inRound l (callsIn_wide.2 (A1.out _ ?_))).mono ?_;exact (HP.out.later hB);rintro e w1 ⟨rfl,hc1⟩;have c1:=(b1.later hc1);have c2:=(b2.later hc1);have c3:=(b3.later hc1);have c4:=(b4.later hc1);have c5:=(b5.later hc1);have cB:=(Uw.later hc1).cell;have lB:=(Uw.later hc1).lt;have d3:=c3.cell;have d4:=c4.cell;have d5:=c5.cell;have f3:=c3.free;have f4:=c4.free;have f5:=c5.free;have l3:=c3.lt;have l4:=c4.lt;have l5:=c5.lt))
    have k1:KeepsOthers W ((w1.setCell ⟨lb,0,none⟩ (O t1)).setCell ⟨bx+1+1,0,none⟩ (Z I 0)):=((gY hc1).trans (KeepsOthers.setCell _ _ _)).trans (KeepsOthers.setCell _ _ _);have p1:Below w.heap.size W ((w1.setCell ⟨lb,0,none⟩ (O t1)).setCell ⟨bx+1+1,0,none⟩ (Z I 0)):=((hc1.mono hB.size).setCell (p:=⟨lb,0,none⟩) (by simp;omega) _).setCell (p:=⟨bx+1+1,0,none⟩) (by simp;omega) _;have e1:aB ((w1.setCell ⟨lb,0,none⟩ (O t1)).setCell ⟨bx+1+1,0,none⟩ (Z I 0)) bx #[Z I 0,Z I 0] 40:=aB.setOther (aB.setOther c1 _ (by simp;omega)) _ (by simp;omega);have e2:aB ((w1.setCell ⟨lb,0,none⟩ (O t1)).setCell ⟨bx+1+1,0,none⟩ (Z I 0)) (bx+1) #[Z I 0] 43:=aB.setOther (aB.setOther c2 _ (by simp;omega)) _ zi
    have e3:aB ((w1.setCell ⟨lb,0,none⟩ (O t1)).setCell ⟨bx+1+1,0,none⟩ (Z I 0)) (bx+1+1) #[Z I 0] 43:=aB.set (aB.setOther c3 _ (by simp;omega)) 0 _;have e4:aB ((w1.setCell ⟨lb,0,none⟩ (O t1)).setCell ⟨bx+1+1,0,none⟩ (Z I 0)) lb #[O t1] 30:=aB.setOther (aB.set c4 0 _) _ (by simp;omega);have e5:aB ((w1.setCell ⟨lb,0,none⟩ (O t1)).setCell ⟨bx+1+1,0,none⟩ (Z I 0)) (lb+1) #[O s2] 30:=aB.setOther (aB.setOther c5 _ zi) _ (by simp;omega);generalize (w1.setCell ⟨lb,0,none⟩ (O t1)).setCell ⟨bx+1+1,0,none⟩ (Z I 0)=w2 at *;clear c1 c2 c3 c4 c5 d3 d4 d5 f3 f4 f5 l3 l4 l5 cB lB hc1 b1 b2 b3 b4 b5;refine ⟨trivial,?_⟩;have hB2:=hB.trans p1;refine (CallsIn.inRound l (callsIn_wide.2 (A2.out _ (HP.out.later hB2)))).mono ?_;rintro e w3 ⟨rfl,hc3⟩;have q1:=e1.later hc3;have q2:=e2.later hc3;have q3:=e3.later hc3;have q4:=e4.later hc3
    have q5:=e5.later hc3;have d3:=q3.cell;have d5:=q5.cell;have f3:=q3.free;have f5:=q5.free;have l3:=q3.lt;have l5:=q5.lt
    gi_wp2
    have k3:KeepsOthers W ((w3.setCell ⟨lb+1,0,none⟩ (O t2)).setCell ⟨bx+1+1,0,none⟩ (Z I 0)):=((k1.trans (gY hc3)).trans (KeepsOthers.setCell _ _ _)).trans (KeepsOthers.setCell _ _ _);have p3:Below w.heap.size W ((w3.setCell ⟨lb+1,0,none⟩ (O t2)).setCell ⟨bx+1+1,0,none⟩ (Z I 0)):=((p1.trans (hc3.mono hB2.size)).setCell (p:=⟨lb+1,0,none⟩) (by simp;omega) _).setCell (p:=⟨bx+1+1,0,none⟩) (by simp;omega) _;have g1:aB ((w3.setCell ⟨lb+1,0,none⟩ (O t2)).setCell ⟨bx+1+1,0,none⟩ (Z I 0)) bx #[Z I 0,Z I 0] 40:=aB.setOther (aB.setOther q1 _ (by simp;omega)) _ (by simp;omega);have g2:aB ((w3.setCell ⟨lb+1,0,none⟩ (O t2)).setCell ⟨bx+1+1,0,none⟩ (Z I 0)) (bx+1) #[Z I 0] 43:=aB.setOther (aB.setOther q2 _ (by simp;omega)) _ zi
    have g3:aB ((w3.setCell ⟨lb+1,0,none⟩ (O t2)).setCell ⟨bx+1+1,0,none⟩ (Z I 0)) (bx+1+1) #[Z I 0] 43:=aB.set (aB.setOther q3 _ (by simp;omega)) 0 _;have g4:aB ((w3.setCell ⟨lb+1,0,none⟩ (O t2)).setCell ⟨bx+1+1,0,none⟩ (Z I 0)) lb #[O t1] 30:=aB.setOther (aB.setOther q4 _ zi) _ (by simp;omega);have g5:aB ((w3.setCell ⟨lb+1,0,none⟩ (O t2)).setCell ⟨bx+1+1,0,none⟩ (Z I 0)) (lb+1) #[O t2] 30:=aB.setOther (aB.set q5 0 _) _ (by simp;omega);refine ⟨k3.from _,p3,⟨g1,g2,g3,?_,?_⟩,hB.trans p3⟩
    ·rw [HT1.out];exact g4
    ·rw [HT2.out];exact g5
   case done =>
    rintro D ys W hD rfl ⟨⟨b1,b2,b3,b4,b5⟩,hB⟩ hK;rw [JZ] at b4;rw [Kk] at b5;have HO:=zh (fun W h1 h2=>YE (bs.map FQ) (bs.map IW) (by rw [← JZ];exact HLO.out _ (by rw [kU];omega)) (by rw [← Kk];exact HHI.out _ (by rw [kU];omega)) W h1 h2);rw [HZ.out] at HO;unfold dZ at HO;simp only at HO;obtain ⟨s1,Es1⟩:∃ y,dW ((sM (bs.map FQ):Nat):Int)= O y:=⟨_,rfl⟩;obtain ⟨s2,Es2⟩:∃ y,dW ((sM (bs.map IW):Nat):Int)= O y:=⟨_,rfl⟩;rw [Es1,Es2] at HO;rw [Es1] at b4;rw [Es2] at b5;clear Es1 Es2;have c4:=b4.cell;have l4:=b4.lt;have c5:=b5.cell;have l5:=b5.lt
    gi_wp2_with (refine ⟨trivial,?_⟩;gi_at_call 155;refine (callsIn_wide.2 (HO.out _ (HP.out.later hB) (HE.out.later hB))).mono ?_;rintro e w1 ⟨rfl,hc1⟩;have c1:=(b1.later hc1);have c2:=(b2.later hc1);have d1:=c1.cell;have d2:=c2.cell;have f1:=c1.free;have f2:=c2.free;have l1:=c1.lt;have l2:=c2.lt)
    rw [Exit.noGoto_ret];have hDW:D<W.heap.size:=(Array.getElem?_eq_some_iff.1 hK).1;have hK1:=(hc1.block D hDW).trans hK;have hK2:=(((KeepsOthers.setCell w1 ⟨bx,0,none⟩ (Z I z1)).trans (KeepsOthers.setCell _ ⟨bx,1,none⟩ (Z I z2))).trans (KeepsOthers.setCell _ ⟨bx+1,0,none⟩ (Z I z3))).same D _ hK1 rfl;refine ⟨by simp,.inl ⟨_,_,rfl,run_takeDeferred hK2,?_⟩⟩;have g1:aB (((w1.setCell ⟨bx,0,none⟩ (Z I z1)).setCell ⟨bx,1,none⟩ (Z I z2)).setCell ⟨bx+1,0,none⟩ (Z I z3)) bx #[Z I z1,Z I z2] 40:=aB.setOther ((c1.set 0 _).set 1 _) _ zi;have g2:aB (((w1.setCell ⟨bx,0,none⟩ (Z I z1)).setCell ⟨bx,1,none⟩ (Z I z2)).setCell ⟨bx+1,0,none⟩ (Z I z3)) (bx+1) #[Z I z3] 43:=aB.set (aB.setOther (aB.setOther c2 _ zi) _ zi) 0 _
    have hW:=(((hB.trans (hc1.mono hB.size)).setCell (p:=⟨bx,0,none⟩) (by simp;omega) (Z I z1)).setCell (p:=⟨bx,1,none⟩) (by simp;omega) (Z I z2)).setCell (p:=⟨bx+1,0,none⟩) (by simp;omega) (Z I z3);have g1:=iH g1 (grownBy_putObj' _ D (.deferred none)) (fun r e=>by cases e;exact ⟨_,hK2,rfl⟩);have g2:=iH g2 (grownBy_putObj' _ D (.deferred none)) (fun r e=>by cases e;exact ⟨_,hK2,rfl⟩);have hW2:=hW.trans (belowK_b (w:=w) (aC _) _ D _ (.deferred none) (by have:=hB0.size;omega) hK2 rfl rfl);have hc1':=g1.cell;have hc2':=g2.cell;have hl1:=hc1' 0;have hl2:=hc1' 1;have hl3:=hc2' 0;refine ⟨aD #[au #[Z I z1,Z I z2],Z I z3],?_,rfl,hW2⟩;simp [results,Tryz.f71,go_sem,hl1,hl2,hl3]
   case stop =>
    rintro D c' pre W hD hpre ⟨h, -⟩ hK;cases h
end Go.Proofs.power
