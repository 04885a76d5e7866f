/- Lemmas for the proof. No condition. -/
import Derived.Test.YtneajphgfdlmhaaGreatDoorUB25
set_option linter.unusedVariables false
set_option linter.unusedSimpArgs false
set_option maxRecDepth 100000
set_option maxHeartbeats 16000000
open Go.Ending renaming returned → ah
open Go.IntKind renaming i64 → I
open Go.Value renaming agg → au, bool → ak, int → Z, slice → aj, string → O, tuple → aD
open List renaming set_cons_succ → aN, set_cons_zero → aM
open Nat renaming le_trans → ay
namespace Go.Proofs.fC
open Go Go.RowKit Go.SW Go.Num Go.Mem Go.Proofs Go.Dec Go.gB
theorem xB (w:World) :
  Calls Tryz.prog 62 #[au #[aj none 0 0,ak false,aj none 0 0],Z I 20] w (fun e w'=>e= ah (aD #[au #[O ⟨#[]⟩,O ⟨#[]⟩],Z I 20])∧Below w.heap.size w w'):=by
 go_enter Tryz.func62,Tryz.ntmps62
 go_wp2_with fail
 refine bK rfl rfl bI Tryz.underlying32 rfl zk ?_;exact ⟨rfl,aJ⟩
theorem zL (v:Value) (q:Rat) (w:World) (h:gX w v q) (k:jy 1000000 q) (ht:jN.Pow w) :
  Calls Tryz.prog 62 #[v,Z I 0] w (fun e w'=>e= ah (Fr.res (wr q))∧Below w.heap.size w w'):=by
 obtain ⟨JO,lH,K7,XU,mH,X0,rfl,H,Hd⟩:=h;replace H:=zh H;replace Hd:=zh Hd;have HT:=zh ht;have K:=zh k;clear ht k;obtain ⟨x,Ex⟩:∃ y:FrI,Hid (wr q=y):=⟨_,zh rfl⟩;rw [Ex.out];obtain ⟨⟨s,t⟩,e⟩:=x;rw [q8];go_enter Tryz.func62,Tryz.ntmps62
 go_wp2_with fail
 refine ((mI _ q _ (gX.of aY aY) K.out (HT.out.later aJ)).mono (by rw [Ex.out,q8];exact fun _ _ h=>h)).mono ?_;rintro e v1 ⟨rfl,hc1⟩;have BR:=aB.later (aB.qM _ _ _ _) hc1;have dV:=BR.cell;have dU:=BR.free;have kg:=BR.lt;go_wp2_with fail
 refine bK rfl rfl bI Tryz.underlying32 rfl zk ?_;exact ⟨rfl,aJ⟩
theorem TH (s t s' t':ByteArray) (w:World) (p q:Rat) (h:rd ⟨s,t⟩=some p) (k:rd ⟨s',t'⟩=some q) :
  Calls Tryz.prog 63 #[au #[O s,O t],au #[O s',O t'],.func (.func 64) #[] #[]] w (fun e w'=>∃ v,e= ah (aD #[v,Z I 0])∧Below w.heap.size w w'∧gX w' v (p*q)):=by
 have HR:=zh (iB h);have HS:=zh (iB k);have KP:=zh ((mU (oK h).2).mono (show 67≤1000000 by omega));have KQ:=zh ((mU (oK k).2).mono (show 67≤1000000 by omega));clear h k;obtain ⟨r,Er⟩:∃ y:Rat,Hid (p*q=y):=⟨_,zh rfl⟩;rw [Er.out];go_enter Tryz.func63,Tryz.ntmps63
 go_wp2_with fail
 refine (HR.out _).mono ?_;rintro e v1 ⟨v,rfl,hc1,hv⟩;obtain ⟨MN,lHp,NI,RF,mHp,SF,rfl,Hp,wU⟩:=hv;replace Hp:=zh Hp;replace wU:=zh wU;have BR:=aB.later (aB.at2 _ _ _ _ _) hc1;have dV:=BR.cell;have dU:=BR.free;have kg:=BR.lt;have B1:=aB.later (aB.alloc (aB.qM _ _ _ _) _) hc1;have cB1:=B1.cell;have wu:=B1.free;have lB1:=B1.lt;go_wp2_with fail
 refine (HS.out _).mono ?_;rintro e v2 ⟨v,rfl,hc2,hv⟩;obtain ⟨Bh,Uu,Bq,Fw,XV,FN,rfl,Hq,uG⟩:=hv;replace Hq:=zh Hq;replace uG:=zh uG;replace Hp:=zh (bZ.carry Hp.out aY hc2);replace wU:=zh (bZ.carry wU.out aY hc2);replace X1:aB _ (v1.heap.size) _ _:=aB.later bI hc2;(try simp only [List.setIfInBounds_toArray,aM,aN] at X1);replace nK:=X1.cell;replace oq:=X1.free;replace nI:=X1.lt;replace BR:aB _ (w.heap.size+1+1) _ _:=aB.later bI hc2;(try simp only [List.setIfInBounds_toArray,aM,aN] at BR);replace dV:=BR.cell;replace dU:=BR.free;replace kg:=BR.lt;go_wp2_with fail
 refine ((VG _ _ p q _ (gX.of aY aY) (gX.of aY aY) KP.out KQ.out).mono (by rw [Er.out];exact fun _ _ h=>h)).mono ?_;rintro e v3 ⟨v,rfl,hc3,hv⟩;obtain ⟨Vr,lHr,Xd,ag3,mHr,am7,rfl,Hr,Ou⟩:=hv;replace Hr:=zh Hr;replace Ou:=zh Ou;replace BR:aB _ (w.heap.size+1+1) _ _:=aB.later bI hc3;(try simp only [List.setIfInBounds_toArray,aM,aN] at BR);replace dV:=BR.cell;replace dU:=BR.free;replace kg:=BR.lt;go_wp2_with fail
 refine bK rfl rfl bI Tryz.underlying108 rfl zk ?_;exact ⟨_,rfl,aJ,gX.of aY aY⟩
theorem FW (s t s' t':ByteArray) (w:World) (h:rd ⟨s,t⟩=none∨rd ⟨s',t'⟩=none) :
  Calls Tryz.prog 63 #[au #[O s,O t],au #[O s',O t'],.func (.func 64) #[] #[]] w (fun e w'=>e= ah (aD #[au #[aj none 0 0,ak false,aj none 0 0],Z I 20])∧Below w.heap.size w w'):=by
 cases h1:rd ⟨s,t⟩ with
 | none =>
  have HR:=zh (iL h1);cases k:rd ⟨s',t'⟩ with
  | none =>
   have HS:=zh (iL k);clear h k h1;go_enter Tryz.func63,Tryz.ntmps63
   go_wp2_with fail
   refine (HR.out _).mono ?_;rintro e v1 ⟨rfl,hc1⟩;have BR:=aB.later (aB.at2 _ _ _ _ _) hc1;have dV:=BR.cell;have dU:=BR.free;have kg:=BR.lt;have B1:=aB.later (aB.alloc (aB.qM _ _ _ _) _) hc1;have cB1:=B1.cell;have wu:=B1.free;have lB1:=B1.lt;go_wp2_with fail
   refine (HS.out _).mono ?_;rintro e v2 ⟨rfl,hc2⟩;replace BR:aB _ (w.heap.size+1+1) _ _:=aB.later bI hc2;replace dV:=BR.cell;replace dU:=BR.free;replace kg:=BR.lt;have q1:w.heap.size+1<v2.heap.size:=by omega
   go_wp2_with fail
   refine bK rfl rfl bI Tryz.underlying108 rfl zk ?_;exact ⟨rfl,aJ⟩
  | some q =>
   have HS:=zh (iB k);clear h k h1;go_enter Tryz.func63,Tryz.ntmps63
   go_wp2_with fail
   refine (HR.out _).mono ?_;rintro e v1 ⟨rfl,hc1⟩;have BR:=aB.later (aB.at2 _ _ _ _ _) hc1;have dV:=BR.cell;have dU:=BR.free;have kg:=BR.lt;have B1:=aB.later (aB.alloc (aB.qM _ _ _ _) _) hc1;have cB1:=B1.cell;have wu:=B1.free;have lB1:=B1.lt;go_wp2_with fail
   refine (HS.out _).mono ?_;rintro e v2 ⟨v,rfl,hc2,hv⟩;obtain ⟨Bh,Uu,Bq,Fw,XV,FN,rfl,Hq,uG⟩:=hv;replace Hq:=zh Hq;replace uG:=zh uG;replace BR:aB _ (w.heap.size+1+1) _ _:=aB.later bI hc2;replace dV:=BR.cell;replace dU:=BR.free;replace kg:=BR.lt;have q1:w.heap.size+1<v2.heap.size:=by omega
   go_wp2_with fail
   refine bK rfl rfl bI Tryz.underlying108 rfl zk ?_;exact ⟨rfl,aJ⟩
 | some p =>
  have HR:=zh (iB h1);cases k:rd ⟨s',t'⟩ with
  | none =>
   have HS:=zh (iL k);clear h k h1;go_enter Tryz.func63,Tryz.ntmps63
   go_wp2_with fail
   refine (HR.out _).mono ?_;rintro e v1 ⟨v,rfl,hc1,hv⟩;obtain ⟨MN,lHp,NI,RF,mHp,SF,rfl,Hp,wU⟩:=hv;replace Hp:=zh Hp;replace wU:=zh wU;have BR:=aB.later (aB.at2 _ _ _ _ _) hc1;have dV:=BR.cell;have dU:=BR.free;have kg:=BR.lt;have B1:=aB.later (aB.alloc (aB.qM _ _ _ _) _) hc1;have cB1:=B1.cell;have wu:=B1.free;have lB1:=B1.lt;go_wp2_with fail
   refine (HS.out _).mono ?_;rintro e v2 ⟨rfl,hc2⟩;replace BR:aB _ (w.heap.size+1+1) _ _:=aB.later bI hc2;replace dV:=BR.cell;replace dU:=BR.free;replace kg:=BR.lt;have q1:w.heap.size+1<v2.heap.size:=by omega
   go_wp2_with fail
   refine bK rfl rfl bI Tryz.underlying108 rfl zk ?_;exact ⟨rfl,aJ⟩
  | some q=>rw [h1,k] at h;simp at h
theorem ug (a b:Fr) (w:World) (ht:jN.Pow w) :
  Calls Tryz.prog 18 #[a.v,b.v] w (fun e w'=>e= ah (Fr.res (kM a b))∧Below w.heap.size w w'):=by
 obtain ⟨s,t⟩:=a;obtain ⟨s',t'⟩:=b
 show Calls _ _ #[au #[O s,O t],au #[O s',O t']] _ _
 unfold kM;have HT:=zh ht;clear ht
 by_cases hbad:rd ⟨s,t⟩=none∨rd ⟨s',t'⟩=none
 ·have e:∀ f,bin f ⟨s,t⟩ ⟨s',t'⟩=(Fr.no,20):=fun f=>by
   rcases hbad with h|h
   ·exact pY h
   ·exact qW h
  rw [e];have HA:=zh (fun w=>FW s t s' t' w hbad);clear hbad e;go_enter Tryz.func18,Tryz.ntmps18
  go_wp2_with fail
  refine (HA.out _).mono ?_;rintro e v1 ⟨rfl,hc1⟩;have BR:=aB.later (aB.at2 _ _ _ _ _) hc1;have dV:=BR.cell;have dU:=BR.free;have kg:=BR.lt;go_wp2_with fail
  refine (xB _).mono ?_;rintro e v2 ⟨rfl,hc2⟩;replace BR:=aB.later (BR) hc2;replace dV:=BR.cell;replace dU:=BR.free;replace kg:=BR.lt;go_wp2_with fail
  refine bK rfl rfl bI Tryz.underlying32 rfl zk ?_;exact ⟨rfl,aJ⟩
 ·obtain ⟨p,hp⟩:∃ p,rd ⟨s,t⟩=some p:=Option.ne_none_iff_exists'.1 (fun e=>hbad (.inl e));obtain ⟨q,hq⟩:∃ q,rd ⟨s',t'⟩=some q:=Option.ne_none_iff_exists'.1 (fun e=>hbad (.inr e));rw [lM hp hq];have KP:=zh (mU (oK hp).2);have KQ:=zh (mU (oK hq).2);have HA:=zh (fun w=>TH s t s' t' w p q hp hq);have KR:Hid (jy 1000000 (p*q)):=zh (jy.mono (k:=135) ((nO KP.out KQ.out).mono zo) zo);clear hp hq hbad KP KQ;obtain ⟨r,Er⟩:∃ y:Rat,Hid (p*q=y):=⟨_,zh rfl⟩;simp only [Er.out] at KR HA ⊢;obtain ⟨x,Ex⟩:∃ y:FrI,Hid (wr r=y):=⟨_,zh rfl⟩;rw [Ex.out];obtain ⟨⟨s1,t1⟩,e⟩:=x;rw [q8];go_enter Tryz.func18,Tryz.ntmps18
  go_wp2_with fail
  refine (HA.out _).mono ?_;rintro e v1 ⟨v,rfl,hc1,hv⟩;obtain ⟨Vr,lHr,Xd,ag3,mHr,am7,rfl,Hr,Ou⟩:=hv;replace Hr:=zh Hr;replace Ou:=zh Ou;have BR:=aB.later (aB.at2 _ _ _ _ _) hc1;have dV:=BR.cell;have dU:=BR.free;have kg:=BR.lt;go_wp2_with fail
  refine ((zL _ r _ (gX.of aY aY) KR.out (HT.out.later aJ)).mono (by rw [Ex.out,q8];exact fun _ _ h=>h)).mono ?_;rintro e v2 ⟨rfl,hc2⟩;replace BR:=aB.later (BR) hc2;replace dV:=BR.cell;replace dU:=BR.free;replace kg:=BR.lt;go_wp2_with fail
  refine bK rfl rfl bI Tryz.underlying32 rfl zk ?_;exact ⟨rfl,aJ⟩
theorem Xo (x y:Value) (p q:Rat) (w:World) (hx:gX w x p) (hy:gX w y q) (kp:jy 1000000 p) (kq:jy 1000000 q) :
  Calls Tryz.prog 239 #[x,y] w (fun e w'=>∃ v,e= ah v∧Below w.heap.size w w'∧gX w' v (p+q)):=by
 obtain ⟨JO,lH,K7,XU,mH,X0,rfl,H,Hd⟩:=hx;replace H:=zh H;replace Hd:=zh Hd;obtain ⟨paG,lG,caG,pbG,mG,cbG,rfl,G,Gd⟩:=hy;replace G:=zh G;replace Gd:=zh Gd;have HP:=zh (N7 p q);have hp:=p.den_pos;have hq:=q.den_pos;have hg:0<p.den.gcd q.den:=Nat.gcd_pos_of_pos_right _ hq;have k1:= @kW q.den (p.den.gcd q.den);have k2:= @kW p.den (p.den.gcd q.den);have k3:=Hy (a:=p.den) hq;obtain ⟨kp1,kp2⟩:=kp;obtain ⟨kq1,kq2⟩:=kq;obtain ⟨g,Eg⟩:∃ y:Nat,Hid (p.den.gcd q.den=y):=⟨_,zh rfl⟩;rw [Eg.out] at hg HP k1 k2 k3;obtain ⟨l,El⟩:∃ y:Nat,Hid (q.den / g=y):=⟨_,zh rfl⟩;rw [El.out] at HP k1;obtain ⟨r,Er⟩:∃ y:Nat,Hid (p.den / g=y):=⟨_,zh rfl⟩;rw [Er.out] at HP k2;have k4:=qc p.num l;have k5:=qc q.num r;obtain ⟨s,Es⟩:∃ y:Int,Hid (p.num*(l:Int)=y):=⟨_,zh rfl⟩;rw [Es.out] at HP k4;obtain ⟨t,Et⟩:∃ y:Int,Hid (q.num*(r:Int)=y):=⟨_,zh rfl⟩;rw [Et.out] at HP k5
 have k6:=Gb s t;obtain ⟨u,Eu⟩:∃ y:Int,Hid (s+t=y):=⟨_,zh rfl⟩;rw [Eu.out] at HP k6;have hh:0<u.natAbs.gcd g:=Nat.gcd_pos_of_pos_right _ hg;obtain ⟨h,Eh⟩:∃ y:Nat,Hid (u.natAbs.gcd g=y):=⟨_,zh rfl⟩;rw [Eh.out] at HP hh;obtain ⟨m,Em⟩:∃ y:Nat,Hid (u.natAbs / h=y):=⟨_,zh rfl⟩;rw [Em.out] at HP;obtain ⟨c,Ec⟩:∃ y:Nat,Hid (q.den / h=y):=⟨_,zh rfl⟩;rw [Ec.out] at HP;have k7:sz 1000000000 c≤sz 1000000000 q.den:=by rw [← Ec.out];exact kW
 obtain ⟨d,Ed⟩:∃ y:Nat,Hid (r*c=y):=⟨_,zh rfl⟩;rw [Ed.out] at HP;have HG:=zh hg;have HH:=zh hh;have Kpn:Hid (sz 1000000000 p.num.natAbs≤549755813888):=by unfold Hid;omega
 have Kqn:Hid (sz 1000000000 q.num.natAbs≤549755813888):=by unfold Hid;omega
 have Kpd:Hid (sz 1000000000 p.den≤549755813888):=by unfold Hid;omega
 have Kqd:Hid (sz 1000000000 q.den≤549755813888):=by unfold Hid;omega
 have Kg:Hid (sz 1000000000 g≤549755813888):=by unfold Hid;omega
 have Kl:Hid (sz 1000000000 l≤549755813888):=by unfold Hid;omega
 have Kr:Hid (sz 1000000000 r≤549755813888):=by unfold Hid;omega
 have Ks:Hid (sz 1000000000 s.natAbs≤549755813888):=by unfold Hid;omega
 have Kt:Hid (sz 1000000000 t.natAbs≤549755813888):=by unfold Hid;omega
 have Ku:Hid (sz 1000000000 u.natAbs≤549755813888):=by unfold Hid;omega
 have Kc:Hid (sz 1000000000 c≤549755813888):=by unfold Hid;omega
 clear k1 k2 k3 k4 k5 k6 k7 kp1 kp2 kq1 kq2 hg hh hp hq;go_enter Tryz.func239,Tryz.ntmps239
 go_wp2_with fail
 refine ((xI _ _ p.den q.den _ aY aY Kpd.out Kqd.out).mono (by rw [Eg.out];exact fun _ _ h=>h)).mono ?_;rintro e v1 ⟨v,rfl,hc1,hv⟩;obtain ⟨aE8,lHg,aK4,rfl⟩:=hv.slice;have Hg:=zh hv;clear hv;have BR:=aB.later (aB.at2 _ _ _ _ _) hc1;have dV:=BR.cell;have dU:=BR.free;have B1:=aB.later (aB.alloc (aB.qM _ _ _ _) _) hc1;have cB1:=B1.cell;have wu:=B1.free;have B0:=aB.later (aB.alloc (aB.alloc (aB.new _ _ _) _) _) hc1;have cB0:=B0.cell;have lK:=B0.free;go_wp2_with fail
 refine ((iI _ _ q.den g _ aY aY HG.out Kqd.out).mono (by rw [El.out];exact fun _ _ h=>h)).mono ?_;rintro e v2 ⟨v,vr,rfl,hc2,hv,qC⟩;obtain ⟨aU8,lHl,aZ6,rfl⟩:=hv.slice;have Hl:=zh hv;clear hv;obtain ⟨aP8,aW6,aR0,rfl⟩:=qC.slice;have Hlr:=zh qC;clear qC;replace BR:=aB.later (BR) hc2;replace dV:=BR.cell;replace dU:=BR.free;replace B1:=aB.later (B1) hc2;replace cB1:=B1.cell;replace wu:=B1.free;replace B0:=aB.later (B0) hc2;replace cB0:=B0.cell;replace lK:=B0.free;go_wp2_with fail
 refine ((iI _ _ p.den g _ aY aY HG.out Kpd.out).mono (by rw [Er.out];exact fun _ _ h=>h)).mono ?_;rintro e v3 ⟨v,vr,rfl,hc3,hv,qC⟩;obtain ⟨Vr,lHr,Xd,rfl⟩:=hv.slice;have Hr:=zh hv;clear hv;obtain ⟨aP6,aW4,aQ8,rfl⟩:=qC.slice;have Hrr:=zh qC;clear qC;replace BR:=aB.later (BR) hc3;replace dV:=BR.cell;replace dU:=BR.free;replace B1:=aB.later (B1) hc3;replace cB1:=B1.cell;replace wu:=B1.free;replace B0:=aB.later (B0) hc3;replace cB0:=B0.cell;replace lK:=B0.free;go_wp2_with fail
 refine aO [(.pure,0),(.read,1),(.pure,2),(.pure,4),(.read,5),(.pure,6),(.ext,3),(.ext,7),(.ext,8),(.alloc #[aj none 0 0,ak false] 106,9),(.fin,10)] zk zk zR zP ?_;refine zV ?_;refine aU rfl rfl (fun w4 hb4 J hJ=>?_);go_simp;replace BR:=aB.later (aB.drew BR) hb4;replace dV:=BR.cell;replace dU:=BR.free;replace B1:=aB.later (aB.drew B1) hb4;replace cB1:=B1.cell;replace wu:=B1.free;replace B0:=aB.later (aB.drew B0) hb4;replace cB0:=B0.cell;replace lK:=B0.free;refine ((rU _ _ p.num l _ (fK.gV aY) aY Kpn.out Kl.out).mono (by rw [Es.out];exact fun _ _ h=>h)).mono ?_;rintro e v4 ⟨v,rfl,hc4,hv⟩;obtain ⟨Fy,XW,FP,rfl,Hs⟩:=hv;replace Hs:=zh Hs;replace BR:=aB.later (BR) hc4;replace dV:=BR.cell;replace dU:=BR.free;replace B1:=aB.later (B1) hc4;replace cB1:=B1.cell;replace wu:=B1.free
 replace B0:=aB.later (B0) hc4;replace cB0:=B0.cell;replace lK:=B0.free;refine hJ _ _ hc4 ?_;clear hJ J;refine aU rfl rfl (fun w5 hb5 J hJ=>?_);go_simp;replace BR:=aB.later (BR) hb5;replace dV:=BR.cell;replace dU:=BR.free;replace B1:=aB.later (B1) hb5;replace cB1:=B1.cell;replace wu:=B1.free;replace B0:=aB.later (B0) hb5;replace cB0:=B0.cell;replace lK:=B0.free;refine ((rU _ _ q.num r _ (fK.gV aY) aY Kqn.out Kr.out).mono (by rw [Et.out];exact fun _ _ h=>h)).mono ?_;rintro e v5 ⟨v,rfl,pQ,hv⟩;obtain ⟨aU5,lHt,aZ3,rfl,Ht⟩:=hv;replace Ht:=zh Ht;replace BR:=aB.later (BR) pQ;replace dV:=BR.cell;replace dU:=BR.free;replace B1:=aB.later (B1) pQ;replace cB1:=B1.cell;replace wu:=B1.free;replace B0:=aB.later (B0) pQ;replace cB0:=B0.cell;replace lK:=B0.free;refine hJ _ _ pQ ?_;clear hJ J;refine aU rfl rfl (fun w6 hb6 J hJ=>?_);go_simp
 replace BR:=aB.later (BR) hb6;replace dV:=BR.cell;replace dU:=BR.free;replace B1:=aB.later (B1) hb6;replace cB1:=B1.cell;replace wu:=B1.free;replace B0:=aB.later (B0) hb6;replace cB0:=B0.cell;replace lK:=B0.free;refine ((wZ _ _ s t _ (fK.gV aY) (fK.gV aY) Ks.out Kt.out).mono (by rw [Eu.out];exact fun _ _ h=>h)).mono ?_;rintro e v6 ⟨v,rfl,hc6,hv⟩;obtain ⟨aU4,lHu,aZ2,rfl,Hu⟩:=hv;replace Hu:=zh Hu;replace BR:=aB.later (BR) hc6;replace dV:=BR.cell;replace dU:=BR.free;replace B1:=aB.later (B1) hc6;replace cB1:=B1.cell;replace wu:=B1.free;replace B0:=aB.later (B0) hc6;replace cB0:=B0.cell;replace lK:=B0.free;refine hJ _ _ hc6 ?_;clear hJ J;refine eX rfl (fun b1 w7 hw7 Nu Wo ak7 fD=>?_);go_simp;replace fD:aB _ _ _ _:=fD;have ak6:w.heap.size≤b1:=(by first|omega|exact ay (Below.size (B:=w.heap.size) aJ) Nu)
 replace BR:=aB.later (BR) hw7;replace dV:=BR.cell;replace dU:=BR.free;replace B1:=aB.later (B1) hw7;replace cB1:=B1.cell;replace wu:=B1.free;replace B0:=aB.later (B0) hw7;replace cB0:=B0.cell;replace lK:=B0.free;refine dD [_] rfl (fun w8 Ji=>?_);replace BR:=aB.later (BR) Ji;replace dV:=BR.cell;replace dU:=BR.free;replace B1:=aB.later (B1) Ji;replace cB1:=B1.cell;replace wu:=B1.free;replace B0:=aB.later (B0) Ji;replace cB0:=B0.cell;replace lK:=B0.free;replace fD:=aB.later (fD) Ji;replace qG:=fD.cell;replace qF:=fD.free;have n0:=B0.ne fD zd;have n1:=B1.ne fD zd;have n2:=BR.ne fD zd;go_wp2_with fail
 refine ((xI _ _ u.natAbs g _ aY aY Ku.out Kg.out).mono (by rw [Eh.out];exact fun _ _ h=>h)).mono ?_;rintro e v9 ⟨v,rfl,Nq,hv⟩;obtain ⟨aU9,lHh,aZ7,rfl⟩:=hv.slice;have Hh:=zh hv;clear hv;replace Hu:=zh (bZ.carry Hu.out aY Nq);replace Hg:=zh (bZ.carry Hg.out aY Nq);replace Hr:=zh (bZ.carry Hr.out aY Nq);replace G:=zh (bZ.carry G.out aY Nq);replace Gd:=zh (bZ.carry Gd.out aY Nq);replace fD:aB _ (b1) _ _:=aB.later bI Nq;(try simp only [List.setIfInBounds_toArray,aM,aN] at fD);replace qG:=fD.cell;replace qF:=fD.free;replace BR:aB _ (w.heap.size+1+1) _ _:=aB.later bI Nq;(try simp only [List.setIfInBounds_toArray,aM,aN] at BR);replace dV:=BR.cell;replace dU:=BR.free
 replace B1:aB _ (w.heap.size+1) _ _:=aB.later bI Nq;(try simp only [List.setIfInBounds_toArray,aM,aN] at B1);replace cB1:=B1.cell;replace wu:=B1.free;replace B0:aB _ (w.heap.size) _ _:=aB.later bI Nq;(try simp only [List.setIfInBounds_toArray,aM,aN] at B0);replace cB0:=B0.cell;replace lK:=B0.free;go_wp2_with fail
 refine ((iI _ _ u.natAbs h _ aY aY HH.out Ku.out).mono (by rw [Em.out];exact fun _ _ h=>h)).mono ?_;rintro e v10 ⟨v,vr,rfl,Zg,hv,qC⟩;obtain ⟨aU7,lHm,aZ5,rfl⟩:=hv.slice;have Hm:=zh hv;clear hv;obtain ⟨aP7,aW5,aQ9,rfl⟩:=qC.slice;have Hmr:=zh qC;clear qC;replace fD:=aB.later (fD) Zg;replace qG:=fD.cell;replace qF:=fD.free;replace BR:=aB.later (BR) Zg;replace dV:=BR.cell;replace dU:=BR.free;replace B1:=aB.later (B1) Zg;replace cB1:=B1.cell;replace wu:=B1.free;replace B0:=aB.later (B0) Zg;replace cB0:=B0.cell;replace lK:=B0.free;go_wp2_with fail
 refine ((iI _ _ q.den h _ aY aY HH.out Kqd.out).mono (by rw [Ec.out];exact fun _ _ h=>h)).mono ?_;rintro e v11 ⟨v,vr,rfl,Zf,hv,qC⟩;obtain ⟨aE9,lHc,aK5,rfl⟩:=hv.slice;have Hc:=zh hv;clear hv;obtain ⟨aP9,aW7,aR1,rfl⟩:=qC.slice;have Hcr:=zh qC;clear qC;replace fD:=aB.later (fD) Zf;replace qG:=fD.cell;replace qF:=fD.free;replace BR:=aB.later (BR) Zf;replace dV:=BR.cell;replace dU:=BR.free;replace B1:=aB.later (B1) Zf;replace cB1:=B1.cell;replace wu:=B1.free;replace B0:=aB.later (B0) Zf;replace cB0:=B0.cell;replace lK:=B0.free;go_wp2_with fail
 refine (gD _ m _ _ aY).mono ?_;rintro e v12 ⟨v,rfl,ay8,hv⟩;obtain ⟨aE7,lHv,aK3,rfl,Hv⟩:=hv;replace Hv:=zh Hv;replace fD:=aB.later (fD) ay8;replace qG:=fD.cell;replace qF:=fD.free;replace BR:=aB.later (BR) ay8;replace dV:=BR.cell;replace dU:=BR.free;go_wp2_with fail
 refine ((kE _ _ r c _ aY aY (ay Kr.out zo) (ay Kc.out zo)).mono (by rw [Ed.out];exact fun _ _ h=>h)).mono ?_;rintro e v13 ⟨v,rfl,aJ7,hv⟩;obtain ⟨aV0,lHd,aZ8,rfl⟩:=hv.slice;have Hd:=zh hv;clear hv;replace BR:=aB.later (BR) aJ7;replace dV:=BR.cell;replace dU:=BR.free;go_wp2_with fail
 refine ig rfl rfl bI Tryz.underlying108 rfl zk ?_;exact ⟨_,rfl,aJ,gX.mk (jh m (decide (u<0))).natAbs d aY aY (by rw [HP.out.1]) HP.out.2.symm (by rw [HP.out.1])⟩
theorem MZ (v:Value) (q:Rat) (w:World) (h:gX w v q) :
  Calls Tryz.prog 281 #[v] w (fun e w'=>∃ v,e= ah v∧Below w.heap.size w w'∧gX w' v (-q)):=by
 obtain ⟨JO,lH,K7,XU,mH,X0,rfl,H,Hd⟩:=h;replace H:=zh H;replace Hd:=zh Hd;go_enter Tryz.func281,Tryz.ntmps281
 go_wp2_with fail
 refine aO [(.pure,0),(.read,1),(.pure,3),(.read,4),(.ext,2),(.pure,5),(.fin,6)] zk zk zR zP ?_;refine zV ?_;refine aU rfl rfl (fun w1 hb1 J hJ=>?_);go_simp;have BR:=aB.later (aB.drew (aB.qM _ _ _ _)) hb1;have dV:=BR.cell;have dU:=BR.free;refine (Ay _ q.num _ (fK.gV aY)).mono ?_;rintro e v1 ⟨v,rfl,hc1,hv⟩;obtain ⟨ag6,lHS,an3,rfl,HS⟩:=hv;replace HS:=zh HS;replace BR:=aB.later (BR) hc1;replace dV:=BR.cell;replace dU:=BR.free;refine hJ _ _ hc1 ?_;clear hJ J;refine zV ?_;refine dD [_] rfl (fun w5 hb5=>?_);replace BR:=aB.later (BR) hb5;replace dV:=BR.cell;replace dU:=BR.free;go_wp2_with fail
 refine ig rfl rfl bI Tryz.underlying108 rfl zk ?_;exact ⟨_,rfl,aJ,gX.mk (-q.num).natAbs q.den aY aY rfl rfl (by simp [Rat.neg_num])⟩
theorem Nh (v:Value) (q:Rat) (w:World) (h:gX w v q) (hq:q≠0) :
  Calls Tryz.prog 202 #[v] w (fun e w'=>∃ v,e= ah v∧Below w.heap.size w w'∧gX w' v q⁻¹):=by
 obtain ⟨JO,lH,K7,XU,mH,X0,rfl,H,Hd⟩:=h;replace H:=zh H;replace Hd:=zh Hd;have HE:=zh (Sd hq);clear hq;go_enter Tryz.func202,Tryz.ntmps202
 go_wp2_with fail
 refine aO [(.pure,0),(.read,1),(.pure,2),(.pure,3),(.read,4),(.pure,6),(.pure,7),(.read,8),(.ext,5),(.pure,9),(.fin,10)] zk zk zR zP ?_;refine zV ?_;refine aU rfl rfl (fun w1 hb1 J hJ=>?_);go_simp;have BR:=aB.later (aB.drew (aB.qM _ _ _ _)) hb1;have dV:=BR.cell;have dU:=BR.free;refine (gD _ q.den _ _ aY).mono ?_;rintro e v1 ⟨v,rfl,hc1,hv⟩;obtain ⟨ag6,lHS,an3,rfl,HS⟩:=hv;replace HS:=zh HS;replace BR:=aB.later (BR) hc1;replace dV:=BR.cell;replace dU:=BR.free;refine hJ _ _ hc1 ?_;clear hJ J;refine zV ?_;refine dD [_] rfl (fun w5 hb5=>?_);replace BR:=aB.later (BR) hb5;replace dV:=BR.cell;replace dU:=BR.free;go_wp2_with fail
 refine ig rfl rfl bI Tryz.underlying108 rfl zk ?_;exact ⟨_,rfl,aJ,gX.mk (jh q.den (decide (q.num<0))).natAbs q.num.natAbs aY aY (by rw [HE.out.1]) HE.out.2.symm (by rw [HE.out.1])⟩
theorem af5 (x y:Value) (p q:Rat) (w:World) (hx:gX w x p) (hy:gX w y q) (kp:jy 1000000 p) (kq:jy 1000000 q) :
  Calls Tryz.prog 240 #[x,y] w (fun e w'=>∃ v,e= ah v∧Below w.heap.size w w'∧gX w' v (p - q)):=by
 obtain ⟨JO,lH,K7,XU,mH,X0,rfl,H,Hd⟩:=hx;replace H:=zh H;replace Hd:=zh Hd;obtain ⟨paG,lG,caG,pbG,mG,cbG,rfl,G,Gd⟩:=hy;replace G:=zh G;replace Gd:=zh Gd;rw [Rat.sub_eq_add_neg];have KP:=zh kp;have KQ:=zh (vP kq);clear kp kq;obtain ⟨r,Er⟩:∃ y:Rat,Hid (-q=y):=⟨_,zh rfl⟩;rw [Er.out] at KQ ⊢;obtain ⟨s,Es⟩:∃ y:Rat,Hid (p+r=y):=⟨_,zh rfl⟩;rw [Es.out];go_enter Tryz.func240,Tryz.ntmps240
 go_wp2_with fail
 refine aO [(.read,0),(.read,1),(.ext,2),(.ext,3),(.fin,4)] zk zk zR zP ?_;refine zV ?_;refine aU rfl rfl (fun w1 hb1 J hJ=>?_);go_simp;have BR:=aB.later (aB.drew (aB.at2 _ _ _ _ _)) hb1;have dV:=BR.cell;have dU:=BR.free;refine ((MZ _ q _ (gX.of aY aY)).mono (by rw [Er.out];exact fun _ _ h=>h)).mono ?_;rintro e v1 ⟨v,rfl,hc1,hv⟩;obtain ⟨Vr,lHr,Xd,ag3,mHr,am7,rfl,Hr,Ou⟩:=hv;replace Hr:=zh Hr;replace Ou:=zh Ou;replace BR:=aB.later (BR) hc1;replace dV:=BR.cell;replace dU:=BR.free;refine hJ _ _ hc1 ?_;clear hJ J;refine aU rfl rfl (fun w2 hb2 J hJ=>?_);go_simp;replace BR:=aB.later (BR) hb2;replace dV:=BR.cell;replace dU:=BR.free;refine ((Xo _ _ p r _ (gX.of aY aY) (gX.of aY aY) KP.out KQ.out).mono (by rw [Es.out];exact fun _ _ h=>h)).mono ?_;rintro e v2 ⟨v,rfl,hc2,hv⟩
 obtain ⟨Fy,XW,FP,aT4,mHs,aY2,rfl,Hs,Hsd⟩:=hv;replace Hs:=zh Hs;replace Hsd:=zh Hsd;replace BR:=aB.later (BR) hc2;replace dV:=BR.cell;replace dU:=BR.free;refine hJ _ _ hc2 ?_;clear hJ J;refine zV ?_;refine dD [_] rfl (fun w14 ak5=>?_);replace BR:=aB.later (BR) ak5;replace dV:=BR.cell;replace dU:=BR.free;go_wp2_with fail
 refine ig rfl rfl bI Tryz.underlying108 rfl zk ?_;exact ⟨_,rfl,aJ,gX.of aY aY⟩
end Go.Proofs.fC
namespace Go.Proofs.fC
open Go Go.RowKit Go.SW Go.Num Go.Mem Go.Proofs Go.Dec Go.gB Go.Fx
theorem TI {s t s' t':ByteArray} {p q r:Rat} (h:rd ⟨s,t⟩=some p) (k:rd ⟨s',t'⟩=some q) (HF:∀ x y W,gX W x p→gX W y q→Calls Tryz.prog 239 #[x,y] W (fun e w'=>∃ v,e= ah v∧Below W.heap.size W w'∧gX w' v r)) (w:World) :
  Calls Tryz.prog 63 #[au #[O s,O t],au #[O s',O t'],.func (.func 239) #[] #[]] w (fun e w'=>∃ v,e= ah (aD #[v,Z I 0])∧Below w.heap.size w w'∧gX w' v r):=by
 have R1:=fun W=>(iB h W).mono fun _ _ q=>uN q;have R2:=fun W=>(iB k W).mono fun _ _ q=>uN q;have F:=fun x y W h k=>(HF x y W h k).mono fun _ _ q=>ab7 q;refine Fx.door Tryz.func63 rfl (.nil w []) ?_;have B0:=Fx.Fa.nil w;refine Fx.new [] 3 #[O s,O t] 32 [] [] fun fT=>?_;refine Fx.new [] 4 #[O (s'),O (t')] 32 [] [] fun fJ=>?_;refine Fx.aV [] 6 108 [] [] fun fF=>?_;refine Fx.je [3] 15 [] [] (fun W M=>R1 _) ?_;rintro W w4 e M ⟨p1,l1,c1,b1,q1,m1,d1,rfl,D4,Q1⟩;refine ⟨D4,fun M4=>?_⟩;have B4:=B0.next M4
 refine Fx.aV [] 8 108 [(16,au #[aj p1 l1 c1,ak b1,aj q1 m1 d1]),(17,ak true)] [] fun rQ=>?_;refine Fx.je [6,4] 20 [(9,ak true)] [(3,#[aj p1 l1 c1,ak b1,aj q1 m1 d1])] (fun W M=>R2 _) ?_;rintro W w6 e M ⟨p2,l2,c2,b2,q2,m2,d2,rfl,D6,Q2⟩;refine ⟨D6,fun M6=>?_⟩;replace Q1:=Q1.keep (M4.keep M6);have B6:=B4.next M6
 refine Fx.aV [] 10 108 [(21,au #[aj p2 l2 c2,ak b2,aj q2 m2 d2]),(22,ak true)] [] fun P8=>?_;refine Fx.je [7,2,6,7] 33 [] [(4,#[aj p2 l2 c2,ak b2,aj q2 m2 d2])] (fun W M=>F _ _ _ (Q1.keep (M6.keep M)) (Q2.keep (M6.keep M))) ?_;rintro W w8 e M ⟨p3,l3,c3,b3,q3,m3,d3,rfl,D8,Q3⟩;refine ⟨D8,fun M8=>?_⟩;have B8:=B6.next M8
 exact Fx.dQ (cs:=#[aj p3 l3 c3,ak b3,aj q3 m3 d3]) (y:=Z I 0) 2 fF [5] [(2,#[aj p3 l3 c3,ak b3,aj q3 m3 d3])] (fun W M=>by have HB:=(B8.at M);exact ⟨_,rfl,HB,(Q3.keep (M8.keep M))⟩)
theorem FZ {s t s' t':ByteArray} (h:rd ⟨s,t⟩=none∨rd ⟨s',t'⟩=none) (w:World) :
  Calls Tryz.prog 63 #[au #[O s,O t],au #[O s',O t'],.func (.func 239) #[] #[]] w (fun e w'=>e= ah (aD #[au #[aj none 0 0,ak false,aj none 0 0],Z I 20])∧Below w.heap.size w w'):=by
 cases h1:rd ⟨s,t⟩ with
 | none =>
  have R1:=fun W=>iL h1 W;cases k:rd ⟨s',t'⟩ with
  | none =>
   have R2:=fun W=>iL k W;refine Fx.door Tryz.func63 rfl (.nil w []) ?_;refine Fx.new [] 3 #[O s,O t] 32 [] [] fun fT=>?_;refine Fx.new [] 4 #[O (s'),O (t')] 32 [] [] fun fJ=>?_;refine Fx.aV [] 6 108 [] [] fun fF=>?_;refine Fx.bJ [3] 15 [] [] R1 ?_;refine Fx.aV [] 8 108 [(16,au #[aj none 0 0,ak false,aj none 0 0]),(17,ak false)] [] fun uF=>?_;refine Fx.bJ [6,4] 20 [(9,ak false)] [(3,#[aj none 0 0,ak false,aj none 0 0])] R2 ?_;refine Fx.aV [] 10 108 [(21,au #[aj none 0 0,ak false,aj none 0 0]),(22,ak false)] [] fun rQ=>?_;refine Fx.aV [7,1] 12 108 [] [(4,#[aj none 0 0,ak false,aj none 0 0])] fun P9=>?_;exact Fx.dQ 2 fF [8,5] [(2,#[aj none 0 0,ak false,aj none 0 0])] (fun W M=>⟨rfl,M.below⟩)
  | some q =>
   have R2:=fun W=>(iB k W).mono fun _ _ q=>uN q;refine Fx.door Tryz.func63 rfl (.nil w []) ?_;have B0:=Fx.Fa.nil w;refine Fx.new [] 3 #[O s,O t] 32 [] [] fun fT=>?_;refine Fx.new [] 4 #[O (s'),O (t')] 32 [] [] fun fJ=>?_;refine Fx.aV [] 6 108 [] [] fun fF=>?_;refine Fx.bJ [3] 15 [] [] R1 ?_;refine Fx.aV [] 8 108 [(16,au #[aj none 0 0,ak false,aj none 0 0]),(17,ak false)] [] fun uF=>?_;refine Fx.je [6,4] 20 [(9,ak false)] [(3,#[aj none 0 0,ak false,aj none 0 0])] (fun W M=>R2 _) ?_;rintro W w5 e M ⟨p2,l2,c2,b2,q2,m2,d2,rfl,D5, -⟩;refine ⟨D5,fun M5=>?_⟩;have B5:=B0.next M5
   refine Fx.aV [] 10 108 [(21,au #[aj p2 l2 c2,ak b2,aj q2 m2 d2]),(22,ak true)] [] fun P9=>?_;refine Fx.aV [7,1] 12 108 [] [(4,#[aj p2 l2 c2,ak b2,aj q2 m2 d2])] fun P8=>?_;exact Fx.dQ 2 fF [8,5] [(2,#[aj none 0 0,ak false,aj none 0 0])] (fun W M=>⟨rfl,(B5.at M)⟩)
 | some p =>
  have R1:=fun W=>(iB h1 W).mono fun _ _ q=>uN q;have k:rd ⟨s',t'⟩=none:=h.resolve_left (by rw [h1];simp);have R2:=fun W=>iL k W;refine Fx.door Tryz.func63 rfl (.nil w []) ?_;have B0:=Fx.Fa.nil w;refine Fx.new [] 3 #[O s,O t] 32 [] [] fun fT=>?_;refine Fx.new [] 4 #[O (s'),O (t')] 32 [] [] fun fJ=>?_;refine Fx.aV [] 6 108 [] [] fun fF=>?_;refine Fx.je [3] 15 [] [] (fun W M=>R1 _) ?_;rintro W w4 e M ⟨p1,l1,c1,b1,q1,m1,d1,rfl,D4, -⟩;refine ⟨D4,fun M4=>?_⟩;have B4:=B0.next M4
  refine Fx.aV [] 8 108 [(16,au #[aj p1 l1 c1,ak b1,aj q1 m1 d1]),(17,ak true)] [] fun rQ=>?_;refine Fx.bJ [6,4] 20 [(9,ak true)] [(3,#[aj p1 l1 c1,ak b1,aj q1 m1 d1])] R2 ?_;refine Fx.aV [] 10 108 [(21,au #[aj none 0 0,ak false,aj none 0 0]),(22,ak false)] [] fun P9=>?_;refine Fx.aV [7,1] 12 108 [] [(4,#[aj none 0 0,ak false,aj none 0 0])] fun P8=>?_;exact Fx.dQ 2 fF [8,5] [(2,#[aj none 0 0,ak false,aj none 0 0])] (fun W M=>⟨rfl,(B4.at M)⟩)
theorem uj (a b:Fr) (w:World) (ht:jN.Pow w):Calls Tryz.prog 168 #[a.v,b.v] w (fun e w'=>e= ah (Fr.res (tY a b))∧Below w.heap.size w w'):=by
 obtain ⟨s,t⟩:=a;obtain ⟨s',t'⟩:=b
 show Calls _ _ #[au #[O s,O t],au #[O s',O t']] _ _
 unfold tY
 by_cases hbad:rd ⟨s,t⟩=none∨rd ⟨s',t'⟩=none
 ·have e:∀ f,bin f ⟨s,t⟩ ⟨s',t'⟩=(Fr.no,20):=fun f=>by
   rcases hbad with h|h
   ·exact pY h
   ·exact qW h
  rw [e];have HA:=fun W=>FZ hbad W;refine Fx.door Tryz.func168 rfl (.nil w []) ?_;refine Fx.new [] 2 #[O s,O t] 32 [] [] fun fT=>?_;refine Fx.new [] 3 #[O (s'),O (t')] 32 [] [] fun fJ=>?_;refine Fx.aV [] 4 32 [] [] fun fF=>?_;refine Fx.bJ [3,4] 8 [] [] HA ?_;refine Fx.call [] 11 [] [] (fun W M=>xB _) ?_;exact Fx.dQ 2 fF [5] [(2,#[O (⟨#[]⟩),O (⟨#[]⟩)])] (fun W M=>⟨rfl,M.below⟩)
 ·obtain ⟨p,hp⟩:∃ p,rd ⟨s,t⟩=some p:=Option.ne_none_iff_exists'.1 (fun e=>hbad (.inl e));obtain ⟨q,hq⟩:∃ q,rd ⟨s',t'⟩=some q:=Option.ne_none_iff_exists'.1 (fun e=>hbad (.inr e));rw [lM hp hq];have KP:=mU (oK hp).2;have KQ:=mU (oK hq).2;have HA:=fun W=>TI (r:=p+q) hp hq (fun x y W h k=>Xo x y p q W h k (KP.mono zo) (KQ.mono zo)) W;have HR:=fun v W h ht=>zL v (p+q) W h (jy.mono (k:=135) (vQ KP KQ) zo) ht;generalize wr (p+q)=x at *;obtain ⟨⟨s1,t1⟩,e⟩:=x;refine Fx.door Tryz.func168 rfl (.nil w []) ?_;have B0:=Fx.Fa.nil w;refine Fx.new [] 2 #[O s,O t] 32 [] [] fun fT=>?_;refine Fx.new [] 3 #[O (s'),O (t')] 32 [] [] fun fJ=>?_;refine Fx.aV [] 4 32 [] [] fun fF=>?_;refine Fx.je [3,4] 8 [] [] (fun W M=>HA _) ?_;rintro W w4 e M ⟨v1,rfl,D4,Q1⟩;refine ⟨D4,fun M4=>?_⟩;have B4:=B0.next M4
  refine Fx.call [] 11 [] [] (fun W M=>HR _ _ (Q1.keep (M4.keep M)) (ht.later (B4.at M))) ?_;exact Fx.dQ 2 fF [5] [(2,#[O s1,O t1])] (fun W M=>⟨rfl,(B4.at M)⟩)
theorem TF {s t s' t':ByteArray} {p q r:Rat} (h:rd ⟨s,t⟩=some p) (k:rd ⟨s',t'⟩=some q) (HF:∀ x y W,gX W x p→gX W y q→Calls Tryz.prog 240 #[x,y] W (fun e w'=>∃ v,e= ah v∧Below W.heap.size W w'∧gX w' v r)) (w:World) :
  Calls Tryz.prog 63 #[au #[O s,O t],au #[O s',O t'],.func (.func 240) #[] #[]] w (fun e w'=>∃ v,e= ah (aD #[v,Z I 0])∧Below w.heap.size w w'∧gX w' v r):=by
 have R1:=fun W=>(iB h W).mono fun _ _ q=>uN q;have R2:=fun W=>(iB k W).mono fun _ _ q=>uN q;have F:=fun x y W h k=>(HF x y W h k).mono fun _ _ q=>ab7 q;refine Fx.door Tryz.func63 rfl (.nil w []) ?_;have B0:=Fx.Fa.nil w;refine Fx.new [] 3 #[O s,O t] 32 [] [] fun fT=>?_;refine Fx.new [] 4 #[O (s'),O (t')] 32 [] [] fun fJ=>?_;refine Fx.aV [] 6 108 [] [] fun fF=>?_;refine Fx.je [3] 15 [] [] (fun W M=>R1 _) ?_;rintro W w4 e M ⟨p1,l1,c1,b1,q1,m1,d1,rfl,D4,Q1⟩;refine ⟨D4,fun M4=>?_⟩;have B4:=B0.next M4
 refine Fx.aV [] 8 108 [(16,au #[aj p1 l1 c1,ak b1,aj q1 m1 d1]),(17,ak true)] [] fun rQ=>?_;refine Fx.je [6,4] 20 [(9,ak true)] [(3,#[aj p1 l1 c1,ak b1,aj q1 m1 d1])] (fun W M=>R2 _) ?_;rintro W w6 e M ⟨p2,l2,c2,b2,q2,m2,d2,rfl,D6,Q2⟩;refine ⟨D6,fun M6=>?_⟩;replace Q1:=Q1.keep (M4.keep M6);have B6:=B4.next M6
 refine Fx.aV [] 10 108 [(21,au #[aj p2 l2 c2,ak b2,aj q2 m2 d2]),(22,ak true)] [] fun P8=>?_;refine Fx.je [7,2,6,7] 33 [] [(4,#[aj p2 l2 c2,ak b2,aj q2 m2 d2])] (fun W M=>F _ _ _ (Q1.keep (M6.keep M)) (Q2.keep (M6.keep M))) ?_;rintro W w8 e M ⟨p3,l3,c3,b3,q3,m3,d3,rfl,D8,Q3⟩;refine ⟨D8,fun M8=>?_⟩;have B8:=B6.next M8
 exact Fx.dQ (cs:=#[aj p3 l3 c3,ak b3,aj q3 m3 d3]) (y:=Z I 0) 2 fF [5] [(2,#[aj p3 l3 c3,ak b3,aj q3 m3 d3])] (fun W M=>by have HB:=(B8.at M);exact ⟨_,rfl,HB,(Q3.keep (M8.keep M))⟩)
theorem FY {s t s' t':ByteArray} (h:rd ⟨s,t⟩=none∨rd ⟨s',t'⟩=none) (w:World) :
  Calls Tryz.prog 63 #[au #[O s,O t],au #[O s',O t'],.func (.func 240) #[] #[]] w (fun e w'=>e= ah (aD #[au #[aj none 0 0,ak false,aj none 0 0],Z I 20])∧Below w.heap.size w w'):=by
 cases h1:rd ⟨s,t⟩ with
 | none =>
  have R1:=fun W=>iL h1 W;cases k:rd ⟨s',t'⟩ with
  | none =>
   have R2:=fun W=>iL k W;refine Fx.door Tryz.func63 rfl (.nil w []) ?_;refine Fx.new [] 3 #[O s,O t] 32 [] [] fun fT=>?_;refine Fx.new [] 4 #[O (s'),O (t')] 32 [] [] fun fJ=>?_;refine Fx.aV [] 6 108 [] [] fun fF=>?_;refine Fx.bJ [3] 15 [] [] R1 ?_;refine Fx.aV [] 8 108 [(16,au #[aj none 0 0,ak false,aj none 0 0]),(17,ak false)] [] fun uF=>?_;refine Fx.bJ [6,4] 20 [(9,ak false)] [(3,#[aj none 0 0,ak false,aj none 0 0])] R2 ?_;refine Fx.aV [] 10 108 [(21,au #[aj none 0 0,ak false,aj none 0 0]),(22,ak false)] [] fun rQ=>?_;refine Fx.aV [7,1] 12 108 [] [(4,#[aj none 0 0,ak false,aj none 0 0])] fun P9=>?_;exact Fx.dQ 2 fF [8,5] [(2,#[aj none 0 0,ak false,aj none 0 0])] (fun W M=>⟨rfl,M.below⟩)
  | some q =>
   have R2:=fun W=>(iB k W).mono fun _ _ q=>uN q;refine Fx.door Tryz.func63 rfl (.nil w []) ?_;have B0:=Fx.Fa.nil w;refine Fx.new [] 3 #[O s,O t] 32 [] [] fun fT=>?_;refine Fx.new [] 4 #[O (s'),O (t')] 32 [] [] fun fJ=>?_;refine Fx.aV [] 6 108 [] [] fun fF=>?_;refine Fx.bJ [3] 15 [] [] R1 ?_;refine Fx.aV [] 8 108 [(16,au #[aj none 0 0,ak false,aj none 0 0]),(17,ak false)] [] fun uF=>?_;refine Fx.je [6,4] 20 [(9,ak false)] [(3,#[aj none 0 0,ak false,aj none 0 0])] (fun W M=>R2 _) ?_;rintro W w5 e M ⟨p2,l2,c2,b2,q2,m2,d2,rfl,D5, -⟩;refine ⟨D5,fun M5=>?_⟩;have B5:=B0.next M5
   refine Fx.aV [] 10 108 [(21,au #[aj p2 l2 c2,ak b2,aj q2 m2 d2]),(22,ak true)] [] fun P9=>?_;refine Fx.aV [7,1] 12 108 [] [(4,#[aj p2 l2 c2,ak b2,aj q2 m2 d2])] fun P8=>?_;exact Fx.dQ 2 fF [8,5] [(2,#[aj none 0 0,ak false,aj none 0 0])] (fun W M=>⟨rfl,(B5.at M)⟩)
 | some p =>
  have R1:=fun W=>(iB h1 W).mono fun _ _ q=>uN q;have k:rd ⟨s',t'⟩=none:=h.resolve_left (by rw [h1];simp);have R2:=fun W=>iL k W;refine Fx.door Tryz.func63 rfl (.nil w []) ?_;have B0:=Fx.Fa.nil w;refine Fx.new [] 3 #[O s,O t] 32 [] [] fun fT=>?_;refine Fx.new [] 4 #[O (s'),O (t')] 32 [] [] fun fJ=>?_;refine Fx.aV [] 6 108 [] [] fun fF=>?_;refine Fx.je [3] 15 [] [] (fun W M=>R1 _) ?_;rintro W w4 e M ⟨p1,l1,c1,b1,q1,m1,d1,rfl,D4, -⟩;refine ⟨D4,fun M4=>?_⟩;have B4:=B0.next M4
  refine Fx.aV [] 8 108 [(16,au #[aj p1 l1 c1,ak b1,aj q1 m1 d1]),(17,ak true)] [] fun rQ=>?_;refine Fx.bJ [6,4] 20 [(9,ak true)] [(3,#[aj p1 l1 c1,ak b1,aj q1 m1 d1])] R2 ?_;refine Fx.aV [] 10 108 [(21,au #[aj none 0 0,ak false,aj none 0 0]),(22,ak false)] [] fun P9=>?_;refine Fx.aV [7,1] 12 108 [] [(4,#[aj none 0 0,ak false,aj none 0 0])] fun P8=>?_;exact Fx.dQ 2 fF [8,5] [(2,#[aj none 0 0,ak false,aj none 0 0])] (fun W M=>⟨rfl,(B4.at M)⟩)
theorem xP (a b:Fr) (w:World) (ht:jN.Pow w):Calls Tryz.prog 171 #[a.v,b.v] w (fun e w'=>e= ah (Fr.res (rT a b))∧Below w.heap.size w w'):=by
 obtain ⟨s,t⟩:=a;obtain ⟨s',t'⟩:=b
 show Calls _ _ #[au #[O s,O t],au #[O s',O t']] _ _
 unfold rT
 by_cases hbad:rd ⟨s,t⟩=none∨rd ⟨s',t'⟩=none
 ·have e:∀ f,bin f ⟨s,t⟩ ⟨s',t'⟩=(Fr.no,20):=fun f=>by
   rcases hbad with h|h
   ·exact pY h
   ·exact qW h
  rw [e];have HA:=fun W=>FY hbad W;refine Fx.door Tryz.func171 rfl (.nil w []) ?_;refine Fx.new [] 2 #[O s,O t] 32 [] [] fun fT=>?_;refine Fx.new [] 3 #[O (s'),O (t')] 32 [] [] fun fJ=>?_;refine Fx.aV [] 4 32 [] [] fun fF=>?_;refine Fx.bJ [3,4] 8 [] [] HA ?_;refine Fx.call [] 11 [] [] (fun W M=>xB _) ?_;exact Fx.dQ 2 fF [5] [(2,#[O (⟨#[]⟩),O (⟨#[]⟩)])] (fun W M=>⟨rfl,M.below⟩)
 ·obtain ⟨p,hp⟩:∃ p,rd ⟨s,t⟩=some p:=Option.ne_none_iff_exists'.1 (fun e=>hbad (.inl e));obtain ⟨q,hq⟩:∃ q,rd ⟨s',t'⟩=some q:=Option.ne_none_iff_exists'.1 (fun e=>hbad (.inr e));rw [lM hp hq];have KP:=mU (oK hp).2;have KQ:=mU (oK hq).2;have HA:=fun W=>TF (r:=p - q) hp hq (fun x y W h k=>af5 x y p q W h k (KP.mono zo) (KQ.mono zo)) W;have HR:=fun v W h ht=>zL v (p - q) W h (jy.mono (k:=135) (Yk KP KQ) zo) ht;generalize wr (p - q)=x at *;obtain ⟨⟨s1,t1⟩,e⟩:=x;refine Fx.door Tryz.func171 rfl (.nil w []) ?_;have B0:=Fx.Fa.nil w;refine Fx.new [] 2 #[O s,O t] 32 [] [] fun fT=>?_;refine Fx.new [] 3 #[O (s'),O (t')] 32 [] [] fun fJ=>?_;refine Fx.aV [] 4 32 [] [] fun fF=>?_;refine Fx.je [3,4] 8 [] [] (fun W M=>HA _) ?_;rintro W w4 e M ⟨v1,rfl,D4,Q1⟩;refine ⟨D4,fun M4=>?_⟩;have B4:=B0.next M4
  refine Fx.call [] 11 [] [] (fun W M=>HR _ _ (Q1.keep (M4.keep M)) (ht.later (B4.at M))) ?_;exact Fx.dQ 2 fF [5] [(2,#[O s1,O t1])] (fun W M=>⟨rfl,(B4.at M)⟩)
end Go.Proofs.fC
