/- Lemmas for the proof. No condition. -/
import Derived.Test.YtneajphgfdlmhaaGreatDoorQB10
import Derived.Test.YtneajphgfdlmhaaGreatDoorQB16
set_option linter.unusedVariables false
set_option linter.unusedSimpArgs false
set_option maxRecDepth 100000
set_option maxHeartbeats 16000000
open Go.Ending renaming returned → aj
open Go.IntKind renaming i64 → I
open Go.Value renaming agg → au, bool → ak, int → Z, slice → ah, string → O, tuple → aG
open List renaming set_cons_succ → aN, set_cons_zero → aM
open Nat renaming le_trans → ay, lt_of_le_of_lt → gN
namespace Go.Proofs.fu
open Go Go.RowKit Go.SW Go.Num Go.Mem Go.Proofs Go.Dec Go.gD
theorem wC (w:World) :
  Calls Tryz.prog 62 #[au #[ah none 0 0,ak false,ah none 0 0],Z I 20] w (fun e w'=>e= aj (aG #[au #[O ⟨#[]⟩,O ⟨#[]⟩],Z I 20])∧Below w.heap.size w w'):=by
 go_enter Tryz.func62,Tryz.ntmps62
 go_wp2_with fail
 refine bH rfl rfl bf Tryz.underlying32 rfl zk ?_;exact ⟨rfl,aF⟩
theorem yS (v:Value) (q:Rat) (w:World) (h:gJ w v q) (k:jw 1000000 q) (ht:jH.Pow w) :
  Calls Tryz.prog 62 #[v,Z I 0] w (fun e w'=>e= aj (Fr.res (wr q))∧Below w.heap.size w w'):=by
 obtain ⟨Jk,lH,J9,VN,mH,VR,rfl,H,Hd⟩:=h;replace H:=zh H;replace Hd:=zh Hd;have HT:=zh ht;have K:=zh k;clear ht k;obtain ⟨x,Ex⟩:∃ y:FrI,Hid (wr q=y):=⟨_,zh rfl⟩;rw [Ex.out];obtain ⟨⟨s,t⟩,e⟩:=x;rw [qy];go_enter Tryz.func62,Tryz.ntmps62
 go_wp2_with fail
 refine ((kT _ q _ (gJ.of aW aW) K.out (HT.out.later aF)).mono (by rw [Ex.out,qy];exact fun _ _ h=>h)).mono ?_;rintro e v1 ⟨rfl,hc1⟩;have BR:=aA.later (aA.pV _ _ _ _) hc1;have dV:=BR.cell;have dU:=BR.free;have jI:=BR.lt;go_wp2_with fail
 refine bH rfl rfl bf Tryz.underlying32 rfl zk ?_;exact ⟨rfl,aF⟩
theorem Q8 (s t s' t':ByteArray) (w:World) (p q:Rat) (h:rd ⟨s,t⟩=some p) (k:rd ⟨s',t'⟩=some q) :
  Calls Tryz.prog 63 #[au #[O s,O t],au #[O s',O t'],.func (.func 64) #[] #[]] w (fun e w'=>∃ v,e= aj (aG #[v,Z I 0])∧Below w.heap.size w w'∧gJ w' v (p*q)):=by
 have HR:=zh (gV h);have HS:=zh (gV k);have KP:=zh ((jJ (nT h).2).mono (show 67≤1000000 by omega));have KQ:=zh ((jJ (nT k).2).mono (show 67≤1000000 by omega));clear h k;obtain ⟨r,Er⟩:∃ y:Rat,Hid (p*q=y):=⟨_,zh rfl⟩;rw [Er.out];go_enter Tryz.func63,Tryz.ntmps63
 go_wp2_with fail
 refine (HR.out _).mono ?_;rintro e v1 ⟨v,rfl,hc1,hv⟩;obtain ⟨LJ,Z8,MQ,Qm,mHp,QX,rfl,Hp,vQ⟩:=hv;replace Hp:=zh Hp;replace vQ:=zh vQ;have BR:=aA.later (aA.at2 _ _ _ _ _) hc1;have dV:=BR.cell;have dU:=BR.free;have jI:=BR.lt;have B1:=aA.later (aA.alloc (aA.pV _ _ _ _) _) hc1;have cB1:=B1.cell;have uZ:=B1.free;have lB1:=B1.lt;go_wp2_with fail
 refine (HS.out _).mono ?_;rintro e v2 ⟨v,rfl,hc2,hv⟩;obtain ⟨Au,RS,AL,DU,VO,ED,rfl,Hq,tC⟩:=hv;replace Hq:=zh Hq;replace tC:=zh tC;replace Hp:=zh (bW.carry Hp.out aW hc2);replace vQ:=zh (bW.carry vQ.out aW hc2);replace X1:aA _ (v1.heap.size) _ _:=aA.later bf hc2;(try simp only [List.setIfInBounds_toArray,aM,aN] at X1);replace kZ:=X1.cell;replace ni:=X1.free;replace kY:=X1.lt;replace BR:aA _ (w.heap.size+1+1) _ _:=aA.later bf hc2;(try simp only [List.setIfInBounds_toArray,aM,aN] at BR);replace dV:=BR.cell;replace dU:=BR.free;replace jI:=BR.lt;go_wp2_with fail
 refine ((TM _ _ p q _ (gJ.of aW aW) (gJ.of aW aW) KP.out KQ.out).mono (by rw [Er.out];exact fun _ _ h=>h)).mono ?_;rintro e v3 ⟨v,rfl,hc3,hv⟩;obtain ⟨Tv,lHr,U7,ZI,mHr,ad8,rfl,Hr,Nu⟩:=hv;replace Hr:=zh Hr;replace Nu:=zh Nu;replace BR:aA _ (w.heap.size+1+1) _ _:=aA.later bf hc3;(try simp only [List.setIfInBounds_toArray,aM,aN] at BR);replace dV:=BR.cell;replace dU:=BR.free;replace jI:=BR.lt;go_wp2_with fail
 refine bH rfl rfl bf Tryz.underlying108 rfl zk ?_;exact ⟨_,rfl,aF,gJ.of aW aW⟩
theorem EI (s t s' t':ByteArray) (w:World) (h:rd ⟨s,t⟩=none∨rd ⟨s',t'⟩=none) :
  Calls Tryz.prog 63 #[au #[O s,O t],au #[O s',O t'],.func (.func 64) #[] #[]] w (fun e w'=>e= aj (aG #[au #[ah none 0 0,ak false,ah none 0 0],Z I 20])∧Below w.heap.size w w'):=by
 cases h1:rd ⟨s,t⟩ with
 | none =>
  have HR:=zh (iA h1);cases k:rd ⟨s',t'⟩ with
  | none =>
   have HS:=zh (iA k);clear h k h1;go_enter Tryz.func63,Tryz.ntmps63
   go_wp2_with fail
   refine (HR.out _).mono ?_;rintro e v1 ⟨rfl,hc1⟩;have BR:=aA.later (aA.at2 _ _ _ _ _) hc1;have dV:=BR.cell;have dU:=BR.free;have jI:=BR.lt;have B1:=aA.later (aA.alloc (aA.pV _ _ _ _) _) hc1;have cB1:=B1.cell;have uZ:=B1.free;have lB1:=B1.lt;go_wp2_with fail
   refine (HS.out _).mono ?_;rintro e v2 ⟨rfl,hc2⟩;replace BR:aA _ (w.heap.size+1+1) _ _:=aA.later bf hc2;replace dV:=BR.cell;replace dU:=BR.free;replace jI:=BR.lt;have q1:w.heap.size+1<v2.heap.size:=by omega
   go_wp2_with fail
   refine bH rfl rfl bf Tryz.underlying108 rfl zk ?_;exact ⟨rfl,aF⟩
  | some q =>
   have HS:=zh (gV k);clear h k h1;go_enter Tryz.func63,Tryz.ntmps63
   go_wp2_with fail
   refine (HR.out _).mono ?_;rintro e v1 ⟨rfl,hc1⟩;have BR:=aA.later (aA.at2 _ _ _ _ _) hc1;have dV:=BR.cell;have dU:=BR.free;have jI:=BR.lt;have B1:=aA.later (aA.alloc (aA.pV _ _ _ _) _) hc1;have cB1:=B1.cell;have uZ:=B1.free;have lB1:=B1.lt;go_wp2_with fail
   refine (HS.out _).mono ?_;rintro e v2 ⟨v,rfl,hc2,hv⟩;obtain ⟨Au,RS,AL,DU,VO,ED,rfl,Hq,tC⟩:=hv;replace Hq:=zh Hq;replace tC:=zh tC;replace BR:aA _ (w.heap.size+1+1) _ _:=aA.later bf hc2;replace dV:=BR.cell;replace dU:=BR.free;replace jI:=BR.lt;have q1:w.heap.size+1<v2.heap.size:=by omega
   go_wp2_with fail
   refine bH rfl rfl bf Tryz.underlying108 rfl zk ?_;exact ⟨rfl,aF⟩
 | some p =>
  have HR:=zh (gV h1);cases k:rd ⟨s',t'⟩ with
  | none =>
   have HS:=zh (iA k);clear h k h1;go_enter Tryz.func63,Tryz.ntmps63
   go_wp2_with fail
   refine (HR.out _).mono ?_;rintro e v1 ⟨v,rfl,hc1,hv⟩;obtain ⟨LJ,Z8,MQ,Qm,mHp,QX,rfl,Hp,vQ⟩:=hv;replace Hp:=zh Hp;replace vQ:=zh vQ;have BR:=aA.later (aA.at2 _ _ _ _ _) hc1;have dV:=BR.cell;have dU:=BR.free;have jI:=BR.lt;have B1:=aA.later (aA.alloc (aA.pV _ _ _ _) _) hc1;have cB1:=B1.cell;have uZ:=B1.free;have lB1:=B1.lt;go_wp2_with fail
   refine (HS.out _).mono ?_;rintro e v2 ⟨rfl,hc2⟩;replace BR:aA _ (w.heap.size+1+1) _ _:=aA.later bf hc2;replace dV:=BR.cell;replace dU:=BR.free;replace jI:=BR.lt;have q1:w.heap.size+1<v2.heap.size:=by omega
   go_wp2_with fail
   refine bH rfl rfl bf Tryz.underlying108 rfl zk ?_;exact ⟨rfl,aF⟩
  | some q=>rw [h1,k] at h;simp at h
theorem Dr (a b:Fr) (w:World) (ht:jH.Pow w) :
  Calls Tryz.prog 18 #[a.v,b.v] w (fun e w'=>e= aj (Fr.res (nH a b))∧Below w.heap.size w w'):=by
 obtain ⟨s,t⟩:=a;obtain ⟨s',t'⟩:=b
 show Calls _ _ #[au #[O s,O t],au #[O s',O t']] _ _
 unfold nH;have HT:=zh ht;clear ht
 by_cases hbad:rd ⟨s,t⟩=none∨rd ⟨s',t'⟩=none
 ·have e:∀ f,bin f ⟨s,t⟩ ⟨s',t'⟩=(Fr.no,20):=fun f=>by
   rcases hbad with h|h
   ·exact ql h
   ·exact qj h
  rw [e];have HA:=zh (fun w=>EI s t s' t' w hbad);clear hbad e;go_enter Tryz.func18,Tryz.ntmps18
  go_wp2_with fail
  refine (HA.out _).mono ?_;rintro e v1 ⟨rfl,hc1⟩;have BR:=aA.later (aA.at2 _ _ _ _ _) hc1;have dV:=BR.cell;have dU:=BR.free;have jI:=BR.lt;go_wp2_with fail
  refine (wC _).mono ?_;rintro e v2 ⟨rfl,hc2⟩;replace BR:=aA.later (BR) hc2;replace dV:=BR.cell;replace dU:=BR.free;replace jI:=BR.lt;go_wp2_with fail
  refine bH rfl rfl bf Tryz.underlying32 rfl zk ?_;exact ⟨rfl,aF⟩
 ·obtain ⟨p,hp⟩:∃ p,rd ⟨s,t⟩=some p:=Option.ne_none_iff_exists'.1 (fun e=>hbad (.inl e));obtain ⟨q,hq⟩:∃ q,rd ⟨s',t'⟩=some q:=Option.ne_none_iff_exists'.1 (fun e=>hbad (.inr e));rw [mZ hp hq];have KP:=zh (jJ (nT hp).2);have KQ:=zh (jJ (nT hq).2);have HA:=zh (fun w=>Q8 s t s' t' w p q hp hq);have KR:Hid (jw 1000000 (p*q)):=zh (jw.mono (k:=135) ((rH KP.out KQ.out).mono zo) zo);clear hp hq hbad KP KQ;obtain ⟨r,Er⟩:∃ y:Rat,Hid (p*q=y):=⟨_,zh rfl⟩;simp only [Er.out] at KR HA ⊢;obtain ⟨x,Ex⟩:∃ y:FrI,Hid (wr r=y):=⟨_,zh rfl⟩;rw [Ex.out];obtain ⟨⟨s1,t1⟩,e⟩:=x;rw [qy];go_enter Tryz.func18,Tryz.ntmps18
  go_wp2_with fail
  refine (HA.out _).mono ?_;rintro e v1 ⟨v,rfl,hc1,hv⟩;obtain ⟨Tv,lHr,U7,ZI,mHr,ad8,rfl,Hr,Nu⟩:=hv;replace Hr:=zh Hr;replace Nu:=zh Nu;have BR:=aA.later (aA.at2 _ _ _ _ _) hc1;have dV:=BR.cell;have dU:=BR.free;have jI:=BR.lt;go_wp2_with fail
  refine ((yS _ r _ (gJ.of aW aW) KR.out (HT.out.later aF)).mono (by rw [Ex.out,qy];exact fun _ _ h=>h)).mono ?_;rintro e v2 ⟨rfl,hc2⟩;replace BR:=aA.later (BR) hc2;replace dV:=BR.cell;replace dU:=BR.free;replace jI:=BR.lt;go_wp2_with fail
  refine bH rfl rfl bf Tryz.underlying32 rfl zk ?_;exact ⟨rfl,aF⟩
theorem Vj (x y:Value) (p q:Rat) (w:World) (hx:gJ w x p) (hy:gJ w y q) (kp:jw 1000000 p) (kq:jw 1000000 q) :
  Calls Tryz.prog 239 #[x,y] w (fun e w'=>∃ v,e= aj v∧Below w.heap.size w w'∧gJ w' v (p+q)):=by
 obtain ⟨Jk,lH,J9,VN,mH,VR,rfl,H,Hd⟩:=hx;replace H:=zh H;replace Hd:=zh Hd;obtain ⟨ZM,lG,caG,pbG,mG,cbG,rfl,G,Gd⟩:=hy;replace G:=zh G;replace Gd:=zh Gd;have HP:=zh (MZ p q);have hp:=p.den_pos;have hq:=q.den_pos;have hg:0<p.den.gcd q.den:=Nat.gcd_pos_of_pos_right _ hq;have k1:= @kE q.den (p.den.gcd q.den);have k2:= @kE p.den (p.den.gcd q.den);have k3:=Gl (a:=p.den) hq;obtain ⟨kp1,kp2⟩:=kp;obtain ⟨kq1,kq2⟩:=kq;obtain ⟨g,Eg⟩:∃ y:Nat,Hid (p.den.gcd q.den=y):=⟨_,zh rfl⟩;rw [Eg.out] at hg HP k1 k2 k3;obtain ⟨l,El⟩:∃ y:Nat,Hid (q.den / g=y):=⟨_,zh rfl⟩;rw [El.out] at HP k1;obtain ⟨r,Er⟩:∃ y:Nat,Hid (p.den / g=y):=⟨_,zh rfl⟩;rw [Er.out] at HP k2;have k4:=oM p.num l;have k5:=oM q.num r;obtain ⟨s,Es⟩:∃ y:Int,Hid (p.num*(l:Int)=y):=⟨_,zh rfl⟩;rw [Es.out] at HP k4;obtain ⟨t,Et⟩:∃ y:Int,Hid (q.num*(r:Int)=y):=⟨_,zh rfl⟩;rw [Et.out] at HP k5
 have k6:=E8 s t;obtain ⟨u,Eu⟩:∃ y:Int,Hid (s+t=y):=⟨_,zh rfl⟩;rw [Eu.out] at HP k6;have hh:0<u.natAbs.gcd g:=Nat.gcd_pos_of_pos_right _ hg;obtain ⟨h,Eh⟩:∃ y:Nat,Hid (u.natAbs.gcd g=y):=⟨_,zh rfl⟩;rw [Eh.out] at HP hh;obtain ⟨m,Em⟩:∃ y:Nat,Hid (u.natAbs / h=y):=⟨_,zh rfl⟩;rw [Em.out] at HP;obtain ⟨c,Ec⟩:∃ y:Nat,Hid (q.den / h=y):=⟨_,zh rfl⟩;rw [Ec.out] at HP;have k7:sz 1000000000 c≤sz 1000000000 q.den:=by rw [← Ec.out];exact kE
 obtain ⟨d,Ed⟩:∃ y:Nat,Hid (r*c=y):=⟨_,zh rfl⟩;rw [Ed.out] at HP;have HG:=zh hg;have HH:=zh hh;have Kpn:Hid (sz 1000000000 p.num.natAbs≤549755813888):=by unfold Hid;omega
 have Kqn:Hid (sz 1000000000 q.num.natAbs≤549755813888):=by unfold Hid;omega
 have Kpd:Hid (sz 1000000000 p.den≤549755813888):=by unfold Hid;omega
 have Kqd:Hid (sz 1000000000 q.den≤549755813888):=by unfold Hid;omega
 have Kg:Hid (sz 1000000000 g≤549755813888):=by unfold Hid;omega
 have Kl:Hid (sz 1000000000 l≤549755813888):=by unfold Hid;omega
 have Kr:Hid (sz 1000000000 r≤549755813888):=by unfold Hid;omega
 have Ks:Hid (sz 1000000000 s.natAbs≤549755813888):=by unfold Hid;omega
 have Kt:Hid (sz 1000000000 t.natAbs≤549755813888):=by unfold Hid;omega
 have Ku:Hid (sz 1000000000 u.natAbs≤549755813888):=by unfold Hid;omega
 have Kc:Hid (sz 1000000000 c≤549755813888):=by unfold Hid;omega
 clear k1 k2 k3 k4 k5 k6 k7 kp1 kp2 kq1 kq2 hg hh hp hq;go_enter Tryz.func239,Tryz.ntmps239
 go_wp2_with fail
 refine ((wJ _ _ p.den q.den _ aW aW Kpd.out Kqd.out).mono (by rw [Eg.out];exact fun _ _ h=>h)).mono ?_;rintro e v1 ⟨v,rfl,hc1,hv⟩;obtain ⟨av9,lHg,aB7,rfl⟩:=hv.slice;have Hg:=zh hv;clear hv;have BR:=aA.later (aA.at2 _ _ _ _ _) hc1;have dV:=BR.cell;have dU:=BR.free;have B1:=aA.later (aA.alloc (aA.pV _ _ _ _) _) hc1;have cB1:=B1.cell;have uZ:=B1.free;have B0:=aA.later (aA.alloc (aA.alloc (aA.new _ _ _) _) _) hc1;have cB0:=B0.cell;have kM:=B0.free;go_wp2_with fail
 refine ((iw _ _ q.den g _ aW aW HG.out Kqd.out).mono (by rw [El.out];exact fun _ _ h=>h)).mono ?_;rintro e v2 ⟨v,vr,rfl,hc2,hv,pF⟩;obtain ⟨aL9,lHl,aQ7,rfl⟩:=hv.slice;have Hl:=zh hv;clear hv;obtain ⟨aG9,aN6,aI1,rfl⟩:=pF.slice;have Hlr:=zh pF;clear pF;replace BR:=aA.later (BR) hc2;replace dV:=BR.cell;replace dU:=BR.free;replace B1:=aA.later (B1) hc2;replace cB1:=B1.cell;replace uZ:=B1.free;replace B0:=aA.later (B0) hc2;replace cB0:=B0.cell;replace kM:=B0.free;go_wp2_with fail
 refine ((iw _ _ p.den g _ aW aW HG.out Kpd.out).mono (by rw [Er.out];exact fun _ _ h=>h)).mono ?_;rintro e v3 ⟨v,vr,rfl,hc3,hv,pF⟩;obtain ⟨Tv,lHr,U7,rfl⟩:=hv.slice;have Hr:=zh hv;clear hv;obtain ⟨aG7,aN4,aH9,rfl⟩:=pF.slice;have Hrr:=zh pF;clear pF;replace BR:=aA.later (BR) hc3;replace dV:=BR.cell;replace dU:=BR.free;replace B1:=aA.later (B1) hc3;replace cB1:=B1.cell;replace uZ:=B1.free;replace B0:=aA.later (B0) hc3;replace cB0:=B0.cell;replace kM:=B0.free;go_wp2_with fail
 refine aJ [(.pure,0),(.read,1),(.pure,2),(.pure,4),(.read,5),(.pure,6),(.ext,3),(.ext,7),(.ext,8),(.alloc #[ah none 0 0,ak false] 106,9),(.fin,10)] zk zk zR zP ?_;refine zV ?_;refine aS rfl rfl (fun w4 hb4 J hJ=>?_);go_simp;replace BR:=aA.later (aA.drew BR) hb4;replace dV:=BR.cell;replace dU:=BR.free;replace B1:=aA.later (aA.drew B1) hb4;replace cB1:=B1.cell;replace uZ:=B1.free;replace B0:=aA.later (aA.drew B0) hb4;replace cB0:=B0.cell;replace kM:=B0.free;refine ((qO _ _ p.num l _ (fD.gG aW) aW Kpn.out Kl.out).mono (by rw [Es.out];exact fun _ _ h=>h)).mono ?_;rintro e v4 ⟨v,rfl,hc4,hv⟩;obtain ⟨DW,VP,EF,rfl,Hs⟩:=hv;replace Hs:=zh Hs;replace BR:=aA.later (BR) hc4;replace dV:=BR.cell;replace dU:=BR.free;replace B1:=aA.later (B1) hc4;replace cB1:=B1.cell;replace uZ:=B1.free
 replace B0:=aA.later (B0) hc4;replace cB0:=B0.cell;replace kM:=B0.free;refine hJ _ _ hc4 ?_;clear hJ J;refine aS rfl rfl (fun w5 hb5 J hJ=>?_);go_simp;replace BR:=aA.later (BR) hb5;replace dV:=BR.cell;replace dU:=BR.free;replace B1:=aA.later (B1) hb5;replace cB1:=B1.cell;replace uZ:=B1.free;replace B0:=aA.later (B0) hb5;replace cB0:=B0.cell;replace kM:=B0.free;refine ((qO _ _ q.num r _ (fD.gG aW) aW Kqn.out Kr.out).mono (by rw [Et.out];exact fun _ _ h=>h)).mono ?_;rintro e v5 ⟨v,rfl,oH,hv⟩;obtain ⟨aL6,lHt,aQ4,rfl,Ht⟩:=hv;replace Ht:=zh Ht;replace BR:=aA.later (BR) oH;replace dV:=BR.cell;replace dU:=BR.free;replace B1:=aA.later (B1) oH;replace cB1:=B1.cell;replace uZ:=B1.free;replace B0:=aA.later (B0) oH;replace cB0:=B0.cell;replace kM:=B0.free;refine hJ _ _ oH ?_;clear hJ J;refine aS rfl rfl (fun w6 hb6 J hJ=>?_);go_simp
 replace BR:=aA.later (BR) hb6;replace dV:=BR.cell;replace dU:=BR.free;replace B1:=aA.later (B1) hb6;replace cB1:=B1.cell;replace uZ:=B1.free;replace B0:=aA.later (B0) hb6;replace cB0:=B0.cell;replace kM:=B0.free;refine ((vV _ _ s t _ (fD.gG aW) (fD.gG aW) Ks.out Kt.out).mono (by rw [Eu.out];exact fun _ _ h=>h)).mono ?_;rintro e v6 ⟨v,rfl,hc6,hv⟩;obtain ⟨aL5,lHu,aQ3,rfl,Hu⟩:=hv;replace Hu:=zh Hu;replace BR:=aA.later (BR) hc6;replace dV:=BR.cell;replace dU:=BR.free;replace B1:=aA.later (B1) hc6;replace cB1:=B1.cell;replace uZ:=B1.free;replace B0:=aA.later (B0) hc6;replace cB0:=B0.cell;replace kM:=B0.free;refine hJ _ _ hc6 ?_;clear hJ J;refine eX rfl (fun b1 w7 hw7 MH Un ac4 fA=>?_);go_simp;replace fA:aA _ _ _ _:=fA;have ac3:w.heap.size≤b1:=(by first|omega|exact ay (Below.size (B:=w.heap.size) aF) MH)
 replace BR:=aA.later (BR) hw7;replace dV:=BR.cell;replace dU:=BR.free;replace B1:=aA.later (B1) hw7;replace cB1:=B1.cell;replace uZ:=B1.free;replace B0:=aA.later (B0) hw7;replace cB0:=B0.cell;replace kM:=B0.free;refine dA [_] rfl (fun w8 Iw=>?_);replace BR:=aA.later (BR) Iw;replace dV:=BR.cell;replace dU:=BR.free;replace B1:=aA.later (B1) Iw;replace cB1:=B1.cell;replace uZ:=B1.free;replace B0:=aA.later (B0) Iw;replace cB0:=B0.cell;replace kM:=B0.free;replace fA:=aA.later (fA) Iw;replace pO:=fA.cell;replace pJ:=fA.free;have n0:=B0.ne fA zd;have n1:=B1.ne fA zd;have n2:=BR.ne fA zd;go_wp2_with fail
 refine ((wJ _ _ u.natAbs g _ aW aW Ku.out Kg.out).mono (by rw [Eh.out];exact fun _ _ h=>h)).mono ?_;rintro e v9 ⟨v,rfl,MB,hv⟩;obtain ⟨aM0,lHh,aQ8,rfl⟩:=hv.slice;have Hh:=zh hv;clear hv;replace Hu:=zh (bW.carry Hu.out aW MB);replace Hg:=zh (bW.carry Hg.out aW MB);replace Hr:=zh (bW.carry Hr.out aW MB);replace G:=zh (bW.carry G.out aW MB);replace Gd:=zh (bW.carry Gd.out aW MB);replace fA:aA _ (b1) _ _:=aA.later bf MB;(try simp only [List.setIfInBounds_toArray,aM,aN] at fA);replace pO:=fA.cell;replace pJ:=fA.free;replace BR:aA _ (w.heap.size+1+1) _ _:=aA.later bf MB;(try simp only [List.setIfInBounds_toArray,aM,aN] at BR);replace dV:=BR.cell;replace dU:=BR.free
 replace B1:aA _ (w.heap.size+1) _ _:=aA.later bf MB;(try simp only [List.setIfInBounds_toArray,aM,aN] at B1);replace cB1:=B1.cell;replace uZ:=B1.free;replace B0:aA _ (w.heap.size) _ _:=aA.later bf MB;(try simp only [List.setIfInBounds_toArray,aM,aN] at B0);replace cB0:=B0.cell;replace kM:=B0.free;go_wp2_with fail
 refine ((iw _ _ u.natAbs h _ aW aW HH.out Ku.out).mono (by rw [Em.out];exact fun _ _ h=>h)).mono ?_;rintro e v10 ⟨v,vr,rfl,Xp,hv,pF⟩;obtain ⟨aL8,lHm,aQ6,rfl⟩:=hv.slice;have Hm:=zh hv;clear hv;obtain ⟨aG8,aN5,aI0,rfl⟩:=pF.slice;have Hmr:=zh pF;clear pF;replace fA:=aA.later (fA) Xp;replace pO:=fA.cell;replace pJ:=fA.free;replace BR:=aA.later (BR) Xp;replace dV:=BR.cell;replace dU:=BR.free;replace B1:=aA.later (B1) Xp;replace cB1:=B1.cell;replace uZ:=B1.free;replace B0:=aA.later (B0) Xp;replace cB0:=B0.cell;replace kM:=B0.free;go_wp2_with fail
 refine ((iw _ _ q.den h _ aW aW HH.out Kqd.out).mono (by rw [Ec.out];exact fun _ _ h=>h)).mono ?_;rintro e v11 ⟨v,vr,rfl,Xo,hv,pF⟩;obtain ⟨aw0,lHc,aB8,rfl⟩:=hv.slice;have Hc:=zh hv;clear hv;obtain ⟨aH0,aN7,aI2,rfl⟩:=pF.slice;have Hcr:=zh pF;clear pF;replace fA:=aA.later (fA) Xo;replace pO:=fA.cell;replace pJ:=fA.free;replace BR:=aA.later (BR) Xo;replace dV:=BR.cell;replace dU:=BR.free;replace B1:=aA.later (B1) Xo;replace cB1:=B1.cell;replace uZ:=B1.free;replace B0:=aA.later (B0) Xo;replace cB0:=B0.cell;replace kM:=B0.free;go_wp2_with fail
 refine (fO _ m _ _ aW).mono ?_;rintro e v12 ⟨v,rfl,ap4,hv⟩;obtain ⟨av8,lHv,aB6,rfl,Hv⟩:=hv;replace Hv:=zh Hv;replace fA:=aA.later (fA) ap4;replace pO:=fA.cell;replace pJ:=fA.free;replace BR:=aA.later (BR) ap4;replace dV:=BR.cell;replace dU:=BR.free;go_wp2_with fail
 refine ((jQ _ _ r c _ aW aW (ay Kr.out zo) (ay Kc.out zo)).mono (by rw [Ed.out];exact fun _ _ h=>h)).mono ?_;rintro e v13 ⟨v,rfl,aB0,hv⟩;obtain ⟨aM1,lHd,aQ9,rfl⟩:=hv.slice;have Hd:=zh hv;clear hv;replace BR:=aA.later (BR) aB0;replace dV:=BR.cell;replace dU:=BR.free;go_wp2_with fail
 refine gF rfl rfl bf Tryz.underlying108 rfl zk ?_;exact ⟨_,rfl,aF,gJ.mk (iV m (decide (u<0))).natAbs d aW aW (by rw [HP.out.1]) HP.out.2.symm (by rw [HP.out.1])⟩
theorem L8 (v:Value) (q:Rat) (w:World) (h:gJ w v q) :
  Calls Tryz.prog 281 #[v] w (fun e w'=>∃ v,e= aj v∧Below w.heap.size w w'∧gJ w' v (-q)):=by
 obtain ⟨Jk,lH,J9,VN,mH,VR,rfl,H,Hd⟩:=h;replace H:=zh H;replace Hd:=zh Hd;go_enter Tryz.func281,Tryz.ntmps281
 go_wp2_with fail
 refine aJ [(.pure,0),(.read,1),(.pure,3),(.read,4),(.ext,2),(.pure,5),(.fin,6)] zk zk zR zP ?_;refine zV ?_;refine aS rfl rfl (fun w1 hb1 J hJ=>?_);go_simp;have BR:=aA.later (aA.drew (aA.pV _ _ _ _)) hb1;have dV:=BR.cell;have dU:=BR.free;refine (zY _ q.num _ (fD.gG aW)).mono ?_;rintro e v1 ⟨v,rfl,hc1,hv⟩;obtain ⟨ZL,lHS,ae4,rfl,HS⟩:=hv;replace HS:=zh HS;replace BR:=aA.later (BR) hc1;replace dV:=BR.cell;replace dU:=BR.free;refine hJ _ _ hc1 ?_;clear hJ J;refine zV ?_;refine dA [_] rfl (fun w5 hb5=>?_);replace BR:=aA.later (BR) hb5;replace dV:=BR.cell;replace dU:=BR.free;go_wp2_with fail
 refine gF rfl rfl bf Tryz.underlying108 rfl zk ?_;exact ⟨_,rfl,aF,gJ.mk (-q.num).natAbs q.den aW aW rfl rfl (by simp [Rat.neg_num])⟩
theorem Mk (v:Value) (q:Rat) (w:World) (h:gJ w v q) (hq:q≠0) :
  Calls Tryz.prog 202 #[v] w (fun e w'=>∃ v,e= aj v∧Below w.heap.size w w'∧gJ w' v q⁻¹):=by
 obtain ⟨Jk,lH,J9,VN,mH,VR,rfl,H,Hd⟩:=h;replace H:=zh H;replace Hd:=zh Hd;have HE:=zh (QH hq);clear hq;go_enter Tryz.func202,Tryz.ntmps202
 go_wp2_with fail
 refine aJ [(.pure,0),(.read,1),(.pure,2),(.pure,3),(.read,4),(.pure,6),(.pure,7),(.read,8),(.ext,5),(.pure,9),(.fin,10)] zk zk zR zP ?_;refine zV ?_;refine aS rfl rfl (fun w1 hb1 J hJ=>?_);go_simp;have BR:=aA.later (aA.drew (aA.pV _ _ _ _)) hb1;have dV:=BR.cell;have dU:=BR.free;refine (fO _ q.den _ _ aW).mono ?_;rintro e v1 ⟨v,rfl,hc1,hv⟩;obtain ⟨ZL,lHS,ae4,rfl,HS⟩:=hv;replace HS:=zh HS;replace BR:=aA.later (BR) hc1;replace dV:=BR.cell;replace dU:=BR.free;refine hJ _ _ hc1 ?_;clear hJ J;refine zV ?_;refine dA [_] rfl (fun w5 hb5=>?_);replace BR:=aA.later (BR) hb5;replace dV:=BR.cell;replace dU:=BR.free;go_wp2_with fail
 refine gF rfl rfl bf Tryz.underlying108 rfl zk ?_;exact ⟨_,rfl,aF,gJ.mk (iV q.den (decide (q.num<0))).natAbs q.num.natAbs aW aW (by rw [HE.out.1]) HE.out.2.symm (by rw [HE.out.1])⟩
theorem Zv (x y:Value) (p q:Rat) (w:World) (hx:gJ w x p) (hy:gJ w y q) (kp:jw 1000000 p) (kq:jw 1000000 q) :
  Calls Tryz.prog 240 #[x,y] w (fun e w'=>∃ v,e= aj v∧Below w.heap.size w w'∧gJ w' v (p - q)):=by
 obtain ⟨Jk,lH,J9,VN,mH,VR,rfl,H,Hd⟩:=hx;replace H:=zh H;replace Hd:=zh Hd;obtain ⟨ZM,lG,caG,pbG,mG,cbG,rfl,G,Gd⟩:=hy;replace G:=zh G;replace Gd:=zh Gd;rw [Rat.sub_eq_add_neg];have KP:=zh kp;have KQ:=zh (uN kq);clear kp kq;obtain ⟨r,Er⟩:∃ y:Rat,Hid (-q=y):=⟨_,zh rfl⟩;rw [Er.out] at KQ ⊢;obtain ⟨s,Es⟩:∃ y:Rat,Hid (p+r=y):=⟨_,zh rfl⟩;rw [Es.out];go_enter Tryz.func240,Tryz.ntmps240
 go_wp2_with fail
 refine aJ [(.read,0),(.read,1),(.ext,2),(.ext,3),(.fin,4)] zk zk zR zP ?_;refine zV ?_;refine aS rfl rfl (fun w1 hb1 J hJ=>?_);go_simp;have BR:=aA.later (aA.drew (aA.at2 _ _ _ _ _)) hb1;have dV:=BR.cell;have dU:=BR.free;refine ((L8 _ q _ (gJ.of aW aW)).mono (by rw [Er.out];exact fun _ _ h=>h)).mono ?_;rintro e v1 ⟨v,rfl,hc1,hv⟩;obtain ⟨Tv,lHr,U7,ZI,mHr,ad8,rfl,Hr,Nu⟩:=hv;replace Hr:=zh Hr;replace Nu:=zh Nu;replace BR:=aA.later (BR) hc1;replace dV:=BR.cell;replace dU:=BR.free;refine hJ _ _ hc1 ?_;clear hJ J;refine aS rfl rfl (fun w2 hb2 J hJ=>?_);go_simp;replace BR:=aA.later (BR) hb2;replace dV:=BR.cell;replace dU:=BR.free;refine ((Vj _ _ p r _ (gJ.of aW aW) (gJ.of aW aW) KP.out KQ.out).mono (by rw [Es.out];exact fun _ _ h=>h)).mono ?_;rintro e v2 ⟨v,rfl,hc2,hv⟩
 obtain ⟨DW,VP,EF,aK5,mHs,aP3,rfl,Hs,Hsd⟩:=hv;replace Hs:=zh Hs;replace Hsd:=zh Hsd;replace BR:=aA.later (BR) hc2;replace dV:=BR.cell;replace dU:=BR.free;refine hJ _ _ hc2 ?_;clear hJ J;refine zV ?_;refine dA [_] rfl (fun w14 ac2=>?_);replace BR:=aA.later (BR) ac2;replace dV:=BR.cell;replace dU:=BR.free;go_wp2_with fail
 refine gF rfl rfl bf Tryz.underlying108 rfl zk ?_;exact ⟨_,rfl,aF,gJ.of aW aW⟩
end Go.Proofs.fu
namespace Go.Proofs.fu
open Go Go.RowKit Go.SW Go.Num Go.Mem Go.Proofs Go.Dec Go.gD Go.Fx
theorem Q9 {s t s' t':ByteArray} {p q r:Rat} (h:rd ⟨s,t⟩=some p) (k:rd ⟨s',t'⟩=some q) (HF:∀ x y W,gJ W x p→gJ W y q→Calls Tryz.prog 239 #[x,y] W (fun e w'=>∃ v,e= aj v∧Below W.heap.size W w'∧gJ w' v r)) (w:World) :
  Calls Tryz.prog 63 #[au #[O s,O t],au #[O s',O t'],.func (.func 239) #[] #[]] w (fun e w'=>∃ v,e= aj (aG #[v,Z I 0])∧Below w.heap.size w w'∧gJ w' v r):=by
 have R1:=fun W=>(gV h W).mono fun _ _ q=>tQ q;have R2:=fun W=>(gV k W).mono fun _ _ q=>tQ q;have F:=fun x y W h k=>(HF x y W h k).mono fun _ _ q=>YH q;refine Fx.door Tryz.func63 rfl (.nil w []) ?_;have B0:=Fx.Dv.nil w;refine Fx.new [] 3 #[O s,O t] 32 [] [] fun gM=>?_;refine Fx.new [] 4 #[O (s'),O (t')] 32 [] [] fun gI=>?_;refine Fx.aY [] 6 108 [] [] fun gH=>?_;refine Fx.iR [3] 15 [] [] (fun W M=>R1 _) ?_;rintro W w4 e M ⟨p1,l1,c1,b1,q1,m1,d1,rfl,D4,Q1⟩;refine ⟨D4,fun M4=>?_⟩;have B4:=B0.next M4
 refine Fx.aY [] 8 108 [(16,au #[ah p1 l1 c1,ak b1,ah q1 m1 d1]),(17,ak true)] [] fun Iy=>?_;refine Fx.iR [6,4] 20 [(9,ak true)] [(3,#[ah p1 l1 c1,ak b1,ah q1 m1 d1])] (fun W M=>R2 _) ?_;rintro W w6 e M ⟨p2,l2,c2,b2,q2,m2,d2,rfl,D6,Q2⟩;refine ⟨D6,fun M6=>?_⟩;replace Q1:=Q1.keep (M4.keep M6);have B6:=B4.next M6
 refine Fx.aY [] 10 108 [(21,au #[ah p2 l2 c2,ak b2,ah q2 m2 d2]),(22,ak true)] [] fun Ke=>?_;refine Fx.iR [7,2,6,7] 33 [] [(4,#[ah p2 l2 c2,ak b2,ah q2 m2 d2])] (fun W M=>F _ _ _ (Q1.keep (M6.keep M)) (Q2.keep (M6.keep M))) ?_;rintro W w8 e M ⟨p3,l3,c3,b3,q3,m3,d3,rfl,D8,Q3⟩;refine ⟨D8,fun M8=>?_⟩;have B8:=B6.next M8
 exact Fx.fU (cs:=#[ah p3 l3 c3,ak b3,ah q3 m3 d3]) (y:=Z I 0) 2 gH [5] [(2,#[ah p3 l3 c3,ak b3,ah q3 m3 d3])] (fun W M=>by have HB:=(B8.at M);exact ⟨_,rfl,HB,(Q3.keep (M8.keep M))⟩)
theorem EM {s t s' t':ByteArray} (h:rd ⟨s,t⟩=none∨rd ⟨s',t'⟩=none) (w:World) :
  Calls Tryz.prog 63 #[au #[O s,O t],au #[O s',O t'],.func (.func 239) #[] #[]] w (fun e w'=>e= aj (aG #[au #[ah none 0 0,ak false,ah none 0 0],Z I 20])∧Below w.heap.size w w'):=by
 cases h1:rd ⟨s,t⟩ with
 | none =>
  have R1:=fun W=>iA h1 W;cases k:rd ⟨s',t'⟩ with
  | none =>
   have R2:=fun W=>iA k W;refine Fx.door Tryz.func63 rfl (.nil w []) ?_;refine Fx.new [] 3 #[O s,O t] 32 [] [] fun gM=>?_;refine Fx.new [] 4 #[O (s'),O (t')] 32 [] [] fun gI=>?_;refine Fx.aY [] 6 108 [] [] fun gH=>?_;refine Fx.dD [3] 15 [] [] R1 ?_;refine Fx.aY [] 8 108 [(16,au #[ah none 0 0,ak false,ah none 0 0]),(17,ak false)] [] fun oP=>?_;refine Fx.dD [6,4] 20 [(9,ak false)] [(3,#[ah none 0 0,ak false,ah none 0 0])] R2 ?_;refine Fx.aY [] 10 108 [(21,au #[ah none 0 0,ak false,ah none 0 0]),(22,ak false)] [] fun Iy=>?_;refine Fx.aY [7,1] 12 108 [] [(4,#[ah none 0 0,ak false,ah none 0 0])] fun VU=>?_;exact Fx.fU 2 gH [8,5] [(2,#[ah none 0 0,ak false,ah none 0 0])] (fun W M=>⟨rfl,M.below⟩)
  | some q =>
   have R2:=fun W=>(gV k W).mono fun _ _ q=>tQ q;refine Fx.door Tryz.func63 rfl (.nil w []) ?_;have B0:=Fx.Dv.nil w;refine Fx.new [] 3 #[O s,O t] 32 [] [] fun gM=>?_;refine Fx.new [] 4 #[O (s'),O (t')] 32 [] [] fun gI=>?_;refine Fx.aY [] 6 108 [] [] fun gH=>?_;refine Fx.dD [3] 15 [] [] R1 ?_;refine Fx.aY [] 8 108 [(16,au #[ah none 0 0,ak false,ah none 0 0]),(17,ak false)] [] fun oP=>?_;refine Fx.iR [6,4] 20 [(9,ak false)] [(3,#[ah none 0 0,ak false,ah none 0 0])] (fun W M=>R2 _) ?_;rintro W w5 e M ⟨p2,l2,c2,b2,q2,m2,d2,rfl,D5, -⟩;refine ⟨D5,fun M5=>?_⟩;have B5:=B0.next M5
   refine Fx.aY [] 10 108 [(21,au #[ah p2 l2 c2,ak b2,ah q2 m2 d2]),(22,ak true)] [] fun VU=>?_;refine Fx.aY [7,1] 12 108 [] [(4,#[ah p2 l2 c2,ak b2,ah q2 m2 d2])] fun Ke=>?_;exact Fx.fU 2 gH [8,5] [(2,#[ah none 0 0,ak false,ah none 0 0])] (fun W M=>⟨rfl,(B5.at M)⟩)
 | some p =>
  have R1:=fun W=>(gV h1 W).mono fun _ _ q=>tQ q;have k:rd ⟨s',t'⟩=none:=h.resolve_left (by rw [h1];simp);have R2:=fun W=>iA k W;refine Fx.door Tryz.func63 rfl (.nil w []) ?_;have B0:=Fx.Dv.nil w;refine Fx.new [] 3 #[O s,O t] 32 [] [] fun gM=>?_;refine Fx.new [] 4 #[O (s'),O (t')] 32 [] [] fun gI=>?_;refine Fx.aY [] 6 108 [] [] fun gH=>?_;refine Fx.iR [3] 15 [] [] (fun W M=>R1 _) ?_;rintro W w4 e M ⟨p1,l1,c1,b1,q1,m1,d1,rfl,D4, -⟩;refine ⟨D4,fun M4=>?_⟩;have B4:=B0.next M4
  refine Fx.aY [] 8 108 [(16,au #[ah p1 l1 c1,ak b1,ah q1 m1 d1]),(17,ak true)] [] fun Iy=>?_;refine Fx.dD [6,4] 20 [(9,ak true)] [(3,#[ah p1 l1 c1,ak b1,ah q1 m1 d1])] R2 ?_;refine Fx.aY [] 10 108 [(21,au #[ah none 0 0,ak false,ah none 0 0]),(22,ak false)] [] fun VU=>?_;refine Fx.aY [7,1] 12 108 [] [(4,#[ah none 0 0,ak false,ah none 0 0])] fun Ke=>?_;exact Fx.fU 2 gH [8,5] [(2,#[ah none 0 0,ak false,ah none 0 0])] (fun W M=>⟨rfl,(B4.at M)⟩)
theorem zJ (a b:Fr) (w:World) (ht:jH.Pow w):Calls Tryz.prog 168 #[a.v,b.v] w (fun e w'=>e= aj (Fr.res (qJ a b))∧Below w.heap.size w w'):=by
 obtain ⟨s,t⟩:=a;obtain ⟨s',t'⟩:=b
 show Calls _ _ #[au #[O s,O t],au #[O s',O t']] _ _
 unfold qJ
 by_cases hbad:rd ⟨s,t⟩=none∨rd ⟨s',t'⟩=none
 ·have e:∀ f,bin f ⟨s,t⟩ ⟨s',t'⟩=(Fr.no,20):=fun f=>by
   rcases hbad with h|h
   ·exact ql h
   ·exact qj h
  rw [e];have HA:=fun W=>EM hbad W;refine Fx.door Tryz.func168 rfl (.nil w []) ?_;refine Fx.new [] 2 #[O s,O t] 32 [] [] fun gM=>?_;refine Fx.new [] 3 #[O (s'),O (t')] 32 [] [] fun gI=>?_;refine Fx.aY [] 4 32 [] [] fun gH=>?_;refine Fx.dD [3,4] 8 [] [] HA ?_;refine Fx.call [] 11 [] [] (fun W M=>wC _) ?_;exact Fx.fU 2 gH [5] [(2,#[O (⟨#[]⟩),O (⟨#[]⟩)])] (fun W M=>⟨rfl,M.below⟩)
 ·obtain ⟨p,hp⟩:∃ p,rd ⟨s,t⟩=some p:=Option.ne_none_iff_exists'.1 (fun e=>hbad (.inl e));obtain ⟨q,hq⟩:∃ q,rd ⟨s',t'⟩=some q:=Option.ne_none_iff_exists'.1 (fun e=>hbad (.inr e));rw [mZ hp hq];have KP:=jJ (nT hp).2;have KQ:=jJ (nT hq).2;have HA:=fun W=>Q9 (r:=p+q) hp hq (fun x y W h k=>Vj x y p q W h k (KP.mono zo) (KQ.mono zo)) W;have HR:=fun v W h ht=>yS v (p+q) W h (jw.mono (k:=135) (AX KP KQ) zo) ht;generalize wr (p+q)=x at *;obtain ⟨⟨s1,t1⟩,e⟩:=x;refine Fx.door Tryz.func168 rfl (.nil w []) ?_;have B0:=Fx.Dv.nil w;refine Fx.new [] 2 #[O s,O t] 32 [] [] fun gM=>?_;refine Fx.new [] 3 #[O (s'),O (t')] 32 [] [] fun gI=>?_;refine Fx.aY [] 4 32 [] [] fun gH=>?_;refine Fx.iR [3,4] 8 [] [] (fun W M=>HA _) ?_;rintro W w4 e M ⟨v1,rfl,D4,Q1⟩;refine ⟨D4,fun M4=>?_⟩;have B4:=B0.next M4
  refine Fx.call [] 11 [] [] (fun W M=>HR _ _ (Q1.keep (M4.keep M)) (ht.later (B4.at M))) ?_;exact Fx.fU 2 gH [5] [(2,#[O s1,O t1])] (fun W M=>⟨rfl,(B4.at M)⟩)
theorem Q7 {s t s' t':ByteArray} {p q r:Rat} (h:rd ⟨s,t⟩=some p) (k:rd ⟨s',t'⟩=some q) (HF:∀ x y W,gJ W x p→gJ W y q→Calls Tryz.prog 240 #[x,y] W (fun e w'=>∃ v,e= aj v∧Below W.heap.size W w'∧gJ w' v r)) (w:World) :
  Calls Tryz.prog 63 #[au #[O s,O t],au #[O s',O t'],.func (.func 240) #[] #[]] w (fun e w'=>∃ v,e= aj (aG #[v,Z I 0])∧Below w.heap.size w w'∧gJ w' v r):=by
 have R1:=fun W=>(gV h W).mono fun _ _ q=>tQ q;have R2:=fun W=>(gV k W).mono fun _ _ q=>tQ q;have F:=fun x y W h k=>(HF x y W h k).mono fun _ _ q=>YH q;refine Fx.door Tryz.func63 rfl (.nil w []) ?_;have B0:=Fx.Dv.nil w;refine Fx.new [] 3 #[O s,O t] 32 [] [] fun gM=>?_;refine Fx.new [] 4 #[O (s'),O (t')] 32 [] [] fun gI=>?_;refine Fx.aY [] 6 108 [] [] fun gH=>?_;refine Fx.iR [3] 15 [] [] (fun W M=>R1 _) ?_;rintro W w4 e M ⟨p1,l1,c1,b1,q1,m1,d1,rfl,D4,Q1⟩;refine ⟨D4,fun M4=>?_⟩;have B4:=B0.next M4
 refine Fx.aY [] 8 108 [(16,au #[ah p1 l1 c1,ak b1,ah q1 m1 d1]),(17,ak true)] [] fun Iy=>?_;refine Fx.iR [6,4] 20 [(9,ak true)] [(3,#[ah p1 l1 c1,ak b1,ah q1 m1 d1])] (fun W M=>R2 _) ?_;rintro W w6 e M ⟨p2,l2,c2,b2,q2,m2,d2,rfl,D6,Q2⟩;refine ⟨D6,fun M6=>?_⟩;replace Q1:=Q1.keep (M4.keep M6);have B6:=B4.next M6
 refine Fx.aY [] 10 108 [(21,au #[ah p2 l2 c2,ak b2,ah q2 m2 d2]),(22,ak true)] [] fun Ke=>?_;refine Fx.iR [7,2,6,7] 33 [] [(4,#[ah p2 l2 c2,ak b2,ah q2 m2 d2])] (fun W M=>F _ _ _ (Q1.keep (M6.keep M)) (Q2.keep (M6.keep M))) ?_;rintro W w8 e M ⟨p3,l3,c3,b3,q3,m3,d3,rfl,D8,Q3⟩;refine ⟨D8,fun M8=>?_⟩;have B8:=B6.next M8
 exact Fx.fU (cs:=#[ah p3 l3 c3,ak b3,ah q3 m3 d3]) (y:=Z I 0) 2 gH [5] [(2,#[ah p3 l3 c3,ak b3,ah q3 m3 d3])] (fun W M=>by have HB:=(B8.at M);exact ⟨_,rfl,HB,(Q3.keep (M8.keep M))⟩)
theorem EJ {s t s' t':ByteArray} (h:rd ⟨s,t⟩=none∨rd ⟨s',t'⟩=none) (w:World) :
  Calls Tryz.prog 63 #[au #[O s,O t],au #[O s',O t'],.func (.func 240) #[] #[]] w (fun e w'=>e= aj (aG #[au #[ah none 0 0,ak false,ah none 0 0],Z I 20])∧Below w.heap.size w w'):=by
 cases h1:rd ⟨s,t⟩ with
 | none =>
  have R1:=fun W=>iA h1 W;cases k:rd ⟨s',t'⟩ with
  | none =>
   have R2:=fun W=>iA k W;refine Fx.door Tryz.func63 rfl (.nil w []) ?_;refine Fx.new [] 3 #[O s,O t] 32 [] [] fun gM=>?_;refine Fx.new [] 4 #[O (s'),O (t')] 32 [] [] fun gI=>?_;refine Fx.aY [] 6 108 [] [] fun gH=>?_;refine Fx.dD [3] 15 [] [] R1 ?_;refine Fx.aY [] 8 108 [(16,au #[ah none 0 0,ak false,ah none 0 0]),(17,ak false)] [] fun oP=>?_;refine Fx.dD [6,4] 20 [(9,ak false)] [(3,#[ah none 0 0,ak false,ah none 0 0])] R2 ?_;refine Fx.aY [] 10 108 [(21,au #[ah none 0 0,ak false,ah none 0 0]),(22,ak false)] [] fun Iy=>?_;refine Fx.aY [7,1] 12 108 [] [(4,#[ah none 0 0,ak false,ah none 0 0])] fun VU=>?_;exact Fx.fU 2 gH [8,5] [(2,#[ah none 0 0,ak false,ah none 0 0])] (fun W M=>⟨rfl,M.below⟩)
  | some q =>
   have R2:=fun W=>(gV k W).mono fun _ _ q=>tQ q;refine Fx.door Tryz.func63 rfl (.nil w []) ?_;have B0:=Fx.Dv.nil w;refine Fx.new [] 3 #[O s,O t] 32 [] [] fun gM=>?_;refine Fx.new [] 4 #[O (s'),O (t')] 32 [] [] fun gI=>?_;refine Fx.aY [] 6 108 [] [] fun gH=>?_;refine Fx.dD [3] 15 [] [] R1 ?_;refine Fx.aY [] 8 108 [(16,au #[ah none 0 0,ak false,ah none 0 0]),(17,ak false)] [] fun oP=>?_;refine Fx.iR [6,4] 20 [(9,ak false)] [(3,#[ah none 0 0,ak false,ah none 0 0])] (fun W M=>R2 _) ?_;rintro W w5 e M ⟨p2,l2,c2,b2,q2,m2,d2,rfl,D5, -⟩;refine ⟨D5,fun M5=>?_⟩;have B5:=B0.next M5
   refine Fx.aY [] 10 108 [(21,au #[ah p2 l2 c2,ak b2,ah q2 m2 d2]),(22,ak true)] [] fun VU=>?_;refine Fx.aY [7,1] 12 108 [] [(4,#[ah p2 l2 c2,ak b2,ah q2 m2 d2])] fun Ke=>?_;exact Fx.fU 2 gH [8,5] [(2,#[ah none 0 0,ak false,ah none 0 0])] (fun W M=>⟨rfl,(B5.at M)⟩)
 | some p =>
  have R1:=fun W=>(gV h1 W).mono fun _ _ q=>tQ q;have k:rd ⟨s',t'⟩=none:=h.resolve_left (by rw [h1];simp);have R2:=fun W=>iA k W;refine Fx.door Tryz.func63 rfl (.nil w []) ?_;have B0:=Fx.Dv.nil w;refine Fx.new [] 3 #[O s,O t] 32 [] [] fun gM=>?_;refine Fx.new [] 4 #[O (s'),O (t')] 32 [] [] fun gI=>?_;refine Fx.aY [] 6 108 [] [] fun gH=>?_;refine Fx.iR [3] 15 [] [] (fun W M=>R1 _) ?_;rintro W w4 e M ⟨p1,l1,c1,b1,q1,m1,d1,rfl,D4, -⟩;refine ⟨D4,fun M4=>?_⟩;have B4:=B0.next M4
  refine Fx.aY [] 8 108 [(16,au #[ah p1 l1 c1,ak b1,ah q1 m1 d1]),(17,ak true)] [] fun Iy=>?_;refine Fx.dD [6,4] 20 [(9,ak true)] [(3,#[ah p1 l1 c1,ak b1,ah q1 m1 d1])] R2 ?_;refine Fx.aY [] 10 108 [(21,au #[ah none 0 0,ak false,ah none 0 0]),(22,ak false)] [] fun VU=>?_;refine Fx.aY [7,1] 12 108 [] [(4,#[ah none 0 0,ak false,ah none 0 0])] fun Ke=>?_;exact Fx.fU 2 gH [8,5] [(2,#[ah none 0 0,ak false,ah none 0 0])] (fun W M=>⟨rfl,(B4.at M)⟩)
theorem Dp (a b:Fr) (w:World) (ht:jH.Pow w):Calls Tryz.prog 171 #[a.v,b.v] w (fun e w'=>e= aj (Fr.res (rJ a b))∧Below w.heap.size w w'):=by
 obtain ⟨s,t⟩:=a;obtain ⟨s',t'⟩:=b
 show Calls _ _ #[au #[O s,O t],au #[O s',O t']] _ _
 unfold rJ
 by_cases hbad:rd ⟨s,t⟩=none∨rd ⟨s',t'⟩=none
 ·have e:∀ f,bin f ⟨s,t⟩ ⟨s',t'⟩=(Fr.no,20):=fun f=>by
   rcases hbad with h|h
   ·exact ql h
   ·exact qj h
  rw [e];have HA:=fun W=>EJ hbad W;refine Fx.door Tryz.func171 rfl (.nil w []) ?_;refine Fx.new [] 2 #[O s,O t] 32 [] [] fun gM=>?_;refine Fx.new [] 3 #[O (s'),O (t')] 32 [] [] fun gI=>?_;refine Fx.aY [] 4 32 [] [] fun gH=>?_;refine Fx.dD [3,4] 8 [] [] HA ?_;refine Fx.call [] 11 [] [] (fun W M=>wC _) ?_;exact Fx.fU 2 gH [5] [(2,#[O (⟨#[]⟩),O (⟨#[]⟩)])] (fun W M=>⟨rfl,M.below⟩)
 ·obtain ⟨p,hp⟩:∃ p,rd ⟨s,t⟩=some p:=Option.ne_none_iff_exists'.1 (fun e=>hbad (.inl e));obtain ⟨q,hq⟩:∃ q,rd ⟨s',t'⟩=some q:=Option.ne_none_iff_exists'.1 (fun e=>hbad (.inr e));rw [mZ hp hq];have KP:=jJ (nT hp).2;have KQ:=jJ (nT hq).2;have HA:=fun W=>Q7 (r:=p - q) hp hq (fun x y W h k=>Zv x y p q W h k (KP.mono zo) (KQ.mono zo)) W;have HR:=fun v W h ht=>yS v (p - q) W h (jw.mono (k:=135) (Wq KP KQ) zo) ht;generalize wr (p - q)=x at *;obtain ⟨⟨s1,t1⟩,e⟩:=x;refine Fx.door Tryz.func171 rfl (.nil w []) ?_;have B0:=Fx.Dv.nil w;refine Fx.new [] 2 #[O s,O t] 32 [] [] fun gM=>?_;refine Fx.new [] 3 #[O (s'),O (t')] 32 [] [] fun gI=>?_;refine Fx.aY [] 4 32 [] [] fun gH=>?_;refine Fx.iR [3,4] 8 [] [] (fun W M=>HA _) ?_;rintro W w4 e M ⟨v1,rfl,D4,Q1⟩;refine ⟨D4,fun M4=>?_⟩;have B4:=B0.next M4
  refine Fx.call [] 11 [] [] (fun W M=>HR _ _ (Q1.keep (M4.keep M)) (ht.later (B4.at M))) ?_;exact Fx.fU 2 gH [5] [(2,#[O s1,O t1])] (fun W M=>⟨rfl,(B4.at M)⟩)
end Go.Proofs.fu
namespace Go.Proofs.fu
open Go Go.RowKit Go.SW Go.Num Go.Mem Go.Proofs Go.Dec Go.gD
theorem XH (s t s' t':ByteArray) (w:World) (h:rd ⟨s,t⟩=none∨rd ⟨s',t'⟩=none) :
  Calls Tryz.prog 128 #[au #[O s,O t],au #[O s',O t']] w (fun e w'=>e= aj (aG #[au #[O ⟨#[]⟩,O ⟨#[]⟩],Z I 20])∧Below w.heap.size w w'):=by
 cases h1:rd ⟨s,t⟩ with
 | none =>
  have HR:=zh (iA h1);cases k:rd ⟨s',t'⟩ with
  | none =>
   have HS:=zh (iA k);clear h k h1;go_enter Tryz.func128,Tryz.ntmps128
   go_wp2_with fail
   refine (HR.out _).mono ?_;rintro e v1 ⟨rfl,hc1⟩;have BR:=aA.later (aA.at2 _ _ _ _ _) hc1;have dV:=BR.cell;have dU:=BR.free;have jI:=BR.lt;have B1:=aA.later (aA.alloc (aA.pV _ _ _ _) _) hc1;have cB1:=B1.cell;have uZ:=B1.free;have lB1:=B1.lt;go_wp2_with fail
   refine (HS.out _).mono ?_;rintro e v2 ⟨rfl,hc2⟩;replace BR:aA _ (w.heap.size+1+1) _ _:=aA.later bf hc2;(try simp only [List.setIfInBounds_toArray,aM,aN] at BR);replace dV:=BR.cell;replace dU:=BR.free;replace jI:=BR.lt;go_wp2_with fail
   refine bH rfl rfl bf Tryz.underlying32 rfl zk ?_;exact ⟨rfl,aF⟩
  | some q =>
   have HS:=zh (gV k);clear h k h1;go_enter Tryz.func128,Tryz.ntmps128
   go_wp2_with fail
   refine (HR.out _).mono ?_;rintro e v1 ⟨rfl,hc1⟩;have BR:=aA.later (aA.at2 _ _ _ _ _) hc1;have dV:=BR.cell;have dU:=BR.free;have jI:=BR.lt;have B1:=aA.later (aA.alloc (aA.pV _ _ _ _) _) hc1;have cB1:=B1.cell;have uZ:=B1.free;have lB1:=B1.lt;go_wp2_with fail
   refine (HS.out _).mono ?_;rintro e v2 ⟨v,rfl,hc2,hv⟩;obtain ⟨Au,RS,AL,DU,VO,ED,rfl,Hq,tC⟩:=hv;replace Hq:=zh Hq;replace tC:=zh tC;replace BR:aA _ (w.heap.size+1+1) _ _:=aA.later bf hc2;(try simp only [List.setIfInBounds_toArray,aM,aN] at BR);replace dV:=BR.cell;replace dU:=BR.free;replace jI:=BR.lt;go_wp2_with fail
   refine bH rfl rfl bf Tryz.underlying32 rfl zk ?_;exact ⟨rfl,aF⟩
 | some p =>
  have HR:=zh (gV h1);cases k:rd ⟨s',t'⟩ with
  | none =>
   have HS:=zh (iA k);clear h k h1;go_enter Tryz.func128,Tryz.ntmps128
   go_wp2_with fail
   refine (HR.out _).mono ?_;rintro e v1 ⟨v,rfl,hc1,hv⟩;obtain ⟨LJ,Z8,MQ,Qm,mHp,QX,rfl,Hp,vQ⟩:=hv;replace Hp:=zh Hp;replace vQ:=zh vQ;have BR:=aA.later (aA.at2 _ _ _ _ _) hc1;have dV:=BR.cell;have dU:=BR.free;have jI:=BR.lt;have B1:=aA.later (aA.alloc (aA.pV _ _ _ _) _) hc1;have cB1:=B1.cell;have uZ:=B1.free;have lB1:=B1.lt;go_wp2_with fail
   refine (HS.out _).mono ?_;rintro e v2 ⟨rfl,hc2⟩;replace BR:aA _ (w.heap.size+1+1) _ _:=aA.later bf hc2;(try simp only [List.setIfInBounds_toArray,aM,aN] at BR);replace dV:=BR.cell;replace dU:=BR.free;replace jI:=BR.lt;go_wp2_with fail
   refine bH rfl rfl bf Tryz.underlying32 rfl zk ?_;exact ⟨rfl,aF⟩
  | some q=>rw [h1,k] at h;simp at h
theorem div_zero (s t s' t':ByteArray) (w:World) (p:Rat) (h:rd ⟨s,t⟩=some p) (k:rd ⟨s',t'⟩=some 0) :
  Calls Tryz.prog 128 #[au #[O s,O t],au #[O s',O t']] w (fun e w'=>e= aj (aG #[au #[O ⟨#[]⟩,O ⟨#[]⟩],Z I 7])∧Below w.heap.size w w'):=by
 have HR:=zh (gV h);have HS:=zh (gV k);clear h k;obtain ⟨n,En⟩:∃ y:Nat,Hid ((0:Rat).num.natAbs=y):=⟨_,zh rfl⟩;have hz:decide (n=0)=true:=by rw [← En.out];rfl
 have HZ:=zh hz;clear hz;go_enter Tryz.func128,Tryz.ntmps128
 go_wp2_with fail
 refine (HR.out _).mono ?_;rintro e v1 ⟨v,rfl,hc1,hv⟩;obtain ⟨LJ,Z8,MQ,Qm,mHp,QX,rfl,Hp,vQ⟩:=hv;replace Hp:=zh Hp;replace vQ:=zh vQ;have BR:=aA.later (aA.at2 _ _ _ _ _) hc1;have dV:=BR.cell;have dU:=BR.free;have jI:=BR.lt;have B1:=aA.later (aA.alloc (aA.pV _ _ _ _) _) hc1;have cB1:=B1.cell;have uZ:=B1.free;have lB1:=B1.lt;go_wp2_with fail
 refine (HS.out _).mono ?_;rintro e v2 ⟨v,rfl,hc2,hv⟩;obtain ⟨Au,RS,AL,DU,VO,ED,rfl,Hq,tC⟩:=hv;replace Hq:=zh Hq;replace tC:=zh tC;replace BR:aA _ (w.heap.size+1+1) _ _:=aA.later bf hc2;(try simp only [List.setIfInBounds_toArray,aM,aN] at BR);replace dV:=BR.cell;replace dU:=BR.free;replace jI:=BR.lt;go_wp2_with fail
 rw [En.out] at Hq;refine (iK _ n _ aW).mono ?_;rintro e v5 ⟨rfl,rfl⟩;rw [HZ.out];go_wp2_with fail
 refine bH rfl rfl bf Tryz.underlying32 rfl zk ?_;exact ⟨rfl,aF⟩
theorem UU (s t s' t':ByteArray) (w:World) (p q:Rat) (h:rd ⟨s,t⟩=some p) (k:rd ⟨s',t'⟩=some q) (h0:q≠0) (ht:jH.Pow w) :
  Calls Tryz.prog 128 #[au #[O s,O t],au #[O s',O t']] w (fun e w'=>e= aj (Fr.res (wr (p / q)))∧Below w.heap.size w w'):=by
 have HR:=zh (gV h);have HS:=zh (gV k);have kp:=jJ (nT h).2;have kq:=jJ (nT k).2;have ki:=Gi kq h0
 have hz:decide (q.num.natAbs=0)=false:=by
  simp [h0]
 have HZ:=zh hz;have HQ0:=zh h0;have HT:=zh ht;rw [Rat.div_def];have km:=rH kp ki;obtain ⟨i,Ei⟩:∃ y:Rat,Hid (q⁻¹=y):=⟨_,zh rfl⟩;rw [Ei.out] at km ki ⊢;obtain ⟨r,Er⟩:∃ y:Rat,Hid (p*i=y):=⟨_,zh rfl⟩;rw [Er.out] at km ⊢;have KP:=zh (kp.mono (show 67≤1000000 by omega));have KI:=zh (ki.mono (show 67≤1000000 by omega));have KR:=zh (km.mono (show 2*67≤1000000 by omega));obtain ⟨x,Ex⟩:∃ y:FrI,Hid (wr r=y):=⟨_,zh rfl⟩;rw [Ex.out];obtain ⟨⟨s1,t1⟩,e⟩:=x;rw [qy];clear h k kp kq ki hz h0 ht km;go_enter Tryz.func128,Tryz.ntmps128
 go_wp2_with fail
 refine (HR.out _).mono ?_;rintro e v1 ⟨v,rfl,hc1,hv⟩;obtain ⟨LJ,Z8,MQ,Qm,mHp,QX,rfl,Hp,vQ⟩:=hv;replace Hp:=zh Hp;replace vQ:=zh vQ;have BR:=aA.later (aA.at2 _ _ _ _ _) hc1;have dV:=BR.cell;have dU:=BR.free;have jI:=BR.lt;have B1:=aA.later (aA.alloc (aA.pV _ _ _ _) _) hc1;have cB1:=B1.cell;have uZ:=B1.free;have lB1:=B1.lt;go_wp2_with fail
 refine (HS.out _).mono ?_;rintro e v2 ⟨v,rfl,hc2,hv⟩;obtain ⟨Au,RS,AL,DU,VO,ED,rfl,Hq,tC⟩:=hv;replace Hq:=zh Hq;replace tC:=zh tC;replace Hp:=zh (bW.carry Hp.out aW hc2);replace vQ:=zh (bW.carry vQ.out aW hc2);replace X1:aA _ (v1.heap.size) _ _:=aA.later bf hc2;(try simp only [List.setIfInBounds_toArray,aM,aN] at X1);replace kZ:=X1.cell;replace ni:=X1.free;replace kY:=X1.lt;replace BR:aA _ (w.heap.size+1+1) _ _:=aA.later bf hc2;(try simp only [List.setIfInBounds_toArray,aM,aN] at BR);replace dV:=BR.cell;replace dU:=BR.free;replace jI:=BR.lt;go_wp2_with fail
 refine (iK _ q.num.natAbs _ aW).mono ?_;rintro e v5 ⟨rfl,rfl⟩;rw [HZ.out];go_wp2_with fail
 refine aJ [(.read,0),(.read,1),(.ext,2),(.ext,3),(.ext,4),(.pure,5),(.pure,6),(.fin,7),(.fin,8)] zk zk zR zP ?_;refine zV ?_;refine aS rfl rfl (fun w3 hb3 J hJ=>?_);go_simp;replace Hp:=zh (bW.carry Hp.out aW hb3);replace vQ:=zh (bW.carry vQ.out aW hb3);replace BR:aA _ (w.heap.size+1+1) _ _:=aA.later bf hb3;(try simp only [List.setIfInBounds_toArray,aM,aN] at BR);replace dV:=BR.cell;replace dU:=BR.free;replace jI:=BR.lt;refine ((Mk _ q _ (gJ.of aW aW) HQ0.out).mono (by rw [Ei.out];exact fun _ _ h=>h)).mono ?_;rintro e v3 ⟨v,rfl,hc3,hv⟩;obtain ⟨av8,lHv,aB6,aK4,mHv,aP2,rfl,Hv,Hvd⟩:=hv;replace Hv:=zh Hv;replace Hvd:=zh Hvd;replace Hp:=zh (bW.later Hp.out hc3);replace vQ:=zh (bW.later vQ.out hc3);replace BR:=aA.later (BR) hc3;replace dV:=BR.cell;replace dU:=BR.free;replace jI:=BR.lt
 refine hJ _ _ hc3 ?_;clear hJ J;refine aS rfl rfl (fun w4 hb4 J hJ=>?_);go_simp;replace Hp:=zh (bW.later Hp.out hb4);replace vQ:=zh (bW.later vQ.out hb4);replace Hv:=zh (bW.later Hv.out hb4);replace Hvd:=zh (bW.later Hvd.out hb4);replace BR:=aA.later (BR) hb4;replace dV:=BR.cell;replace dU:=BR.free;replace jI:=BR.lt;refine ((TM _ _ p i _ (gJ.of aW aW) (gJ.of aW aW) KP.out KI.out).mono (by rw [Er.out];exact fun _ _ h=>h)).mono ?_;rintro e v4 ⟨v,rfl,hc4,hv⟩;obtain ⟨Tv,lHr,U7,ZI,mHr,ad8,rfl,Hr,Nu⟩:=hv;replace Hr:=zh Hr;replace Nu:=zh Nu;replace Hp:=zh (bW.later Hp.out hc4);replace vQ:=zh (bW.later vQ.out hc4);replace Hv:=zh (bW.later Hv.out hc4);replace Hvd:=zh (bW.later Hvd.out hc4);replace BR:=aA.later (BR) hc4;replace dV:=BR.cell;replace dU:=BR.free;replace jI:=BR.lt;refine hJ _ _ hc4 ?_;clear hJ J
 refine aS rfl rfl (fun w5 hb5 J hJ=>?_);go_simp;replace Hr:=zh (bW.later Hr.out hb5);replace Nu:=zh (bW.later Nu.out hb5);replace BR:=aA.later (BR) hb5;replace dV:=BR.cell;replace dU:=BR.free;replace jI:=BR.lt;refine ((kT _ r _ (gJ.of aW aW) KR.out (HT.out.later aF)).mono (by rw [Ex.out,qy];exact fun _ _ h=>h)).mono ?_;rintro e v5 ⟨rfl,oH⟩;replace Hr:=zh (bW.later Hr.out oH);replace Nu:=zh (bW.later Nu.out oH);replace BR:=aA.later (BR) oH;replace dV:=BR.cell;replace dU:=BR.free;replace jI:=BR.lt;refine hJ _ _ oH ?_;clear hJ J;refine zV ?_;refine dA [_,_] rfl (fun w9 sZ=>?_);replace BR:=aA.later (BR) sZ;replace dV:=BR.cell;replace dU:=BR.free;replace jI:=BR.lt;go_wp2_with fail
 refine bH rfl rfl bf Tryz.underlying32 rfl zk ?_;exact ⟨rfl,aF⟩
theorem sI (a b:Fr) (w:World) (ht:jH.Pow w) :
  Calls Tryz.prog 128 #[a.v,b.v] w (fun e w'=>e= aj (Fr.res (nk a b))∧Below w.heap.size w w'):=by
 obtain ⟨s,t⟩:=a;obtain ⟨s',t'⟩:=b
 show Calls _ _ #[au #[O s,O t],au #[O s',O t']] _ _
 unfold nk
 by_cases hbad:rd ⟨s,t⟩=none∨rd ⟨s',t'⟩=none
 ·have e:∀ f,bin f ⟨s,t⟩ ⟨s',t'⟩=(Fr.no,20):=fun f=>by
   rcases hbad with h|h
   ·exact ql h
   ·exact qj h
  rw [e];exact XH s t s' t' w hbad
 ·obtain ⟨p,hp⟩:∃ p,rd ⟨s,t⟩=some p:=Option.ne_none_iff_exists'.1 (fun e=>hbad (.inl e));obtain ⟨q,hq⟩:∃ q,rd ⟨s',t'⟩=some q:=Option.ne_none_iff_exists'.1 (fun e=>hbad (.inr e));rw [mZ hp hq]
  by_cases h0:q=0
  ·rw [if_pos h0];subst h0;exact div_zero s t s' t' w p hp hq
  ·rw [if_neg h0];exact UU s t s' t' w p q hp hq h0 ht
theorem WI (p:Rat) (h:0≤p) (n:Nat):((p^n).num=((p.num.natAbs^n:Nat):Int))∧(p^n).den=p.den^n:=by
 have h0:0≤p.num:=by
  rw [Rat.num_nonneg];exact h
 refine ⟨?_,Rat.den_pow p n⟩;rw [Rat.num_pow,Int.natCast_pow,Int.natAbs_of_nonneg h0]
theorem wU (p:Rat) (n:Nat) (hp:xO p=true) (h0:0≤p) (n40:n≤40) (w:World) (ht:jH.Pow w) :
  Calls Tryz.prog 127 #[(Fr.of p).v,Z I (n:Int)] w (fun e w'=>e= aj (Fr.res (wr (p^n)))∧Below w.heap.size w w'):=by
 obtain ⟨e1,e2⟩:=WI p h0 n
 have hn0:0≤p.num:=by
  rw [Rat.num_nonneg];exact h0
 have hq:=Oq hp;have HC:=zh (fun W=>kX (Fr.of p) W);unfold Ak at HC;rw [hq] at HC;obtain ⟨o1,o2⟩:kI p.num.natAbs=true∧kI p.den=true:=by simpa [xO] using hp
 have H1:=zh (fun W h=>whole.wU p.num.natAbs n o1 n40 W h);have H2:=zh (fun W h=>whole.wU p.den n o2 n40 W h);have HP:=zh ht
 have ev:(Fr.of p).v= au #[dW ((p.num.natAbs:Nat):Int),dW ((p.den:Nat):Int)]:=by
  rw [Int.natAbs_of_nonneg hn0];rfl
 have er:Fr.res (wr (p^n))=if kI (p.num.natAbs^n)=true then if kI (p.den^n)=true then aG #[au #[dW ((p.num.natAbs^n:Nat):Int),dW ((p.den^n:Nat):Int)],Z I 0] else aG #[au #[O ⟨#[]⟩,O ⟨#[]⟩],Z I 6] else aG #[au #[O ⟨#[]⟩,O ⟨#[]⟩],Z I 6]:=by
  have eo:xO (p^n)=(kI (p.num.natAbs^n)&&kI (p.den^n)):=by
   unfold xO;rw [e1,e2,Int.natAbs_natCast]
  by_cases k1:kI (p.num.natAbs^n)=true
  ·rw [if_pos k1]
   by_cases k2:kI (p.den^n)=true
   ·rw [if_pos k2,YB (by rw [eo,k1,k2];rfl),e1,e2]
   ·rw [if_neg k2,F9 (by rw [eo,k1];simpa using k2)]
  ·rw [if_neg k1,F9 (by rw [eo];simp [k1])]
 rw [ev] at HC ⊢;rw [er];unfold whole.AV at H1 H2;simp only [Int.natAbs_natCast] at H1 H2;clear e1 e2 hn0 hq o1 o2 ht ev er hp h0;simp only [Option.isSome_some,if_true] at HC;obtain ⟨oa,Ea⟩:∃ y,kI (p.num.natAbs^n)=y:=⟨_,rfl⟩;obtain ⟨ob,Eb⟩:∃ y,kI (p.den^n)=y:=⟨_,rfl⟩;simp only [Ea] at H1 ⊢;simp only [Eb] at H2 ⊢;clear Ea Eb;generalize p.num.natAbs^n=an at *;generalize p.den^n=bn at *;generalize p.num.natAbs=a at *;generalize p.den=b at *;unfold dW at *;generalize (⟨(Lib.itoa (a:Int)).toArray⟩:ByteArray)=ta at *;generalize (⟨(Lib.itoa (b:Int)).toArray⟩:ByteArray)=tb at *;generalize (⟨(Lib.itoa (an:Int)).toArray⟩:ByteArray)=tan at *;generalize (⟨(Lib.itoa (bn:Int)).toArray⟩:ByteArray)=tbn at *;go_enter Tryz.func127,Tryz.ntmps127
 go_wp2_with fail
 obtain ⟨wx,EW,hz,X,R⟩:=Dz w #[O ta,O tb] 32 #[O ⟨#[]⟩,O ⟨#[]⟩] 32;rw [EW];clear EW;have HB:=zh hz;clear hz;obtain ⟨bx,eb⟩:∃ y,w.heap.size=y:=⟨_,rfl⟩;rw [eb] at X R ⊢;refine (HC.out _).mono ?_;rintro e w1 ⟨rfl,hb1⟩;replace X:=X.bl hb1;replace R:=R.bl hb1;replace HB:=zh (Bt HB.out hb1);clear hb1 HC;obtain ⟨cX,lX⟩:=X.cl;go_wp2_with fail
 refine (H1.out _ (HP.out.later HB.out)).mono ?_;rintro e w2 ⟨rfl,hb2⟩;replace X:=X.bl hb2;replace R:=R.bl hb2;replace HB:=zh (Bt HB.out hb2);clear hb2 H1 cX lX;obtain ⟨cX,lX⟩:=X.cl
 by_cases k1:oa=true
 ·simp only [if_pos k1];go_wp2_with fail
  refine (H2.out _ (HP.out.later HB.out)).mono ?_;rintro e w3 ⟨rfl,hb3⟩;replace R:=R.bl hb3;replace HB:=zh (Bt HB.out hb3);clear hb3 H2 cX lX X;have hx:=R.out;have cx:=hx.cell;have fx:=hx.free;have lx:=hx.lt;have hw:=HB.out;rw [eb] at hw
  by_cases k2:ob=true
  ·simp only [if_pos k2];go_wp2_with fail
   refine bH rfl rfl bf Tryz.underlying32 rfl zk ?_;exact ⟨rfl,aF⟩
  ·simp only [if_neg k2];go_wp2_with fail
   refine bH rfl rfl bf Tryz.underlying32 rfl zk ?_;exact ⟨rfl,aF⟩
 ·simp only [if_neg k1];have hx:=R.out;have cx:=hx.cell;have fx:=hx.free;have lx:=hx.lt;have hw:=HB.out;rw [eb] at hw;go_wp2_with fail
  refine bH rfl rfl bf Tryz.underlying32 rfl zk ?_;exact ⟨rfl,aF⟩
end Go.Proofs.fu
namespace Go.Proofs.power
open Go Go.RowKit Go.SW Go.Num Go.Mem Go.Proofs Go.Dec Go.gD Go.Proofs.whole Go.Proofs.dH
theorem Jl (lo hi:ByteArray) (f:Value) (F:FuncId) (caps free:Array Value) (a b:Int × Int) (w:World) (hf:f= .func (.func F) caps free)
  (h1:∀ W,Below w.heap.size w W→Calls Tryz.prog F (caps++#[O lo,ak false]) W (fun e w'=>e= aj (aG #[Z I a.1,Z I a.2])∧Below W.heap.size W w'))
  (h2:∀ W,Below w.heap.size w W→Calls Tryz.prog F (caps++#[O hi,ak true]) W (fun e w'=>e= aj (aG #[Z I b.1,Z I b.2])∧Below W.heap.size W w')) (hfr:free=#[])
  (hen:∀ args W,(callFunc F args).run Tryz.prog W= .ok (.enter F args) W) :
  Calls Tryz.prog 155 #[O lo,O hi,f] w (fun e w'=>e= aj (Qu a b)∧Below w.heap.size w w'):=by
 subst hf hfr;obtain ⟨a1,a2⟩:=a;obtain ⟨b1,b2⟩:=b;have H1:=zh h1;have H2:=zh h2;have HO:=zh (fun W=>oC a1 b1 W);unfold Qu;simp only;clear h1 h2;go_enter Tryz.func155,Tryz.ntmps155
 go_wp2_with fail
 refine (H1.out _ aF).mono ?_;rintro e w1 ⟨rfl,hb1⟩;have hx:=aA.later (aA.new w #[Z I 0,Z I 0] 40) hb1;have HX:=zh hx;have HB1:=zh (Bt (show Below w.heap.size w (w.alloc (.cells #[Z I 0,Z I 0] 40)) from aF) hb1);clear hx hb1
 by_cases ha:a2=0
 ·subst ha;go_wp2_with fail
  refine (H2.out _ HB1.out).mono ?_;rintro e w2 ⟨rfl,hb2⟩;replace HX:=zh (HX.out.later hb2);have HB2:=zh (Bt HB1.out hb2);clear hb2 HB1
  by_cases hb:b2=0
  ·subst hb;go_wp2_with fail
   refine (HO.out _).mono ?_;rintro e w3 ⟨rfl,hb3⟩;replace HX:=zh (HX.out.later hb3);have HB3:=zh (Bt HB2.out hb3);clear hb3 HB2;have hx:=HX.out;have cx:=hx.cell;have fx:=hx.free;have lx:=hx.lt;have hw:=HB3.out;cases hk:iG a1 b1
   all_goals
    go_wp2_with fail
    refine bH rfl rfl bf Tryz.underlying40 rfl zk ?_;exact ⟨by first|rfl|(rw [if_neg (fun h=>h rfl),if_neg (fun h=>h rfl),hk];rfl),aF⟩
  ·have g:(b2 == 0)=false:=beq_eq_false_iff_ne.2 hb;have hx:=HX.out;have cx:=hx.cell;have fx:=hx.free;have lx:=hx.lt;have hw:=HB2.out;go_wp2_with fail
   refine bH rfl rfl bf Tryz.underlying40 rfl zk ?_;exact ⟨by first|rfl|(rw [if_neg (fun h=>h rfl),if_pos hb];rfl),aF⟩
 ·have g:(a2 == 0)=false:=beq_eq_false_iff_ne.2 ha;have hx:=HX.out;have cx:=hx.cell;have fx:=hx.free;have lx:=hx.lt;have hw:=HB1.out;go_wp2_with fail
  refine bH rfl rfl bf Tryz.underlying40 rfl zk ?_;exact ⟨by first|rfl|(rw [if_pos ha];rfl),aF⟩
theorem yH (s n:Nat) (hs:kI s=true) (hn:n≤10^18) (hk:kI (s+n^2)=true) (w:World) (ht:jH.Pow w) :
  Calls Tryz.prog 154 #[dW (s:Int),Z I (n:Int)] w (fun e w'=>e= aj (aG #[dW ((s+n^2:Nat):Int),Z I 0])∧Below w.heap.size w w'):=by
 have hn0:kI n=true:=xP.2 (gN hn (by decide+kernel));have hn2:kI (n^2)=true:=qB hk zo
 have h63:(n:Int)≤9223372036854775807:=by
  have:(10:Nat)^18=1000000000000000000:=by decide
  omega
 have HO:=zh (fun W h=>zZ (n:Int) zo h63 W h);have Nv:=zh (fun W h=>wU n 2 hn0 zo W h);have HA:=zh (fun W h=>zJ s (n^2) hs hn2 W h);rw [tF hn2] at Nv;rw [tF hk] at HA;have HP:=zh ht;clear ht h63 hn2 hn0 hs hn hk;generalize s+n^2=u at *;generalize n^2=n2 at *;unfold dW at *;generalize (⟨(Lib.itoa (n:Int)).toArray⟩:ByteArray)=tn at *;generalize (⟨(Lib.itoa (n2:Int)).toArray⟩:ByteArray)=tn2 at *;generalize (⟨(Lib.itoa (s:Int)).toArray⟩:ByteArray)=ts at *;generalize (⟨(Lib.itoa (u:Int)).toArray⟩:ByteArray)=tu at *;go_enter Tryz.func154,Tryz.ntmps154
 go_wp2_with fail
 refine (HO.out _ HP.out).mono ?_;rintro e w1 ⟨rfl,hb1⟩;go_wp2_with fail
 refine (Nv.out _ (HP.out.later hb1)).mono ?_;rintro e w2 ⟨rfl,hb2⟩;go_wp2_with fail
 refine (HA.out _ (HP.out.later (Bt hb1 hb2))).mono ?_;rintro e w3 ⟨rfl,hb3⟩;go_wp2_with fail
 go_ret2
 exact ⟨rfl,Bt hb1 (Bt hb2 hb3)⟩
theorem KE (s:Nat) (up:Bool) (hs:kI s=true) (w:World) (ht:jH.Pow w) (he:Er w) :
  Calls Tryz.prog 156 #[dW (s:Int),ak up] w (fun e w'=>e= aj (aG #[Z I (zm (fV 2 s) (up&& !(decide (fV 2 s^2=s)))).1,Z I (zm (fV 2 s) (up&& !(decide (fV 2 s^2=s)))).2])∧Below w.heap.size w w'):=by
 have HR:=zh (fun W h=>xI s 2 hs zo zo W h);have HI:=zh (fun W h=>wH (fV 2 s) (up&& !(decide (fV 2 s^2=s))) (qB hs (pE zo)) W h);have HP:=zh ht;have HE:=zh he;clear ht he hs;generalize decide (fV 2 s^2=s)=ex at *;obtain ⟨v,Ev⟩:∃ v,zm (fV 2 s) (up&& !ex)=v:=⟨_,rfl⟩;rw [Ev] at HI ⊢;clear Ev;obtain ⟨v1,v2⟩:=v;simp only at HI ⊢;generalize fV 2 s=r at *;unfold dW at *;generalize (⟨(Lib.itoa (s:Int)).toArray⟩:ByteArray)=ts at *;generalize (⟨(Lib.itoa (r:Int)).toArray⟩:ByteArray)=tr at *;go_enter Tryz.func156,Tryz.ntmps156
 go_wp2_with fail
 refine (HR.out _ HP.out).mono ?_;rintro e w1 ⟨rfl,hb1⟩;cases up<;>cases ex
 all_goals
  go_wp2_with fail
  refine (HI.out _ (HE.out.later hb1)).mono ?_;rintro e w2 ⟨rfl,hb2⟩;go_wp2_with fail
  go_ret2
  exact ⟨rfl,Bt hb1 hb2⟩
theorem QI {l:List Nat} {up:Bool}:zm (fV 2 (mJ l)) (up&& !(decide (fV 2 (mJ l)^2=mJ l)))=sN l up:=by
 show zm (nlo l) (up&& !(decide (nlo l^2=mJ l)))=sN l up
 by_cases h:nlo l≤10^18
 ·rw [WY h];unfold zm;rw [if_pos h]
 ·unfold sN zm;rw [if_neg h,if_neg h]
end Go.Proofs.power
