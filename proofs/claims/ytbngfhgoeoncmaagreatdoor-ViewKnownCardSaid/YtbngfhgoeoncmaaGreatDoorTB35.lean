/- Lemmas for the proof. No condition. -/
import Derived.Test.YtbngfhgoeoncmaaGreatDoorTB34
set_option linter.unusedVariables false
set_option linter.unusedSimpArgs false
set_option maxRecDepth 100000
set_option maxHeartbeats 16000000
open Bool renaming and_eq_true → aD
open Go.Ending renaming returned → ah
open Go.IntKind renaming i64 → I
open Go.Value renaming agg → aB, int → Z, pointer → au, string → O, tuple → aF
open List renaming all_cons → gK
open Nat renaming le_refl → aG, le_trans → ay, lt_or_ge → aH
namespace Go.Proofs.adapt
open Go Go.RowKit Go.SW Go.Num Go.Mem Go.Proofs Go.Dec Go.d9
def qF (a:Fr):Rat:=(rd a).getD 0
def qT (t:light.gJ) (i:Nat):Rat:=qF (t.get i)
theorem BI {a:Fr} (h:(rd a).isSome=true):a=Fr.of (qF a)∧iG (qF a)=true:=by
 cases hr:rd a with
 | none=>rw [hr] at h;cases h
 | some q =>
  have:=mX hr;unfold qF;rw [hr];exact this
theorem Ow {t:light.gJ} (h:jW t.list=0):t=kJ (qT t)∧j4 (qT t)=true:=by
 unfold jW at h;split at h
 ·rename_i hh;simp only [light.gJ.list,gK,List.all_nil,Bool.and_true,aD] at hh;obtain ⟨h1,h2,h3⟩:=hh;obtain ⟨e1,k1⟩:=BI h1;obtain ⟨e2,k2⟩:=BI h2;obtain ⟨e3,k3⟩:=BI h3;obtain ⟨x,y,z⟩:=t;refine ⟨?_,?_⟩
  ·show (⟨x,y,z⟩:light.gJ)=⟨Fr.of (qF x),Fr.of (qF y),Fr.of (qF z)⟩
   rw [← e1,← e2,← e3]
  ·show (iG (qF x)&&iG (qF y)&&iG (qF z))=true
   rw [k1,k2,k3];rfl
 ·cases h
theorem yM {t:light.gJ} (h:light.qK t=0):jW t.list=0:=by
 have h1:light.Du t=0:=by
  unfold light.qK at h
  by_cases hc:light.Du t=0
  ·exact hc
  ·simp [hc] at h
 unfold light.Du at h1
 by_cases hc:jW t.list=0
 ·exact hc
 ·rw [if_neg hc] at h1;cases h1
theorem Ao (m:Nat) (hm:m<4):(lC m).ok 3:=by
 refine ⟨by show 1≤3;omega,by show 3≤4;omega,by omega,by omega,fun r hr=>?_⟩;obtain ⟨i,hi,rfl⟩:=List.mem_map.1 hr;refine ⟨by simp,fun q hq=>?_⟩;obtain ⟨j,hj,rfl⟩:=List.mem_map.1 hq;exact Gc m hm i (List.mem_range.1 hi) j (List.mem_range.1 hj)
def jU (k:Int) (t:light.gJ):Nat→Rat:=yR (lC (k - 1).toNat) (qT t)
def ql (k:Int) (a b:light.gJ) (d:Fr) (i:Nat):Rat:=uW (qF d) (jU k a i) (jU k b i)
def AA (k:Int) (a b:light.gJ) (d:Fr):Int :=
 if uZ k≠0 then uZ k else if light.qK a≠0 then light.qK a else if light.qK b≠0 then light.qK b else if Cc d≠0 then Cc d
 else if jk (qF d) 0<0∨0<jk (qF d) 1 then 2 else 0
def nP (k:Int) (a b:light.gJ) (d:Fr):Int :=
 if AA k a b d≠0 then AA k a b d
 else if j4 (jU k a)=false then 6 else if j4 (jU k b)=false then 6 else if qH (jU k a) then 7
 else if jI (qF d) (jU k a 0) (jU k b 0)&&jI (qF d) (jU k a 1) (jU k b 1)&&jI (qF d) (jU k a 2) (jU k b 2) then 0 else 6
theorem P6 (k:Int) (a b:light.gJ) (d:Fr) (w:World) (ht:iA.Pow w) (hc:fM w) :
  Calls Tryz.prog 144 #[Z I k,a.v,b.v,d.v] w (dD w (nP k a b d) (fun v _=>v=(kJ (ql k a b d)).v)):=by
 have HCO:=zh (fun w' hb=>Le k w' (ht.later hb) (hc.later hb));have Vb:=zh (fun w'=>light.pK a w');have QW:=zh (fun w'=>light.pK b w');have H8:=zh (fun w'=>dw.gQ d w');have Yh:=zh (fun w' hb=>dw.vD 1 1 zo zo zo zo w' (ht.later hb))
 have h11:Fr.res (oh 1 1)= aF #[(Fr.of 1).v,Z I 0]:=by
  unfold oh;rw [if_neg zd];have e:((1:Int):Rat) / ((1:Int):Rat)=1:=by decide+kernel
  rw [e];unfold d9.wr;rw [if_pos (by decide+kernel)];rfl
 rw [h11] at Yh
 have Lb:Hid (Cc d=0→∀ w',Calls Tryz.prog 75 #[d.v] w' (fun e w''=>e= ah (aF #[Z I (jk (qF d) 0),Z I 0])∧Below w'.heap.size w' w'')):=zh fun h w'=>by
  have hs:(rd d).isSome=true:=by
   unfold Cc at h;split at h
   ·assumption
   ·cases h
  obtain ⟨e1,e2⟩:=BI hs;have:=dw.vB d w'
  have e3:nU d=(jk (qF d) 0,0):=by
   conv=>lhs;rw [e1]
   exact JU e2
  rw [e3] at this;exact this
 have HCM:Hid (Cc d=0→∀ w',Calls Tryz.prog 36 #[d.v,(Fr.of 1).v] w' (fun e w''=>e= ah (aF #[Z I (jk (qF d) 1),Z I 0])∧Below w'.heap.size w' w'')):=zh fun h w'=>by
  have hs:(rd d).isSome=true:=by
   unfold Cc at h;split at h
   ·assumption
   ·cases h
  obtain ⟨e1,e2⟩:=BI hs;have:=dw.DR d (Fr.of 1) w'
  have e3:uE d (Fr.of 1)=(jk (qF d) 1,0):=by
   conv=>lhs;rw [e1]
   unfold uE;rw [mF e2,mF (show iG 1=true by decide+kernel)]
  rw [e3] at this;exact this
 have Vf:Hid (Cc d=0→d=Fr.of (qF d)∧iG (qF d)=true):=zh fun h=>BI (by
   unfold Cc at h;split at h
   ·assumption
   ·cases h)
 have QU:Hid (light.qK a=0→∀ va w',Below w.heap.size w w'→kN w' va (lC (k - 1).toNat).fr→uZ k=0→Calls Tryz.prog 218 #[va,a.v] w' (dD w' (if j4 (jU k a) then 0 else 6) (fun v _=>v=(kJ (jU k a)).v))):=zh fun h va w' hb hv hk=>by
  obtain ⟨e1,e2⟩:=Ow (yM h)
  have hm:(k - 1).toNat<4:=by
   unfold uZ at hk
   by_cases h:k<1∨4<k
   ·rw [if_pos h] at hk;cases hk
   ·omega
  have:=JW va (lC (k - 1).toNat) (qT a) w' hv (Ao _ hm) rfl e2 (ht.later hb);rw [← e1] at this;exact this
 have QT:Hid (light.qK b=0→∀ va w',Below w.heap.size w w'→kN w' va (lC (k - 1).toNat).fr→uZ k=0→Calls Tryz.prog 218 #[va,b.v] w' (dD w' (if j4 (jU k b) then 0 else 6) (fun v _=>v=(kJ (jU k b)).v))):=zh fun h va w' hb hv hk=>by
  obtain ⟨e1,e2⟩:=Ow (yM h)
  have hm:(k - 1).toNat<4:=by
   unfold uZ at hk
   by_cases h:k<1∨4<k
   ·rw [if_pos h] at hk;cases hk
   ·omega
  have:=JW va (lC (k - 1).toNat) (qT b) w' hv (Ao _ hm) rfl e2 (ht.later hb);rw [← e1] at this;exact this
 have HT:=zh ht;obtain ⟨fa,Efa⟩:∃ y,Hid (jU k a=y):=⟨_,zh rfl⟩;obtain ⟨fb,Efb⟩:∃ y,Hid (jU k b=y):=⟨_,zh rfl⟩;obtain ⟨qd,Eqd⟩:∃ y,Hid (qF d=y):=⟨_,zh rfl⟩;obtain ⟨sa,Esa⟩:∃ y,Hid (light.qK a=y):=⟨_,zh rfl⟩;obtain ⟨sb,Esb⟩:∃ y,Hid (light.qK b=y):=⟨_,zh rfl⟩;obtain ⟨ck,Eck⟩:∃ y,Hid (Cc d=y):=⟨_,zh rfl⟩;obtain ⟨ce,Ece⟩:∃ y,Hid (uZ k=y):=⟨_,zh rfl⟩
 have hea:AA k a b d=if ce≠0 then ce else if sa≠0 then sa else if sb≠0 then sb else if ck≠0 then ck else if jk qd 0<0∨0<jk qd 1 then 2 else 0:=by
  unfold AA;rw [Ece.out,Esa.out,Esb.out,Eck.out,Eqd.out]
 have her:nP k a b d=if AA k a b d≠0 then AA k a b d else if j4 fa=false then 6 else if j4 fb=false then 6 else if qH fa then 7 else if jI qd (fa 0) (fb 0)&&jI qd (fa 1) (fb 1)&&jI qd (fa 2) (fb 2) then 0 else 6:=by
  unfold nP;rw [Efa.out,Efb.out,Eqd.out]
 have hg:ql k a b d=fun i=>uW qd (fa i) (fb i):=by
  funext i
  unfold ql;rw [Efa.out,Efb.out,Eqd.out]
 rw [hg];obtain ⟨er,Vh⟩:∃ y,Hid (nP k a b d=y):=⟨_,zh rfl⟩;obtain ⟨ea,Eea⟩:∃ y,Hid (AA k a b d=y):=⟨_,zh rfl⟩;rw [Vh.out] at her ⊢;rw [Eea.out] at her hea;have Ro:=zh hea;have Ld:=zh her;rw [Efa.out] at QU;rw [Efb.out] at QT;rw [Eqd.out] at Lb HCM Vf;rw [Esa.out] at Vb QU;rw [Esb.out] at QW QT;rw [Eck.out] at H8 Lb HCM Vf;rw [Ece.out] at HCO QU QT;have Yj:Hid (ea≠0→er=ea):=zh fun h=>by rw [Ld.out,if_pos h]
 have ap1:=H8;clear hea her hg h11 Efa Efb Eqd Esa Esb Eck Ece Vh Eea ap1;obtain ⟨⟨a1,a2⟩,⟨a3,a4⟩,⟨a5,a6⟩⟩:=a;obtain ⟨⟨b1,b2⟩,⟨b3,b4⟩,⟨b5,b6⟩⟩:=b;obtain ⟨d1,d2⟩:=d;obtain ⟨⟨o1,o2⟩,Eo⟩:∃ x:Fr,Hid (Fr.of 1=x):=⟨_,zh rfl⟩;rw [Eo.out] at Yh HCM;clear ht hc;obtain ⟨w0,oq⟩:∃ y,(((w.alloc (.cells #[O a1,O a2,O a3,O a4,O a5,O a6] 40)).alloc (.cells #[O b1,O b2,O b3,O b4,O b5,O b6] 40)).alloc (.cells #[O d1,O d2] 38)).alloc (.cells #[O ⟨#[]⟩,O ⟨#[]⟩,O ⟨#[]⟩,O ⟨#[]⟩,O ⟨#[]⟩,O ⟨#[]⟩] 39)=y:=⟨_,rfl⟩;have hb0:Below w.heap.size w w0:=by rw [← oq];exact aO
 have hxa:aA w0 w.heap.size #[O a1,O a2,O a3,O a4,O a5,O a6] 40:=by rw [← oq];exact aY
 have hxb:aA w0 (w.heap.size+1) #[O b1,O b2,O b3,O b4,O b5,O b6] 40:=by rw [← oq];exact aY
 have hxd:aA w0 (w.heap.size+1+1) #[O d1,O d2] 38:=by rw [← oq];exact aY
 have DY:aA w0 (w.heap.size+1+1+1) #[O ⟨#[]⟩,O ⟨#[]⟩,O ⟨#[]⟩,O ⟨#[]⟩,O ⟨#[]⟩,O ⟨#[]⟩] 39:=by rw [← oq];exact aA.at3 _ _ _ _ _ _
 go_enter Tryz.func144,Tryz.ntmps144
 unfold light.gJ.v light.gJ.cells Fr.v;go_wp2_with fail
 clear oq;refine (HCO.out _ hb0).mono ?_;rintro e w1 ⟨hb1,vc,rfl,hy1,hy2⟩;have h1:Below w.heap.size w w1:=Bt hb0 hb1
 by_cases hce:ce=0
 rotate_left
 ·have hv:=hy2 hce;subst hv
  have HE:Hid (er=ce):=zh (by
   have:ea=ce:=by rw [Ro.out,if_pos hce]
   rw [Yj.out (by rw [this];exact hce),this])
  clear hy1 hy2;go_wp2_with fail
  refine (Mf _ _ _ ce hce _).mono ?_;rintro e w2 ⟨rfl,rfl⟩;exact ⟨rfl,by rw [HE.out];exact dD.no h1 hce⟩
 have hmv:=hy1 hce;clear hy1 hy2;obtain ⟨rs,hR, -⟩:=id hmv;obtain ⟨ac,cc,rfl, -⟩:=hR;have DK:=zh hmv;have HCE:=zh hce;subst hce;clear hmv;go_wp2_with fail
 refine (OW _ _ _ _).mono ?_;rintro e w2 ⟨rfl,rfl⟩;replace hxa:=hxa.later hb1;replace hxb:=hxb.later hb1;replace hxd:=hxd.later hb1;replace DY:=DY.later hb1;have cxa:=hxa.cell;go_wp2_with fail
 refine (Vb.out _).mono ?_;rintro e w3 ⟨rfl,hb3⟩;have h3:Below w.heap.size w w3:=Bt h1 hb3
 by_cases hsa:sa=0
 rotate_left
 ·have HE:Hid (er=sa):=zh (by
   have:ea=sa:=by rw [Ro.out,if_neg zi,if_pos hsa]
   rw [Yj.out (by rw [this];exact hsa),this])
  go_wp2_with fail
  refine (gP sa hsa _).mono ?_;rintro e w4 ⟨rfl,rfl⟩;exact ⟨rfl,by rw [HE.out];exact dD.no h3 hsa⟩
 subst hsa;replace hxa:=hxa.later hb3;replace hxb:=hxb.later hb3;replace hxd:=hxd.later hb3;replace DY:=DY.later hb3;replace DK:=zh (DK.out.later hb3);have cxb:=hxb.cell;clear cxa;go_wp2_with fail
 refine (jf _).mono ?_;rintro e w4 ⟨rfl,rfl⟩;go_wp2_with fail
 refine (QW.out _).mono ?_;rintro e w5 ⟨rfl,hb5⟩;have h5:Below w.heap.size w w5:=Bt h3 hb5
 by_cases hsb:sb=0
 rotate_left
 ·have HE:Hid (er=sb):=zh (by
   have:ea=sb:=by rw [Ro.out,if_neg zi,if_neg zi,if_pos hsb]
   rw [Yj.out (by rw [this];exact hsb),this])
  go_wp2_with fail
  refine (gP sb hsb _).mono ?_;rintro e w6 ⟨rfl,rfl⟩;exact ⟨rfl,by rw [HE.out];exact dD.no h5 hsb⟩
 subst hsb;replace hxa:=hxa.later hb5;replace hxb:=hxb.later hb5;replace hxd:=hxd.later hb5;replace DY:=DY.later hb5;replace DK:=zh (DK.out.later hb5);have cxd:=hxd.cell;clear cxb;go_wp2_with fail
 refine (jf _).mono ?_;rintro e w6 ⟨rfl,rfl⟩;go_wp2_with fail
 refine (H8.out _).mono ?_;rintro e w7 ⟨rfl,mJ⟩;have h7:Below w.heap.size w w7:=Bt h5 mJ
 by_cases hck:ck=0
 rotate_left
 ·have HE:Hid (er=ck):=zh (by
   have:ea=ck:=by rw [Ro.out,if_neg zi,if_neg zi,if_neg zi,if_pos hck]
   rw [Yj.out (by rw [this];exact hck),this])
  go_wp2_with fail
  refine (gP ck hck _).mono ?_;rintro e w8 ⟨rfl,rfl⟩;exact ⟨rfl,by rw [HE.out];exact dD.no h7 hck⟩
 subst hck;replace hxa:=hxa.later mJ;replace hxb:=hxb.later mJ;replace hxd:=hxd.later mJ;replace DY:=DY.later mJ;replace DK:=zh (DK.out.later mJ);clear cxd;go_wp2_with fail
 refine (jf _).mono ?_;rintro e w8 ⟨rfl,rfl⟩;go_wp2_with fail
 refine (Yh.out _ h7).mono ?_;rintro e w9 ⟨rfl,xZ⟩;unfold Fr.v;go_wp2_with fail
 refine (oW ⟨o1,o2⟩ _).mono ?_;unfold Fr.v;rintro e wa ⟨rfl,hba⟩;have Xb:Below w8.heap.size w8 wa:=Bt xZ hba;have ha:Below w.heap.size w wa:=Bt h7 Xb;replace hxa:=hxa.later Xb;replace hxb:=hxb.later Xb;replace hxd:=hxd.later Xb;replace DY:=DY.later Xb;replace DK:=zh (DK.out.later Xb);clear hb0 hb1 hb3 hb5 mJ xZ hba h1 h3 h5 h7 Xb HCO Vb QW H8 Yh;have cxd:=hxd.cell;have lxd:=hxd.lt;have hsg:=Lb.out (by first|rfl|trivial);have hcm:=HCM.out (by first|rfl|trivial);obtain ⟨z1,Ez1⟩:∃ y,Hid (jk qd 0=y):=⟨_,zh rfl⟩;obtain ⟨z2,Ez2⟩:∃ y,Hid (jk qd 1=y):=⟨_,zh rfl⟩;rw [Ez1.out] at hsg Ro;rw [Ez2.out] at hcm Ro;have Yg:=zh hsg;have Ym:=zh hcm;unfold Fr.v at Yg Ym;have hb':Below wa.heap.size wa (wa.alloc (.cells #[O o1,O o2] 38)):=aO;obtain ⟨wb,Ewb⟩:∃ y,wa.alloc (.cells #[O o1,O o2] 38)=y:=⟨_,rfl⟩
 have hxo:=aA.new wa #[O o1,O o2] 38;rw [Ewb] at hb' hxo;clear hsg hcm Lb HCM;replace hxa:=hxa.later hb';replace hxb:=hxb.later hb';replace hxd:=hxd.later hb';replace DY:=DY.later hb';replace DK:=zh (DK.out.later hb');have hbw:Below w.heap.size w wb:=Bt ha hb';obtain ⟨bo,Ebo⟩:∃ y,wa.heap.size=y:=⟨_,rfl⟩;rw [Ebo] at hxo;clear hb' ha;replace cxd:=hxd.cell;go_wp2_with fail
 clear Ewb Ebo;refine (Yg.out _).mono ?_;rintro e w3 ⟨rfl,hb3⟩;have h3:Below w.heap.size w w3:=Bt hbw hb3;replace hxa:=hxa.later hb3;replace hxb:=hxb.later hb3;replace hxd:=hxd.later hb3;replace DY:=DY.later hb3;replace hxo:=hxo.later hb3;replace DK:=zh (DK.out.later hb3);replace cxd:=hxd.cell;have cxo:=hxo.cell;clear hb3 hbw;go_wp2_with fail
 refine (mI _ _).mono ?_;rintro e w4 ⟨rfl,rfl⟩
 by_cases hz1:z1<0
 ·have HE:Hid (er=2):=zh (by
   have:ea=2:=by rw [Ro.out,if_neg zi,if_neg zi,if_neg zi,if_neg zi,if_pos (.inl hz1)]
   rw [Yj.out (by rw [this];decide),this])
  have b1:decide (z1<0)=true:=decide_eq_true hz1;clear hz1;go_wp2_with fail
  refine (gP 2 zd _).mono ?_;rintro e w6 ⟨rfl,rfl⟩;exact ⟨rfl,by rw [HE.out];exact dD.no h3 zd⟩
 have b1:decide (z1<0)=false:=decide_eq_false hz1;go_wp2_with fail
 refine (Ym.out _).mono ?_;rintro e w5 ⟨rfl,hb5⟩;have h5:Below w.heap.size w w5:=Bt h3 hb5;replace hxa:=hxa.later hb5;replace hxb:=hxb.later hb5;replace hxd:=hxd.later hb5;replace DY:=DY.later hb5;replace hxo:=hxo.later hb5;replace DK:=zh (DK.out.later hb5);clear hb5 h3 cxd cxo;go_wp2_with fail
 refine (mI _ _).mono ?_;rintro e w6 ⟨rfl,rfl⟩
 by_cases hz2:0<z2
 ·have HE:Hid (er=2):=zh (by
   have:ea=2:=by rw [Ro.out,if_neg zi,if_neg zi,if_neg zi,if_neg zi,if_pos (.inr hz2)]
   rw [Yj.out (by rw [this];decide),this])
  have b2:decide (0<z2)=true:=decide_eq_true hz2;clear hz1 hz2;go_wp2_with fail
  refine (gP 2 zd _).mono ?_;rintro e w7 ⟨rfl,rfl⟩;exact ⟨rfl,by rw [HE.out];exact dD.no h5 zd⟩
 have b2:decide (0<z2)=false:=decide_eq_false hz2
 have Q5:Hid (er=if j4 fa=false then 6 else if j4 fb=false then 6 else if qH fa then 7 else if jI qd (fa 0) (fb 0)&&jI qd (fa 1) (fb 1)&&jI qd (fa 2) (fb 2) then 0 else 6):=zh (by
  have:ea=0:=by rw [Ro.out,if_neg zi,if_neg zi,if_neg zi,if_neg zi,if_neg zo]
  rw [Ld.out,if_neg (by rw [this];simp)])
 clear hz1 hz2 Ro Ld Yj Yg Ym Ez1 Ez2;have hsa:=fun va w' hb hv=>QU.out (by first|rfl|trivial) va w' hb hv (by first|rfl|trivial);have hsb:=fun va w' hb hv=>QT.out (by first|rfl|trivial) va w' hb hv (by first|rfl|trivial);have Vb:=zh hsa;have QW:=zh hsb;obtain ⟨I8,hdo⟩:=Vf.out (by first|rfl|trivial);have HDQ:=zh I8;have HDO:=zh hdo;clear hsa hsb QU QT Vf I8 hdo;have cxa:=hxa.cell;have cxb:=hxb.cell;have lxa:=hxa.lt;have lxb:=hxb.lt;unfold light.gJ.v light.gJ.cells at Vb QW;go_wp2_with fail
 obtain ⟨⟨⟨f1,f2⟩,⟨f3,f4⟩,⟨f5,f6⟩⟩,Ef⟩:∃ y:light.gJ,Hid (kJ fa=y):=⟨_,zh rfl⟩;obtain ⟨⟨⟨g1,g2⟩,⟨g3,g4⟩,⟨g5,g6⟩⟩,Eg⟩:∃ y:light.gJ,Hid (kJ fb=y):=⟨_,zh rfl⟩;rw [Ef.out] at Vb;rw [Eg.out] at QW;refine aQ [(.pure,0),(.read,1),(.pure,3),(.read,4),(.ext,2),(.ext,5),(.alloc #[O ⟨#[]⟩,O ⟨#[]⟩,O ⟨#[]⟩,O ⟨#[]⟩,O ⟨#[]⟩,O ⟨#[]⟩] 281,6),(.alloc #[O ⟨#[]⟩,O ⟨#[]⟩,O ⟨#[]⟩,O ⟨#[]⟩,O ⟨#[]⟩,O ⟨#[]⟩] 281,7),(.fin,8),(.fin,9)] zk zk zR zP ?_;refine zV ?_;refine aN rfl rfl (fun w1 hb1 J hJ=>?_);go_simp;have Aa:Below w6.heap.size w6 w1:=aO;refine (Vb.out _ w1 (Bt h5 Aa) (DK.out.later Aa)).mono ?_;rintro e w2 ⟨hb2,⟨he,v,rfl,rfl⟩|⟨he,rfl⟩⟩
 rotate_left
 ·have hf:j4 fa=false:=by
   cases h:j4 fa with
   | false=>rfl
   | true=>rw [h] at he;exact absurd rfl he
  have HE:Hid (er=6):=zh (by rw [Q5.out,if_pos hf]);have Td:(if j4 fa=true then (0:Int) else 6)=6:=by rw [hf];rfl
  rw [Td];exact ⟨rfl,by rw [HE.out];exact dD.no (Bt (Bt h5 Aa) hb2) zd⟩
 have hfa:j4 fa=true:=by
  cases h:j4 fa with
  | true=>rfl
  | false=>rw [h] at he;cases he
 have Y3:=zh hfa;refine hJ _ _ hb2 ?_;clear hJ J he hfa;have h62:Below w6.heap.size w6 w2:=Bt Aa hb2
 try unfold light.gJ.v light.gJ.cells
 refine zV ?_;refine aN rfl rfl (fun w3 hb3 J hJ=>?_);go_simp;have h63:Below w6.heap.size w6 w3:=Bt h62 hb3;refine (QW.out _ w3 (Bt h5 h63) (DK.out.later h63)).mono ?_;rintro e w4 ⟨hb4,⟨he,v,rfl,rfl⟩|⟨he,rfl⟩⟩
 rotate_left
 ·have hf:j4 fb=false:=by
   cases h:j4 fb with
   | false=>rfl
   | true=>rw [h] at he;exact absurd rfl he
  have HE:Hid (er=6):=zh (by rw [Q5.out,if_neg (by rw [Y3.out];simp),if_pos hf]);have Td:(if j4 fb=true then (0:Int) else 6)=6:=by rw [hf];rfl
  rw [Td];exact ⟨rfl,by rw [HE.out];exact dD.no (Bt (Bt h5 h63) hb4) zd⟩
 have UQ:j4 fb=true:=by
  cases h:j4 fb with
  | true=>rfl
  | false=>rw [h] at he;cases he
 have HFB:=zh UQ;refine hJ _ _ hb4 ?_;clear hJ J he UQ;have h64:Below w6.heap.size w6 w4:=Bt h63 hb4
 try unfold light.gJ.v light.gJ.cells
 refine zV ?_;refine fE rfl (fun p1 w5 UL ac2 aq3 ax3 uS=>?_);go_simp;replace uS:aA _ _ _ _:=uS;have ax2:w.heap.size≤p1:=(by first|omega|exact ay (Below.size (B:=w.heap.size) aO) ac2)
 
 refine fE rfl (fun p2 w7 hw7 ac1 aq2 am6 Db=>?_);go_simp;replace Db:aA _ _ _ _:=Db;have ax1:w.heap.size≤p2:=(by first|omega|exact ay (Below.size (B:=w.heap.size) aO) ac1);replace uS:=aA.later (uS) hw7;replace U6:=uS.cell;replace UY:=uS.free;replace UG:=uS.lt;refine bT [_,_] rfl (fun w8 xI=>?_);replace uS:=aA.later (uS) xI;replace U6:=uS.cell;replace UY:=uS.free;replace UG:=uS.lt;replace Db:=aA.later (Db) xI;replace ad7:=Db.cell;replace ad3:=Db.free;replace ZP:=Db.lt;have h68:Below w6.heap.size w6 w8:=aO;have n12:p1≠p2:=fun e=>am6 (by simp [e]);have n21:p2≠p1:=fun e=>n12 e.symm;have YK:w6.heap.size≤p1:=ac2;have YJ:w6.heap.size≤p2:=ac1;have Kv:∀ (fn:Fn) (first cap:Array Value) (w:World),(Instr.makeFunc fn first cap).run Tryz.prog w= .ok (.func fn first cap) w:=fun _ _ _ _=>rfl
 have haz:=fun w'=>Jo fa Y3.out w';rw [Ef.out] at haz;have HAZ:=zh haz;unfold light.gJ.v light.gJ.cells at HAZ;obtain ⟨wn,Ewn⟩:∃ y,((((((((((((w8.setCell ⟨p1,0,none⟩ (O f1)).setCell ⟨p1,1,none⟩ (O f2)).setCell ⟨p1,2,none⟩ (O f3)).setCell ⟨p1,3,none⟩ (O f4)).setCell ⟨p1,4,none⟩ (O f5)).setCell ⟨p1,5,none⟩ (O f6)).setCell ⟨p2,0,none⟩ (O g1)).setCell ⟨p2,1,none⟩ (O g2)).setCell ⟨p2,2,none⟩ (O g3)).setCell ⟨p2,3,none⟩ (O g4)).setCell ⟨p2,4,none⟩ (O g5)).setCell ⟨p2,5,none⟩ (O g6))=y:=⟨_,rfl⟩
 have h6n:Below w6.heap.size w6 wn:=by
  rw [← Ewn];exact (((((((((((h68.setCell YK _).setCell YK _).setCell YK _).setCell YK _).setCell YK _).setCell YK _).setCell YJ _).setCell YJ _).setCell YJ _).setCell YJ _).setCell YJ _).setCell YJ _
 have hX1:aA wn p1 #[O f1,O f2,O f3,O f4,O f5,O f6] 281:=by
  rw [← Ewn];exact (((((((((((uS.set 0 _).set 1 _).set 2 _).set 3 _).set 4 _).set 5 _).setOther _ n12).setOther _ n12).setOther _ n12).setOther _ n12).setOther _ n12).setOther _ n12
 have hX2:aA wn p2 #[O g1,O g2,O g3,O g4,O g5,O g6] 281:=by
  rw [← Ewn];exact (((((((((((Db.setOther _ n21).setOther _ n21).setOther _ n21).setOther _ n21).setOther _ n21).setOther _ n21).set 0 _).set 1 _).set 2 _).set 3 _).set 4 _).set 5 _
 have Qz:=hX1.cell;have Pp:=hX1.lt;clear Aa h62 h63 h64 h68 haz hb1 hb2 hb3 hb4 xI cxa cxb lxa lxb;go_wp2_with fail
 clear U6 UY UG ad7 ad3 ZP uS Db Ewn;refine (HAZ.out _).mono ?_;rintro e wz ⟨rfl,hbz⟩;have h6z:Below w6.heap.size w6 wz:=Bt h6n hbz;have hwz:Below w.heap.size w wz:=Bt h5 h6z
 by_cases hz0:qH fa=true
 ·have HE:Hid (er=7):=zh (by rw [Q5.out,if_neg (by rw [Y3.out];simp),if_neg (by rw [HFB.out];simp),if_pos hz0]);rw [hz0];go_wp2_with fail
  refine (gP 7 zd _).mono ?_;rintro e w7 ⟨rfl,rfl⟩;exact ⟨rfl,by rw [HE.out];exact dD.no hwz zd⟩
 have hz1:qH fa=false:=by simpa using hz0
 have HZF:=zh hz1;rw [hz1]
 have Q0:Hid (er=if jI qd (fa 0) (fb 0)&&jI qd (fa 1) (fb 1)&&jI qd (fa 2) (fb 2) then 0 else 6):=zh (by
  rw [Q5.out,if_neg (by rw [Y3.out];simp),if_neg (by rw [HFB.out];simp),if_neg hz0])
 have Rl:=zh (hX1.later hbz);have YS:=zh (hX2.later hbz);have HXD:=zh (hxd.later h6z);have HXO:=zh (hxo.later h6z);have HXR:=zh (DY.later h6z);clear hz0 hz1 hX1 hX2 Qz Pp hxa hxb hxd hxo DY h6n h6z hbz h5 DK HAZ Vb QW Q5;go_wp2_with fail
 have HGK:Hid (∀ k:Nat,k<3→∀ W,Below wz.heap.size wz W→Calls Tryz.prog 220 #[Z I (k:Int),au (some ⟨p2,0,none⟩),au (some ⟨p1,0,none⟩),au (some ⟨w.heap.size+1+1,0,none⟩),au (some ⟨bo,0,none⟩)] W (dD W (if jI qd (fa k) (fb k) then 0 else 6) (fun v _=>v=(Fr.of (uW qd (fa k) (fb k))).v))):=zh fun k hk W hW=>by
  have hfa:=Y3.out;have UQ:=HFB.out;have hz:=HZF.out;unfold j4 at hfa UQ;unfold qH at hz;simp only [aD] at hfa UQ;simp only [Bool.or_eq_false_iff,decide_eq_false_iff_not] at hz;have hx1:=Rl.out.later hW;have hx2:=YS.out.later hW;have hxd:=HXD.out.later hW;have hxo:=HXO.out.later hW;have e1:(kJ fa).cells=#[O f1,O f2,O f3,O f4,O f5,O f6]:=by rw [Ef.out];rfl
  have e2:(kJ fb).cells=#[O g1,O g2,O g3,O g4,O g5,O g6]:=by rw [Eg.out];rfl
  rw [← e1] at hx1;rw [← e2] at hx2;have e3:#[Value.string d1,O d2]=#[O (Fr.of qd).n,O (Fr.of qd).d]:=by rw [← HDQ.out]
  have e4:#[Value.string o1,O o2]=#[O (Fr.of 1).n,O (Fr.of 1).d]:=by rw [Eo.out]
  rw [e3] at hxd;rw [e4] at hxo;have hk3:k=0∨k=1∨k=2:=by omega
  refine Tw p2 p1 _ bo k fb fa qd W hx2 hx1 hxd hxo hk ?_ ?_ ?_ HDO.out (HT.out.later (Bt hwz hW))
  ·rcases hk3 with rfl|rfl|rfl
   ·exact UQ.1.1
   ·exact UQ.1.2
   ·exact UQ.2
  ·rcases hk3 with rfl|rfl|rfl
   ·exact hfa.1.1
   ·exact hfa.1.2
   ·exact hfa.2
  ·rcases hk3 with rfl|rfl|rfl
   ·exact hz.1.1
   ·exact hz.1.2
   ·exact hz.2
 have h0z:Below wz.heap.size wz (wz.alloc (.cells #[O ⟨#[]⟩,O ⟨#[]⟩,O ⟨#[]⟩,O ⟨#[]⟩,O ⟨#[]⟩,O ⟨#[]⟩] 39)):=aO;have HB0:=zh (aA.new wz #[O ⟨#[]⟩,O ⟨#[]⟩,O ⟨#[]⟩,O ⟨#[]⟩,O ⟨#[]⟩,O ⟨#[]⟩] 39);obtain ⟨gq,Egq⟩:∃ y:Nat→Rat,Hid ((fun k:Nat=>uW qd (fa k) (fb k))=y):=⟨_,zh rfl⟩;obtain ⟨ok,Eok⟩:∃ y:Nat→Bool,Hid ((fun k:Nat=>jI qd (fa k) (fb k))=y):=⟨_,zh rfl⟩;have e1:∀ k:Nat,uW qd (fa k) (fb k)=gq k:=fun k=>by rw [← Egq.out]
 have e2:∀ k:Nat,jI qd (fa k) (fb k)=ok k:=fun k=>by rw [← Eok.out]
 simp only [e1,e2] at HGK Q0;clear Rl YS HXD HXO e1 e2 Eok Y3 HFB HZF HDQ HDO Ef Eg Eo Kv
 go_loopw [61] (fun iv wr=>∃ (k:Nat) (s1 s2 s3 s4 s5 s6:ByteArray),iv= Z I (k:Int)∧k≤3∧Hid (aA wr wz.heap.size #[O s1,O s2,O s3,O s4,O s5,O s6] 39)∧Hid ((0<k→(⟨s1,s2⟩:Fr)=Fr.of (gq 0))∧(1<k→(⟨s3,s4⟩:Fr)=Fr.of (gq 1))∧(2<k→(⟨s5,s6⟩:Fr)=Fr.of (gq 2))∧∀ j,j<k→ok j=true)∧Below wz.heap.size wz wr) (fun iv _=>3 - (intOf iv).toNat)
 case atStart=>exact ⟨0,_,_,_,_,_,_,rfl,by omega,HB0,zh ⟨fun h=>by omega,fun h=>by omega,fun h=>by omega,fun j h=>by omega⟩,h0z⟩
 case round =>
  obtain ⟨k,s1,s2,s3,s4,s5,s6,rfl,hk,HB,HK,hb⟩:=hrel;have c14:=HB.out.cell;have l14:=HB.out.lt
  rcases aH k 3 with hlt|hge
  ·have hk3:k=0∨k=1∨k=2:=by omega
   rcases hk3 with rfl|rfl|rfl
   ·have hcall:=HGK.out 0 zo _ hb;have xB:=zh hcall;clear hcall;go_wp2_with fail
    refine xB.out.mono ?_;rintro e w2 ⟨hb2,⟨he,v,rfl,rfl⟩|⟨he,rfl⟩⟩
    rotate_left
    ·have hf:ok 0=false:=by
      cases h:ok 0 with
      | false=>rfl
      | true=>rw [h] at he;exact absurd rfl he
     have HE:Hid (er=6):=zh (by rw [Q0.out,hf];simp);have Td:(if ok 0=true then (0:Int) else 6)=6:=by rw [hf];rfl
     rw [Td];exact ⟨rfl,by rw [HE.out];exact dD.no (Bt (Bt hwz hb) hb2) zd⟩
    have hok:ok 0=true:=by
     cases h:ok 0 with
     | true=>rfl
     | false=>rw [h] at he;cases he
    have QY:=zh hok;obtain ⟨⟨t1,t2⟩,Va⟩:∃ y:Fr,Hid (y=Fr.of (gq 0)):=⟨_,zh rfl⟩;rw [← Va.out];unfold Fr.v;have hB2:=HB.out.later hb2;have c2:=hB2.cell;have f2:=hB2.free;clear he hok xB c14 l14;go_wp2_with fail
    go_roundw
    case rel =>
     refine ⟨0+1,t1,t2,s3,s4,s5,s6,by go_num,by omega,zh ((hB2.set 0 _).set 1 _),zh ⟨fun _=>Va.out,fun h=>by omega,fun h=>by omega,fun j hj=>?_⟩,((Bt hb hb2).setCell (aG _) _).setCell (aG _) _⟩
     rcases aH j 0 with h|h
     ·exact HK.out.2.2.2 j h
     ·obtain rfl:j=0:=by omega
      exact QY.out
    case measure=>simp [intOf]
   ·have hcall:=HGK.out 1 zo _ hb;have xB:=zh hcall;clear hcall;go_wp2_with fail
    refine xB.out.mono ?_;rintro e w2 ⟨hb2,⟨he,v,rfl,rfl⟩|⟨he,rfl⟩⟩
    rotate_left
    ·have hf:ok 1=false:=by
      cases h:ok 1 with
      | false=>rfl
      | true=>rw [h] at he;exact absurd rfl he
     have HE:Hid (er=6):=zh (by rw [Q0.out,hf];simp);have Td:(if ok 1=true then (0:Int) else 6)=6:=by rw [hf];rfl
     rw [Td];exact ⟨rfl,by rw [HE.out];exact dD.no (Bt (Bt hwz hb) hb2) zd⟩
    have hok:ok 1=true:=by
     cases h:ok 1 with
     | true=>rfl
     | false=>rw [h] at he;cases he
    have QY:=zh hok;obtain ⟨⟨t1,t2⟩,Va⟩:∃ y:Fr,Hid (y=Fr.of (gq 1)):=⟨_,zh rfl⟩;rw [← Va.out];unfold Fr.v;have hB2:=HB.out.later hb2;have c2:=hB2.cell;have f2:=hB2.free;clear he hok xB c14 l14;go_wp2_with fail
    go_roundw
    case rel =>
     refine ⟨1+1,s1,s2,t1,t2,s5,s6,by go_num,by omega,zh ((hB2.set 2 _).set 3 _),zh ⟨fun _=>HK.out.1 zo,fun _=>Va.out,fun h=>by omega,fun j hj=>?_⟩,((Bt hb hb2).setCell (aG _) _).setCell (aG _) _⟩
     rcases aH j 1 with h|h
     ·exact HK.out.2.2.2 j h
     ·obtain rfl:j=1:=by omega
      exact QY.out
    case measure=>simp [intOf]
   ·have hcall:=HGK.out 2 zo _ hb;have xB:=zh hcall;clear hcall;go_wp2_with fail
    refine xB.out.mono ?_;rintro e w2 ⟨hb2,⟨he,v,rfl,rfl⟩|⟨he,rfl⟩⟩
    rotate_left
    ·have hf:ok 2=false:=by
      cases h:ok 2 with
      | false=>rfl
      | true=>rw [h] at he;exact absurd rfl he
     have HE:Hid (er=6):=zh (by rw [Q0.out,hf];simp);have Td:(if ok 2=true then (0:Int) else 6)=6:=by rw [hf];rfl
     rw [Td];exact ⟨rfl,by rw [HE.out];exact dD.no (Bt (Bt hwz hb) hb2) zd⟩
    have hok:ok 2=true:=by
     cases h:ok 2 with
     | true=>rfl
     | false=>rw [h] at he;cases he
    have QY:=zh hok;obtain ⟨⟨t1,t2⟩,Va⟩:∃ y:Fr,Hid (y=Fr.of (gq 2)):=⟨_,zh rfl⟩;rw [← Va.out];unfold Fr.v;have hB2:=HB.out.later hb2;have c2:=hB2.cell;have f2:=hB2.free;clear he hok xB c14 l14;go_wp2_with fail
    go_roundw
    case rel =>
     refine ⟨2+1,s1,s2,s3,s4,t1,t2,by go_num,by omega,zh ((hB2.set 4 _).set 5 _),zh ⟨fun _=>HK.out.1 zo,fun _=>HK.out.2.1 zo,fun _=>Va.out,fun j hj=>?_⟩,((Bt hb hb2).setCell (aG _) _).setCell (aG _) _⟩
     rcases aH j 2 with h|h
     ·exact HK.out.2.2.2 j h
     ·obtain rfl:j=2:=by omega
      exact QY.out
    case measure=>simp [intOf]
  ·have hk3:k=3:=by omega
   subst hk3;obtain ⟨q1,q2,q3,q4⟩:=HK.out;have HE:Hid (er=0):=zh (by rw [Q0.out,q4 0 zo,q4 1 zo,q4 2 zo];rfl)
   have HTV:Hid ((kJ gq).v= aB #[O s1,O s2,O s3,O s4,O s5,O s6]):=zh (by
    unfold kJ;rw [← q1 zo,← q2 zo,← q3 zo];rfl)
   have hr:=HXR.out.later hb;have cr:=hr.cell;have fr:=hr.free;have HGQ:Hid ((fun i=>uW qd (fa i) (fb i))=gq):=Egq;clear q1 q2 q3 q4;go_wp2_with fail
   refine iX rfl rfl ((((((hr.set 0 _).set 1 _).set 2 _).set 3 _).set 4 _).set 5 _) Tryz.underlying39 rfl zk ?_;rw [HE.out,HGQ.out];refine dD.yes ?_ (by show _=(kJ gq).v;rw [HTV.out];rfl);have hww:=Bt hwz hb;have hsz:w.heap.size≤w.heap.size+1+1+1:=by omega
   exact (((((hww.setCell hsz _).setCell hsz _).setCell hsz _).setCell hsz _).setCell hsz _).setCell hsz _
def AU (w:World) (pk pa pb pd:Nat) (k:Int) (a b:light.gJ) (d:Fr):Prop:=aA w pk #[Z I k] 3∧aA w pa a.cells 40∧aA w pb b.cells 40∧aA w pd #[O d.n,O d.d] 38
theorem AU.later {w w':World} {pk pa pb pd:Nat} {k:Int} {a b:light.gJ} {d:Fr} (h:AU w pk pa pb pd k a b d) (hb:Below w.heap.size w w'):AU w' pk pa pb pd k a b d:=⟨h.1.later hb,h.2.1.later hb,h.2.2.1.later hb,h.2.2.2.later hb⟩
theorem MC (pk pa pb pd:Nat) (k:Int) (a b:light.gJ) (d:Fr) (w:World) (h:AU w pk pa pb pd k a b d) (ht:iA.Pow w) (hc:fM w) :
  Calls Tryz.prog 143 #[au (some ⟨pk,0,none⟩),au (some ⟨pa,0,none⟩),au (some ⟨pb,0,none⟩),au (some ⟨pd,0,none⟩)] w (dD w (nP k a b d) (fun v _=>v=(kJ (ql k a b d)).v)):=by
 have HG:=zh (fun w' (hb:Below w.heap.size w w')=>P6 k a b d w' (ht.later hb) (hc.later hb));obtain ⟨er,Vh⟩:∃ y,Hid (nP k a b d=y):=⟨_,zh rfl⟩;obtain ⟨⟨⟨q1,q2⟩,⟨q3,q4⟩,⟨q5,q6⟩⟩,EG⟩:∃ y:light.gJ,Hid (kJ (ql k a b d)=y):=⟨_,zh rfl⟩;rw [Vh.out,EG.out] at HG ⊢;obtain ⟨hk,ha,hb,hd⟩:=h;obtain ⟨⟨a1,a2⟩,⟨a3,a4⟩,⟨a5,a6⟩⟩:=a;obtain ⟨⟨b1,b2⟩,⟨b3,b4⟩,⟨b5,b6⟩⟩:=b;obtain ⟨d1,d2⟩:=d;unfold light.gJ.v light.gJ.cells Fr.v at HG;unfold light.gJ.cells at ha hb;have ck:=hk.cell;have ca:=ha.cell;have cb:=hb.cell;have cd:=hd.cell;have lk:=hk.lt;have la:=ha.lt;have lb:=hb.lt;have ld:=hd.lt;clear ht hc hk ha hb hd Vh EG;have hb0:Below w.heap.size w (w.alloc (.cells #[O ⟨#[]⟩,O ⟨#[]⟩,O ⟨#[]⟩,O ⟨#[]⟩,O ⟨#[]⟩,O ⟨#[]⟩] 39)):=aO;have hr0:=aA.new w #[O ⟨#[]⟩,O ⟨#[]⟩,O ⟨#[]⟩,O ⟨#[]⟩,O ⟨#[]⟩,O ⟨#[]⟩] 39
 go_enter Tryz.func143,Tryz.ntmps143
 go_wp2_with fail
 refine (HG.out _ hb0).mono ?_;rintro e w1 ⟨hb1,⟨rfl,v,rfl,rfl⟩|⟨he,rfl⟩⟩
 ·have hr1:=hr0.later hb1;have cr:=hr1.cell;have fr:=hr1.free;go_wp2_with fail
  refine iX rfl rfl ((((((hr1.set 0 _).set 1 _).set 2 _).set 3 _).set 4 _).set 5 _) Tryz.underlying39 rfl zk ?_;have hw:=Bt hb0 hb1;have hsz:w.heap.size≤w.heap.size:=aG _;exact dD.yes ((((((hw.setCell hsz _).setCell hsz _).setCell hsz _).setCell hsz _).setCell hsz _).setCell hsz _) rfl
 ·exact ⟨rfl,dD.no (Bt hb0 hb1) he⟩
theorem Q6 (k:Int) (a b:light.gJ) (d:Fr) (w:World) (ht:iA.Pow w) (hc:fM w) :
  Calls Tryz.prog 81 #[Z I k,a.v,b.v,d.v] w (sJ w (nP k a b d) (kJ (ql k a b d))):=by
 have Kv:∀ (fn:Fn) (first cap:Array Value) (w:World),(Instr.makeFunc fn first cap).run Tryz.prog w= .ok (.func fn first cap) w:=fun _ _ _ _=>rfl;obtain ⟨w0,oq⟩:∃ y,((((w.alloc (.cells #[Z I k] 3)).alloc (.cells a.cells 40)).alloc (.cells b.cells 40)).alloc (.cells #[O d.n,O d.d] 38)).alloc (.cells #[O ⟨#[]⟩,O ⟨#[]⟩,O ⟨#[]⟩,O ⟨#[]⟩,O ⟨#[]⟩,O ⟨#[]⟩] 39)=y:=⟨_,rfl⟩;have hb0:Below w.heap.size w w0:=by rw [← oq];exact aO
 have hA:AU w0 w.heap.size (w.heap.size+1) (w.heap.size+1+1) (w.heap.size+1+1+1) k a b d:=by
  rw [← oq];exact ⟨aY,aY,aY,(aA.at3 _ _ _ _ _ _).alloc _⟩
 have hr0:aA w0 (w.heap.size+1+1+1+1) #[O ⟨#[]⟩,O ⟨#[]⟩,O ⟨#[]⟩,O ⟨#[]⟩,O ⟨#[]⟩,O ⟨#[]⟩] 39:=by rw [← oq];exact aA.uy zi
 obtain ⟨er,Vh⟩:∃ y,Hid (nP k a b d=y):=⟨_,zh rfl⟩;obtain ⟨g,Eg⟩:∃ y:light.gJ,Hid (kJ (ql k a b d)=y):=⟨_,zh rfl⟩
 have hat:=Gz 143 #[au (some ⟨w.heap.size,0,none⟩),au (some ⟨w.heap.size+1,0,none⟩),au (some ⟨w.heap.size+1+1,0,none⟩),au (some ⟨w.heap.size+1+1+1,0,none⟩)] (nP k a b d) (kJ (ql k a b d)) w0
  (fun W hW=>MC _ _ _ _ k a b d W (hA.later hW) ((ht.later hb0).later hW) ((hc.later hb0).later hW)) (fun args W=>enters_of Tryz.func143 zk rfl args W)
 rw [Vh.out,Eg.out] at hat ⊢;have HAT:=zh hat;obtain ⟨gg,Egg⟩:∃ y:light.gJ,Hid ((if er=0 then g else OU)=y):=⟨_,zh rfl⟩;obtain ⟨⟨a1,a2⟩,⟨a3,a4⟩,⟨a5,a6⟩⟩:=a;obtain ⟨⟨b1,b2⟩,⟨b3,b4⟩,⟨b5,b6⟩⟩:=b;obtain ⟨d1,d2⟩:=d;unfold light.gJ.cells at oq;simp only at oq;have HR:Hid (sJ w er g=fun e w'=>Below w.heap.size w w'∧e= ah (aF #[gg.v,Z I er])):=zh (by unfold sJ;rw [Egg.out]);have YU:Hid (sJ w0 er g=fun e w'=>Below w0.heap.size w0 w'∧e= ah (aF #[gg.v,Z I er])):=zh (by unfold sJ;rw [Egg.out]);rw [HR.out];rw [YU.out] at HAT;obtain ⟨⟨g1,g2⟩,⟨g3,g4⟩,⟨g5,g6⟩⟩:=gg;unfold light.gJ.v light.gJ.cells at HAT ⊢;clear hat ht hc hA HR YU Egg Vh Eg;go_enter Tryz.func81,Tryz.ntmps81
 unfold Fr.v;go_wp2_with fail
 clear oq;refine HAT.out.mono ?_;rintro e w1 ⟨hb1,rfl⟩;have hr1:=hr0.later hb1;have cr:=hr1.cell;have fr:=hr1.free;clear HAT;go_wp2_with fail
 refine bE rfl rfl ((((((hr1.set 0 _).set 1 _).set 2 _).set 3 _).set 4 _).set 5 _) Tryz.underlying39 rfl zk ?_;have hw:=Bt hb0 hb1;have hsz:w.heap.size≤w.heap.size+1+1+1+1:=by omega
 exact ⟨(((((hw.setCell hsz _).setCell hsz _).setCell hsz _).setCell hsz _).setCell hsz _).setCell hsz _,rfl⟩
end Go.Proofs.adapt
