/- Lemmas for the proof. No condition. -/
import Derived.Test.YtbngfhgoeoncmaaGreatDoorWB12
set_option linter.unusedVariables false
set_option linter.unusedSimpArgs false
set_option maxRecDepth 100000
set_option maxHeartbeats 16000000
open Bool renaming and_eq_true → aF
open Go.Ending renaming returned → aj
open Go.IntKind renaming i64 → I
open Go.Value renaming agg → aB, int → Z, pointer → ay, string → O, tuple → aD
open List renaming all_cons → gD
open Nat renaming le_refl → aC, le_trans → au, lt_or_ge → aH
namespace Go.Proofs.adapt
open Go Go.RowKit Go.SW Go.Num Go.Mem Go.Proofs Go.Dec Go.fG
def qF (a:Fr):Rat:=(rd a).getD 0
def qT (t:light.ig) (i:Nat):Rat:=qF (t.get i)
theorem Iu {a:Fr} (h:(rd a).isSome=true):a=Fr.of (qF a)∧jk (qF a)=true:=by
 cases hr:rd a with
 | none=>rw [hr] at h;cases h
 | some q =>
  have:=ow hr;unfold qF;rw [hr];exact this
theorem Vg {t:light.ig} (h:jU t.list=0):t=dY (qT t)∧mF (qT t)=true:=by
 unfold jU at h;split at h
 ·rename_i hh;simp only [light.ig.list,gD,List.all_nil,Bool.and_true,aF] at hh;obtain ⟨h1,h2,h3⟩:=hh;obtain ⟨e1,k1⟩:=Iu h1;obtain ⟨e2,k2⟩:=Iu h2;obtain ⟨e3,k3⟩:=Iu h3;obtain ⟨x,y,z⟩:=t;refine ⟨?_,?_⟩
  ·show (⟨x,y,z⟩:light.ig)=⟨Fr.of (qF x),Fr.of (qF y),Fr.of (qF z)⟩
   rw [← e1,← e2,← e3]
  ·show (jk (qF x)&&jk (qF y)&&jk (qF z))=true
   rw [k1,k2,k3];rfl
 ·cases h
theorem DK {t:light.ig} (h:light.uy t=0):jU t.list=0:=by
 have h1:light.F3 t=0:=by
  unfold light.uy at h
  by_cases hc:light.F3 t=0
  ·exact hc
  ·simp [hc] at h
 unfold light.F3 at h1
 by_cases hc:jU t.list=0
 ·exact hc
 ·rw [if_neg hc] at h1;cases h1
theorem FX (m:Nat) (hm:m<4):(og m).ok 3:=by
 refine ⟨by show 1≤3;omega,by show 3≤4;omega,by omega,by omega,fun r hr=>?_⟩;obtain ⟨i,hi,rfl⟩:=List.mem_map.1 hr;refine ⟨by simp,fun q hq=>?_⟩;obtain ⟨j,hj,rfl⟩:=List.mem_map.1 hq;exact MW m hm i (List.mem_range.1 hi) j (List.mem_range.1 hj)
def jV (k:Int) (t:light.ig):Nat→Rat:=DU (og (k - 1).toNat) (qT t)
def sG (k:Int) (a b:light.ig) (d:Fr) (i:Nat):Rat:=wI (qF d) (jV k a i) (jV k b i)
def Aq (k:Int) (a b:light.ig) (d:Fr):Int :=
 if Ao k≠0 then Ao k else if light.uy a≠0 then light.uy a else if light.uy b≠0 then light.uy b else if Dk d≠0 then Dk d
 else if gZ (qF d) 0<0∨0<gZ (qF d) 1 then 2 else 0
def oF (k:Int) (a b:light.ig) (d:Fr):Int :=
 if Aq k a b d≠0 then Aq k a b d
 else if mF (jV k a)=false then 6 else if mF (jV k b)=false then 6 else if rC (jV k a) then 7
 else if kS (qF d) (jV k a 0) (jV k b 0)&&kS (qF d) (jV k a 1) (jV k b 1)&&kS (qF d) (jV k a 2) (jV k b 2) then 0 else 6
theorem WO (k:Int) (a b:light.ig) (d:Fr) (w:World) (ht:ko.Pow w) (hc:kX w) :
  Calls Tryz.prog 144 #[Z I k,a.v,b.v,d.v] w (eH w (oF k a b d) (fun v _=>v=(dY (sG k a b d)).v)):=by
 have HCO:=zh (fun w' hb=>RN k w' (ht.later hb) (hc.later hb));have HSA:=zh (fun w'=>light.Gm a w');have XJ:=zh (fun w'=>light.Gm b w');have Ig:=zh (fun w'=>dZ.mE d w');have HOF:=zh (fun w' hb=>dZ.uf 1 1 zo zo zo zo w' (ht.later hb))
 have h11:Fr.res (lI 1 1)= aD #[(Fr.of 1).v,Z I 0]:=by
  unfold lI;rw [if_neg zd];have e:((1:Int):Rat) / ((1:Int):Rat)=1:=by decide+kernel
  rw [e];unfold fG.wr;rw [if_pos (by decide+kernel)];rfl
 rw [h11] at HOF
 have RG:Hid (Dk d=0→∀ w',Calls Tryz.prog 75 #[d.v] w' (fun e w''=>e= aj (aD #[Z I (gZ (qF d) 0),Z I 0])∧Below w'.heap.size w' w'')):=zh fun h w'=>by
  have hs:(rd d).isSome=true:=by
   unfold Dk at h;split at h
   ·assumption
   ·cases h
  obtain ⟨e1,e2⟩:=Iu hs;have:=dZ.qy d w'
  have e3:jQ d=(gZ (qF d) 0,0):=by
   conv=>lhs;rw [e1]
   exact Qr e2
  rw [e3] at this;exact this
 have HCM:Hid (Dk d=0→∀ w',Calls Tryz.prog 36 #[d.v,(Fr.of 1).v] w' (fun e w''=>e= aj (aD #[Z I (gZ (qF d) 1),Z I 0])∧Below w'.heap.size w' w'')):=zh fun h w'=>by
  have hs:(rd d).isSome=true:=by
   unfold Dk at h;split at h
   ·assumption
   ·cases h
  obtain ⟨e1,e2⟩:=Iu hs;have:=dZ.KX d (Fr.of 1) w'
  have e3:tQ d (Fr.of 1)=(gZ (qF d) 1,0):=by
   conv=>lhs;rw [e1]
   unfold tQ;rw [je e2,je (show jk 1=true by decide+kernel)]
  rw [e3] at this;exact this
 have HDD:Hid (Dk d=0→d=Fr.of (qF d)∧jk (qF d)=true):=zh fun h=>Iu (by
   unfold Dk at h;split at h
   ·assumption
   ·cases h)
 have XH:Hid (light.uy a=0→∀ va w',Bw w w'→nQ w' va (og (k - 1).toNat).fr→Ao k=0→Calls Tryz.prog 218 #[va,a.v] w' (eH w' (if mF (jV k a) then 0 else 6) (fun v _=>v=(dY (jV k a)).v))):=zh fun h va w' hb hv hk=>by
  obtain ⟨e1,e2⟩:=Vg (DK h)
  have hm:(k - 1).toNat<4:=by
   unfold Ao at hk
   by_cases h:k<1∨4<k
   ·rw [if_pos h] at hk;cases hk
   ·omega
  have:=Qw va (og (k - 1).toNat) (qT a) w' hv (FX _ hm) rfl e2 (ht.later hb);rw [← e1] at this;exact this
 have XG:Hid (light.uy b=0→∀ va w',Bw w w'→nQ w' va (og (k - 1).toNat).fr→Ao k=0→Calls Tryz.prog 218 #[va,b.v] w' (eH w' (if mF (jV k b) then 0 else 6) (fun v _=>v=(dY (jV k b)).v))):=zh fun h va w' hb hv hk=>by
  obtain ⟨e1,e2⟩:=Vg (DK h)
  have hm:(k - 1).toNat<4:=by
   unfold Ao at hk
   by_cases h:k<1∨4<k
   ·rw [if_pos h] at hk;cases hk
   ·omega
  have:=Qw va (og (k - 1).toNat) (qT b) w' hv (FX _ hm) rfl e2 (ht.later hb);rw [← e1] at this;exact this
 have HT:=zh ht;obtain ⟨fa,Efa⟩:∃ y,Hid (jV k a=y):=⟨_,zh rfl⟩;obtain ⟨fb,Efb⟩:∃ y,Hid (jV k b=y):=⟨_,zh rfl⟩;obtain ⟨qd,Eqd⟩:∃ y,Hid (qF d=y):=⟨_,zh rfl⟩;obtain ⟨sa,Esa⟩:∃ y,Hid (light.uy a=y):=⟨_,zh rfl⟩;obtain ⟨sb,Esb⟩:∃ y,Hid (light.uy b=y):=⟨_,zh rfl⟩;obtain ⟨ck,Eck⟩:∃ y,Hid (Dk d=y):=⟨_,zh rfl⟩;obtain ⟨ce,Ece⟩:∃ y,Hid (Ao k=y):=⟨_,zh rfl⟩
 have hea:Aq k a b d=if ce≠0 then ce else if sa≠0 then sa else if sb≠0 then sb else if ck≠0 then ck else if gZ qd 0<0∨0<gZ qd 1 then 2 else 0:=by
  unfold Aq;rw [Ece.out,Esa.out,Esb.out,Eck.out,Eqd.out]
 have her:oF k a b d=if Aq k a b d≠0 then Aq k a b d else if mF fa=false then 6 else if mF fb=false then 6 else if rC fa then 7 else if kS qd (fa 0) (fb 0)&&kS qd (fa 1) (fb 1)&&kS qd (fa 2) (fb 2) then 0 else 6:=by
  unfold oF;rw [Efa.out,Efb.out,Eqd.out]
 have hg:sG k a b d=fun i=>wI qd (fa i) (fb i):=by
  funext i
  unfold sG;rw [Efa.out,Efb.out,Eqd.out]
 rw [hg];obtain ⟨er,Eer⟩:∃ y,Hid (oF k a b d=y):=⟨_,zh rfl⟩;obtain ⟨ea,Eea⟩:∃ y,Hid (Aq k a b d=y):=⟨_,zh rfl⟩;rw [Eer.out] at her ⊢;rw [Eea.out] at her hea;have Yp:=zh hea;have RJ:=zh her;rw [Efa.out] at XH;rw [Efb.out] at XG;rw [Eqd.out] at RG HCM HDD;rw [Esa.out] at HSA XH;rw [Esb.out] at XJ XG;rw [Eck.out] at Ig RG HCM HDD;rw [Ece.out] at HCO XH XG;have HEG:Hid (ea≠0→er=ea):=zh fun h=>by rw [RJ.out,if_pos h]
 have ba7:=Ig;clear hea her hg h11 Efa Efb Eqd Esa Esb Eck Ece Eer Eea ba7;obtain ⟨⟨a1,a2⟩,⟨a3,a4⟩,⟨a5,a6⟩⟩:=a;obtain ⟨⟨b1,b2⟩,⟨b3,b4⟩,⟨b5,b6⟩⟩:=b;obtain ⟨d1,d2⟩:=d;obtain ⟨⟨o1,o2⟩,Eo⟩:∃ x:Fr,Hid (Fr.of 1=x):=⟨_,zh rfl⟩;rw [Eo.out] at HOF HCM;clear ht hc;obtain ⟨w0,rV⟩:∃ y,(((w.alloc (.cells #[O a1,O a2,O a3,O a4,O a5,O a6] 40)).alloc (.cells #[O b1,O b2,O b3,O b4,O b5,O b6] 40)).alloc (.cells #[O d1,O d2] 38)).alloc (.cells #[O ⟨#[]⟩,O ⟨#[]⟩,O ⟨#[]⟩,O ⟨#[]⟩,O ⟨#[]⟩,O ⟨#[]⟩] 39)=y:=⟨_,rfl⟩;have hb0:Bw w w0:=by rw [← rV];exact aI
 have hxa:aA w0 w.heap.size #[O a1,O a2,O a3,O a4,O a5,O a6] 40:=by rw [← rV];exact bq
 have hxb:aA w0 (w.heap.size+1) #[O b1,O b2,O b3,O b4,O b5,O b6] 40:=by rw [← rV];exact bq
 have hxd:aA w0 (w.heap.size+1+1) #[O d1,O d2] 38:=by rw [← rV];exact bq
 have zm:aA w0 (w.heap.size+1+1+1) #[O ⟨#[]⟩,O ⟨#[]⟩,O ⟨#[]⟩,O ⟨#[]⟩,O ⟨#[]⟩,O ⟨#[]⟩] 39:=by rw [← rV];exact aA.at3 _ _ _ _ _ _
 go_enter Tryz.func144,Tryz.ntmps144
 unfold light.ig.v light.ig.cells Fr.v;go_wp2_with fail
 clear rV;refine (HCO.out _ hb0).mono ?_;rintro e w1 ⟨hb1,vc,rfl,hy1,hy2⟩;have h1:Bw w w1:=Bt hb0 hb1
 by_cases hce:ce=0
 rotate_left
 ·have hv:=hy2 hce;subst hv
  have HE:Hid (er=ce):=zh (by
   have:ea=ce:=by rw [Yp.out,if_pos hce]
   rw [HEG.out (by rw [this];exact hce),this])
  clear hy1 hy2;go_wp2_with fail
  refine (SK _ _ _ ce hce _).mono ?_;rintro e w2 ⟨rfl,rfl⟩;exact ⟨rfl,by rw [HE.out];exact eH.no h1 hce⟩
 have hmv:=hy1 hce;clear hy1 hy2;obtain ⟨rs,hR, -⟩:=id hmv;obtain ⟨ac,cc,rfl, -⟩:=hR;have KO:=zh hmv;have HCE:=zh hce;subst hce;clear hmv;go_wp2_with fail
 refine (VD _ _ _ _).mono ?_;rintro e w2 ⟨rfl,rfl⟩;replace hxa:=hxa.later hb1;replace hxb:=hxb.later hb1;replace hxd:=hxd.later hb1;replace zm:=zm.later hb1;have cxa:=hxa.cell;go_wp2_with fail
 refine (HSA.out _).mono ?_;rintro e w3 ⟨rfl,hb3⟩;have h3:Bw w w3:=Bt h1 hb3
 by_cases hsa:sa=0
 rotate_left
 ·have HE:Hid (er=sa):=zh (by
   have:ea=sa:=by rw [Yp.out,if_neg zi,if_pos hsa]
   rw [HEG.out (by rw [this];exact hsa),this])
  go_wp2_with fail
  refine (iO sa hsa _).mono ?_;rintro e w4 ⟨rfl,rfl⟩;exact ⟨rfl,by rw [HE.out];exact eH.no h3 hsa⟩
 subst hsa;replace hxa:=hxa.later hb3;replace hxb:=hxb.later hb3;replace hxd:=hxd.later hb3;replace zm:=zm.later hb3;replace KO:=zh (KO.out.later hb3);have cxb:=hxb.cell;clear cxa;go_wp2_with fail
 refine (kN _).mono ?_;rintro e w4 ⟨rfl,rfl⟩;go_wp2_with fail
 refine (XJ.out _).mono ?_;rintro e w5 ⟨rfl,hb5⟩;have h5:Bw w w5:=Bt h3 hb5
 by_cases hsb:sb=0
 rotate_left
 ·have HE:Hid (er=sb):=zh (by
   have:ea=sb:=by rw [Yp.out,if_neg zi,if_neg zi,if_pos hsb]
   rw [HEG.out (by rw [this];exact hsb),this])
  go_wp2_with fail
  refine (iO sb hsb _).mono ?_;rintro e w6 ⟨rfl,rfl⟩;exact ⟨rfl,by rw [HE.out];exact eH.no h5 hsb⟩
 subst hsb;replace hxa:=hxa.later hb5;replace hxb:=hxb.later hb5;replace hxd:=hxd.later hb5;replace zm:=zm.later hb5;replace KO:=zh (KO.out.later hb5);have cxd:=hxd.cell;clear cxb;go_wp2_with fail
 refine (kN _).mono ?_;rintro e w6 ⟨rfl,rfl⟩;go_wp2_with fail
 refine (Ig.out _).mono ?_;rintro e w7 ⟨rfl,jY⟩;have h7:Bw w w7:=Bt h5 jY
 by_cases hck:ck=0
 rotate_left
 ·have HE:Hid (er=ck):=zh (by
   have:ea=ck:=by rw [Yp.out,if_neg zi,if_neg zi,if_neg zi,if_pos hck]
   rw [HEG.out (by rw [this];exact hck),this])
  go_wp2_with fail
  refine (iO ck hck _).mono ?_;rintro e w8 ⟨rfl,rfl⟩;exact ⟨rfl,by rw [HE.out];exact eH.no h7 hck⟩
 subst hck;replace hxa:=hxa.later jY;replace hxb:=hxb.later jY;replace hxd:=hxd.later jY;replace zm:=zm.later jY;replace KO:=zh (KO.out.later jY);clear cxd;go_wp2_with fail
 refine (kN _).mono ?_;rintro e w8 ⟨rfl,rfl⟩;go_wp2_with fail
 refine (HOF.out _ h7).mono ?_;rintro e w9 ⟨rfl,rJ⟩;unfold Fr.v;go_wp2_with fail
 refine (tF ⟨o1,o2⟩ _).mono ?_;unfold Fr.v;rintro e wa ⟨rfl,hba⟩;have h8a:Bw w8 wa:=Bt rJ hba;have ha:Bw w wa:=Bt h7 h8a;replace hxa:=hxa.later h8a;replace hxb:=hxb.later h8a;replace hxd:=hxd.later h8a;replace zm:=zm.later h8a;replace KO:=zh (KO.out.later h8a);clear hb0 hb1 hb3 hb5 jY rJ hba h1 h3 h5 h7 h8a HCO HSA XJ Ig HOF;have cxd:=hxd.cell;have lxd:=hxd.lt;have hsg:=RG.out (by first|rfl|trivial);have hcm:=HCM.out (by first|rfl|trivial);obtain ⟨z1,Ez1⟩:∃ y,Hid (gZ qd 0=y):=⟨_,zh rfl⟩;obtain ⟨z2,Ez2⟩:∃ y,Hid (gZ qd 1=y):=⟨_,zh rfl⟩;rw [Ez1.out] at hsg Yp;rw [Ez2.out] at hcm Yp;have aA0:=zh hsg;have aA2:=zh hcm;unfold Fr.v at aA0 aA2;have hb':Below wa.heap.size wa (wa.alloc (.cells #[O o1,O o2] 38)):=aI;obtain ⟨wb,Ewb⟩:∃ y,wa.alloc (.cells #[O o1,O o2] 38)=y:=⟨_,rfl⟩
 have hxo:=aA.new wa #[O o1,O o2] 38;rw [Ewb] at hb' hxo;clear hsg hcm RG HCM;replace hxa:=hxa.later hb';replace hxb:=hxb.later hb';replace hxd:=hxd.later hb';replace zm:=zm.later hb';replace KO:=zh (KO.out.later hb');have hbw:Bw w wb:=Bt ha hb';obtain ⟨bo,Ebo⟩:∃ y,wa.heap.size=y:=⟨_,rfl⟩;rw [Ebo] at hxo;clear hb' ha;replace cxd:=hxd.cell;go_wp2_with fail
 clear Ewb Ebo;refine (aA0.out _).mono ?_;rintro e w3 ⟨rfl,hb3⟩;have h3:Bw w w3:=Bt hbw hb3;replace hxa:=hxa.later hb3;replace hxb:=hxb.later hb3;replace hxd:=hxd.later hb3;replace zm:=zm.later hb3;replace hxo:=hxo.later hb3;replace KO:=zh (KO.out.later hb3);replace cxd:=hxd.cell;have cxo:=hxo.cell;clear hb3 hbw;go_wp2_with fail
 refine (oZ _ _).mono ?_;rintro e w4 ⟨rfl,rfl⟩
 by_cases hz1:z1<0
 ·have HE:Hid (er=2):=zh (by
   have:ea=2:=by rw [Yp.out,if_neg zi,if_neg zi,if_neg zi,if_neg zi,if_pos (.inl hz1)]
   rw [HEG.out (by rw [this];decide),this])
  have b1:decide (z1<0)=true:=decide_eq_true hz1;clear hz1;go_wp2_with fail
  refine (iO 2 zd _).mono ?_;rintro e w6 ⟨rfl,rfl⟩;exact ⟨rfl,by rw [HE.out];exact eH.no h3 zd⟩
 have b1:decide (z1<0)=false:=decide_eq_false hz1;go_wp2_with fail
 refine (aA2.out _).mono ?_;rintro e w5 ⟨rfl,hb5⟩;have h5:Bw w w5:=Bt h3 hb5;replace hxa:=hxa.later hb5;replace hxb:=hxb.later hb5;replace hxd:=hxd.later hb5;replace zm:=zm.later hb5;replace hxo:=hxo.later hb5;replace KO:=zh (KO.out.later hb5);clear hb5 h3 cxd cxo;go_wp2_with fail
 refine (oZ _ _).mono ?_;rintro e w6 ⟨rfl,rfl⟩
 by_cases hz2:0<z2
 ·have HE:Hid (er=2):=zh (by
   have:ea=2:=by rw [Yp.out,if_neg zi,if_neg zi,if_neg zi,if_neg zi,if_pos (.inr hz2)]
   rw [HEG.out (by rw [this];decide),this])
  have b2:decide (0<z2)=true:=decide_eq_true hz2;clear hz1 hz2;go_wp2_with fail
  refine (iO 2 zd _).mono ?_;rintro e w7 ⟨rfl,rfl⟩;exact ⟨rfl,by rw [HE.out];exact eH.no h5 zd⟩
 have b2:decide (0<z2)=false:=decide_eq_false hz2
 have XP:Hid (er=if mF fa=false then 6 else if mF fb=false then 6 else if rC fa then 7 else if kS qd (fa 0) (fb 0)&&kS qd (fa 1) (fb 1)&&kS qd (fa 2) (fb 2) then 0 else 6):=zh (by
  have:ea=0:=by rw [Yp.out,if_neg zi,if_neg zi,if_neg zi,if_neg zi,if_neg zo]
  rw [RJ.out,if_neg (by rw [this];simp)])
 clear hz1 hz2 Yp RJ HEG aA0 aA2 Ez1 Ez2;have hsa:=fun va w' hb hv=>XH.out (by first|rfl|trivial) va w' hb hv (by first|rfl|trivial);have hsb:=fun va w' hb hv=>XG.out (by first|rfl|trivial) va w' hb hv (by first|rfl|trivial);have HSA:=zh hsa;have XJ:=zh hsb;obtain ⟨G9,hdo⟩:=HDD.out (by first|rfl|trivial);have HDQ:=zh G9;have HDO:=zh hdo;clear hsa hsb XH XG HDD G9 hdo;have cxa:=hxa.cell;have cxb:=hxb.cell;have lxa:=hxa.lt;have lxb:=hxb.lt;unfold light.ig.v light.ig.cells at HSA XJ;go_wp2_with fail
 obtain ⟨⟨⟨f1,f2⟩,⟨f3,f4⟩,⟨f5,f6⟩⟩,Ef⟩:∃ y:light.ig,Hid (dY fa=y):=⟨_,zh rfl⟩;obtain ⟨⟨⟨g1,g2⟩,⟨g3,g4⟩,⟨g5,g6⟩⟩,Eg⟩:∃ y:light.ig,Hid (dY fb=y):=⟨_,zh rfl⟩;rw [Ef.out] at HSA;rw [Eg.out] at XJ;refine aO [(.pure,0),(.read,1),(.pure,3),(.read,4),(.ext,2),(.ext,5),(.alloc #[O ⟨#[]⟩,O ⟨#[]⟩,O ⟨#[]⟩,O ⟨#[]⟩,O ⟨#[]⟩,O ⟨#[]⟩] 281,6),(.alloc #[O ⟨#[]⟩,O ⟨#[]⟩,O ⟨#[]⟩,O ⟨#[]⟩,O ⟨#[]⟩,O ⟨#[]⟩] 281,7),(.fin,8),(.fin,9)] zk zk zR zP ?_;refine zV ?_;refine aL rfl rfl (fun w1 hb1 J hJ=>?_);go_simp;have FN:Bw w6 w1:=aI;refine (HSA.out _ w1 (Bt h5 FN) (KO.out.later FN)).mono ?_;rintro e w2 ⟨hb2,⟨he,v,rfl,rfl⟩|⟨he,rfl⟩⟩
 rotate_left
 ·have hf:mF fa=false:=by
   cases h:mF fa with
   | false=>rfl
   | true=>rw [h] at he;exact absurd rfl he
  have HE:Hid (er=6):=zh (by rw [XP.out,if_pos hf]);have ZO:(if mF fa=true then (0:Int) else 6)=6:=by rw [hf];rfl
  rw [ZO];exact ⟨rfl,by rw [HE.out];exact eH.no (Bt (Bt h5 FN) hb2) zd⟩
 have hfa:mF fa=true:=by
  cases h:mF fa with
  | true=>rfl
  | false=>rw [h] at he;cases he
 have HFA:=zh hfa;refine hJ _ _ hb2 ?_;clear hJ J he hfa;have h62:Bw w6 w2:=Bt FN hb2
 try unfold light.ig.v light.ig.cells
 refine zV ?_;refine aL rfl rfl (fun w3 hb3 J hJ=>?_);go_simp;have h63:Bw w6 w3:=Bt h62 hb3;refine (XJ.out _ w3 (Bt h5 h63) (KO.out.later h63)).mono ?_;rintro e w4 ⟨hb4,⟨he,v,rfl,rfl⟩|⟨he,rfl⟩⟩
 rotate_left
 ·have hf:mF fb=false:=by
   cases h:mF fb with
   | false=>rfl
   | true=>rw [h] at he;exact absurd rfl he
  have HE:Hid (er=6):=zh (by rw [XP.out,if_neg (by rw [HFA.out];simp),if_pos hf]);have ZO:(if mF fb=true then (0:Int) else 6)=6:=by rw [hf];rfl
  rw [ZO];exact ⟨rfl,by rw [HE.out];exact eH.no (Bt (Bt h5 h63) hb4) zd⟩
 have hfb:mF fb=true:=by
  cases h:mF fb with
  | true=>rfl
  | false=>rw [h] at he;cases he
 have HFB:=zh hfb;refine hJ _ _ hb4 ?_;clear hJ J he hfb;have h64:Bw w6 w4:=Bt h63 hb4
 try unfold light.ig.v light.ig.cells
 refine zV ?_;refine dU rfl (fun p1 w5 hw5 aJ2 bc8 bj4 Ab=>?_);go_simp;replace Ab:aA _ _ _ _:=Ab;have bj3:w.heap.size≤p1:=(by first|omega|exact au (Below.size (B:=w.heap.size) aI) aJ2)
 
 refine dU rfl (fun p2 w7 hw7 aJ1 bc7 aX0 JY=>?_);go_simp;replace JY:aA _ _ _ _:=JY;have bj2:w.heap.size≤p2:=(by first|omega|exact au (Below.size (B:=w.heap.size) aI) aJ1);replace Ab:=aA.later (Ab) hw7;replace ag7:=Ab.cell;replace ag3:=Ab.free;replace af3:=Ab.lt;refine cZ [_,_] rfl (fun w8 o7=>?_);replace Ab:=aA.later (Ab) o7;replace ag7:=Ab.cell;replace ag3:=Ab.free;replace af3:=Ab.lt;replace JY:=aA.later (JY) o7;replace aL1:=JY.cell;replace aK2:=JY.free;replace aF0:=JY.lt;have h68:Bw w6 w8:=aI;have n12:p1≠p2:=fun e=>aX0 (by simp [e]);have n21:p2≠p1:=fun e=>n12 e.symm;have ge1:w6.heap.size≤p1:=aJ2;have ge2:w6.heap.size≤p2:=aJ1;have Q0:∀ (fn:Fn) (first cap:Array Value) (w:World),(Instr.makeFunc fn first cap).run Tryz.prog w= .ok (.func fn first cap) w:=fun _ _ _ _=>rfl
 have haz:=fun w'=>PS fa HFA.out w';rw [Ef.out] at haz;have HAZ:=zh haz;unfold light.ig.v light.ig.cells at HAZ;obtain ⟨wn,Ewn⟩:∃ y,((((((((((((w8.setCell ⟨p1,0,none⟩ (O f1)).setCell ⟨p1,1,none⟩ (O f2)).setCell ⟨p1,2,none⟩ (O f3)).setCell ⟨p1,3,none⟩ (O f4)).setCell ⟨p1,4,none⟩ (O f5)).setCell ⟨p1,5,none⟩ (O f6)).setCell ⟨p2,0,none⟩ (O g1)).setCell ⟨p2,1,none⟩ (O g2)).setCell ⟨p2,2,none⟩ (O g3)).setCell ⟨p2,3,none⟩ (O g4)).setCell ⟨p2,4,none⟩ (O g5)).setCell ⟨p2,5,none⟩ (O g6))=y:=⟨_,rfl⟩
 have h6n:Bw w6 wn:=by
  rw [← Ewn];exact (((((((((((h68.setCell ge1 _).setCell ge1 _).setCell ge1 _).setCell ge1 _).setCell ge1 _).setCell ge1 _).setCell ge2 _).setCell ge2 _).setCell ge2 _).setCell ge2 _).setCell ge2 _).setCell ge2 _
 have hX1:aA wn p1 #[O f1,O f2,O f3,O f4,O f5,O f6] 281:=by
  rw [← Ewn];exact (((((((((((Ab.set 0 _).set 1 _).set 2 _).set 3 _).set 4 _).set 5 _).setOther _ n12).setOther _ n12).setOther _ n12).setOther _ n12).setOther _ n12).setOther _ n12
 have hX2:aA wn p2 #[O g1,O g2,O g3,O g4,O g5,O g6] 281:=by
  rw [← Ewn];exact (((((((((((JY.setOther _ n21).setOther _ n21).setOther _ n21).setOther _ n21).setOther _ n21).setOther _ n21).set 0 _).set 1 _).set 2 _).set 3 _).set 4 _).set 5 _
 have qx:=hX1.cell;have qo:=hX1.lt;clear FN h62 h63 h64 h68 haz hb1 hb2 hb3 hb4 o7 cxa cxb lxa lxb;go_wp2_with fail
 clear ag7 ag3 af3 aL1 aK2 aF0 Ab JY Ewn;refine (HAZ.out _).mono ?_;rintro e wz ⟨rfl,hbz⟩;have h6z:Bw w6 wz:=Bt h6n hbz;have hwz:Bw w wz:=Bt h5 h6z
 by_cases hz0:rC fa=true
 ·have HE:Hid (er=7):=zh (by rw [XP.out,if_neg (by rw [HFA.out];simp),if_neg (by rw [HFB.out];simp),if_pos hz0]);rw [hz0];go_wp2_with fail
  refine (iO 7 zd _).mono ?_;rintro e w7 ⟨rfl,rfl⟩;exact ⟨rfl,by rw [HE.out];exact eH.no hwz zd⟩
 have hz1:rC fa=false:=by simpa using hz0
 have HZF:=zh hz1;rw [hz1]
 have XO:Hid (er=if kS qd (fa 0) (fb 0)&&kS qd (fa 1) (fb 1)&&kS qd (fa 2) (fb 2) then 0 else 6):=zh (by
  rw [XP.out,if_neg (by rw [HFA.out];simp),if_neg (by rw [HFB.out];simp),if_neg hz0])
 have Yl:=zh (hX1.later hbz);have HX2:=zh (hX2.later hbz);have HXD:=zh (hxd.later h6z);have HXO:=zh (hxo.later h6z);have HXR:=zh (zm.later h6z);clear hz0 hz1 hX1 hX2 qx qo hxa hxb hxd hxo zm h6n h6z hbz h5 KO HAZ HSA XJ XP;go_wp2_with fail
 have HGK:Hid (∀ k:Nat,k<3→∀ W,Bw wz W→Calls Tryz.prog 220 #[Z I (k:Int),ay (some ⟨p2,0,none⟩),ay (some ⟨p1,0,none⟩),ay (some ⟨w.heap.size+1+1,0,none⟩),ay (some ⟨bo,0,none⟩)] W (eH W (if kS qd (fa k) (fb k) then 0 else 6) (fun v _=>v=(Fr.of (wI qd (fa k) (fb k))).v))):=zh fun k hk W hW=>by
  have hfa:=HFA.out;have hfb:=HFB.out;have hz:=HZF.out;unfold mF at hfa hfb;unfold rC at hz;simp only [aF] at hfa hfb;simp only [Bool.or_eq_false_iff,decide_eq_false_iff_not] at hz;have hx1:=Yl.out.later hW;have hx2:=HX2.out.later hW;have hxd:=HXD.out.later hW;have hxo:=HXO.out.later hW;have e1:(dY fa).cells=#[O f1,O f2,O f3,O f4,O f5,O f6]:=by rw [Ef.out];rfl
  have e2:(dY fb).cells=#[O g1,O g2,O g3,O g4,O g5,O g6]:=by rw [Eg.out];rfl
  rw [← e1] at hx1;rw [← e2] at hx2;have e3:#[Value.string d1,O d2]=#[O (Fr.of qd).n,O (Fr.of qd).d]:=by rw [← HDQ.out]
  have e4:#[Value.string o1,O o2]=#[O (Fr.of 1).n,O (Fr.of 1).d]:=by rw [Eo.out]
  rw [e3] at hxd;rw [e4] at hxo;have hk3:k=0∨k=1∨k=2:=by omega
  refine Z0 p2 p1 _ bo k fb fa qd W hx2 hx1 hxd hxo hk ?_ ?_ ?_ HDO.out (HT.out.later (Bt hwz hW))
  ·rcases hk3 with rfl|rfl|rfl
   ·exact hfb.1.1
   ·exact hfb.1.2
   ·exact hfb.2
  ·rcases hk3 with rfl|rfl|rfl
   ·exact hfa.1.1
   ·exact hfa.1.2
   ·exact hfa.2
  ·rcases hk3 with rfl|rfl|rfl
   ·exact hz.1.1
   ·exact hz.1.2
   ·exact hz.2
 have h0z:Below wz.heap.size wz (wz.alloc (.cells #[O ⟨#[]⟩,O ⟨#[]⟩,O ⟨#[]⟩,O ⟨#[]⟩,O ⟨#[]⟩,O ⟨#[]⟩] 39)):=aI;have HB0:=zh (aA.new wz #[O ⟨#[]⟩,O ⟨#[]⟩,O ⟨#[]⟩,O ⟨#[]⟩,O ⟨#[]⟩,O ⟨#[]⟩] 39);obtain ⟨gq,Egq⟩:∃ y:Nat→Rat,Hid ((fun k:Nat=>wI qd (fa k) (fb k))=y):=⟨_,zh rfl⟩;obtain ⟨ok,Eok⟩:∃ y:Nat→Bool,Hid ((fun k:Nat=>kS qd (fa k) (fb k))=y):=⟨_,zh rfl⟩;have e1:∀ k:Nat,wI qd (fa k) (fb k)=gq k:=fun k=>by rw [← Egq.out]
 have e2:∀ k:Nat,kS qd (fa k) (fb k)=ok k:=fun k=>by rw [← Eok.out]
 simp only [e1,e2] at HGK XO;clear Yl HX2 HXD HXO e1 e2 Eok HFA HFB HZF HDQ HDO Ef Eg Eo Q0
 go_loopw [61] (fun iv wr=>∃ (k:Nat) (s1 s2 s3 s4 s5 s6:ByteArray),iv= Z I (k:Int)∧k≤3∧Hid (aA wr wz.heap.size #[O s1,O s2,O s3,O s4,O s5,O s6] 39)∧Hid ((0<k→(⟨s1,s2⟩:Fr)=Fr.of (gq 0))∧(1<k→(⟨s3,s4⟩:Fr)=Fr.of (gq 1))∧(2<k→(⟨s5,s6⟩:Fr)=Fr.of (gq 2))∧∀ j,j<k→ok j=true)∧Bw wz wr) (fun iv _=>3 - (intOf iv).toNat)
 case atStart=>exact ⟨0,_,_,_,_,_,_,rfl,by omega,HB0,zh ⟨fun h=>by omega,fun h=>by omega,fun h=>by omega,fun j h=>by omega⟩,h0z⟩
 case round =>
  obtain ⟨k,s1,s2,s3,s4,s5,s6,rfl,hk,HB,HK,hb⟩:=hrel;have c14:=HB.out.cell;have l14:=HB.out.lt
  rcases aH k 3 with hlt|hge
  ·have hk3:k=0∨k=1∨k=2:=by omega
   rcases hk3 with rfl|rfl|rfl
   ·have hcall:=HGK.out 0 zo _ hb;have Cj:=zh hcall;clear hcall;go_wp2_with fail
    refine Cj.out.mono ?_;rintro e w2 ⟨hb2,⟨he,v,rfl,rfl⟩|⟨he,rfl⟩⟩
    rotate_left
    ·have hf:ok 0=false:=by
      cases h:ok 0 with
      | false=>rfl
      | true=>rw [h] at he;exact absurd rfl he
     have HE:Hid (er=6):=zh (by rw [XO.out,hf];simp);have ZO:(if ok 0=true then (0:Int) else 6)=6:=by rw [hf];rfl
     rw [ZO];exact ⟨rfl,by rw [HE.out];exact eH.no (Bt (Bt hwz hb) hb2) zd⟩
    have hok:ok 0=true:=by
     cases h:ok 0 with
     | true=>rfl
     | false=>rw [h] at he;cases he
    have XL:=zh hok;obtain ⟨⟨t1,t2⟩,HTE⟩:∃ y:Fr,Hid (y=Fr.of (gq 0)):=⟨_,zh rfl⟩;rw [← HTE.out];unfold Fr.v;have hB2:=HB.out.later hb2;have c2:=hB2.cell;have f2:=hB2.free;clear he hok Cj c14 l14;go_wp2_with fail
    go_roundw
    case rel =>
     refine ⟨0+1,t1,t2,s3,s4,s5,s6,by go_num,by omega,zh ((hB2.set 0 _).set 1 _),zh ⟨fun _=>HTE.out,fun h=>by omega,fun h=>by omega,fun j hj=>?_⟩,((Bt hb hb2).setCell (aC _) _).setCell (aC _) _⟩
     rcases aH j 0 with h|h
     ·exact HK.out.2.2.2 j h
     ·obtain rfl:j=0:=by omega
      exact XL.out
    case measure=>simp [intOf]
   ·have hcall:=HGK.out 1 zo _ hb;have Cj:=zh hcall;clear hcall;go_wp2_with fail
    refine Cj.out.mono ?_;rintro e w2 ⟨hb2,⟨he,v,rfl,rfl⟩|⟨he,rfl⟩⟩
    rotate_left
    ·have hf:ok 1=false:=by
      cases h:ok 1 with
      | false=>rfl
      | true=>rw [h] at he;exact absurd rfl he
     have HE:Hid (er=6):=zh (by rw [XO.out,hf];simp);have ZO:(if ok 1=true then (0:Int) else 6)=6:=by rw [hf];rfl
     rw [ZO];exact ⟨rfl,by rw [HE.out];exact eH.no (Bt (Bt hwz hb) hb2) zd⟩
    have hok:ok 1=true:=by
     cases h:ok 1 with
     | true=>rfl
     | false=>rw [h] at he;cases he
    have XL:=zh hok;obtain ⟨⟨t1,t2⟩,HTE⟩:∃ y:Fr,Hid (y=Fr.of (gq 1)):=⟨_,zh rfl⟩;rw [← HTE.out];unfold Fr.v;have hB2:=HB.out.later hb2;have c2:=hB2.cell;have f2:=hB2.free;clear he hok Cj c14 l14;go_wp2_with fail
    go_roundw
    case rel =>
     refine ⟨1+1,s1,s2,t1,t2,s5,s6,by go_num,by omega,zh ((hB2.set 2 _).set 3 _),zh ⟨fun _=>HK.out.1 zo,fun _=>HTE.out,fun h=>by omega,fun j hj=>?_⟩,((Bt hb hb2).setCell (aC _) _).setCell (aC _) _⟩
     rcases aH j 1 with h|h
     ·exact HK.out.2.2.2 j h
     ·obtain rfl:j=1:=by omega
      exact XL.out
    case measure=>simp [intOf]
   ·have hcall:=HGK.out 2 zo _ hb;have Cj:=zh hcall;clear hcall;go_wp2_with fail
    refine Cj.out.mono ?_;rintro e w2 ⟨hb2,⟨he,v,rfl,rfl⟩|⟨he,rfl⟩⟩
    rotate_left
    ·have hf:ok 2=false:=by
      cases h:ok 2 with
      | false=>rfl
      | true=>rw [h] at he;exact absurd rfl he
     have HE:Hid (er=6):=zh (by rw [XO.out,hf];simp);have ZO:(if ok 2=true then (0:Int) else 6)=6:=by rw [hf];rfl
     rw [ZO];exact ⟨rfl,by rw [HE.out];exact eH.no (Bt (Bt hwz hb) hb2) zd⟩
    have hok:ok 2=true:=by
     cases h:ok 2 with
     | true=>rfl
     | false=>rw [h] at he;cases he
    have XL:=zh hok;obtain ⟨⟨t1,t2⟩,HTE⟩:∃ y:Fr,Hid (y=Fr.of (gq 2)):=⟨_,zh rfl⟩;rw [← HTE.out];unfold Fr.v;have hB2:=HB.out.later hb2;have c2:=hB2.cell;have f2:=hB2.free;clear he hok Cj c14 l14;go_wp2_with fail
    go_roundw
    case rel =>
     refine ⟨2+1,s1,s2,s3,s4,t1,t2,by go_num,by omega,zh ((hB2.set 4 _).set 5 _),zh ⟨fun _=>HK.out.1 zo,fun _=>HK.out.2.1 zo,fun _=>HTE.out,fun j hj=>?_⟩,((Bt hb hb2).setCell (aC _) _).setCell (aC _) _⟩
     rcases aH j 2 with h|h
     ·exact HK.out.2.2.2 j h
     ·obtain rfl:j=2:=by omega
      exact XL.out
    case measure=>simp [intOf]
  ·have hk3:k=3:=by omega
   subst hk3;obtain ⟨q1,q2,q3,q4⟩:=HK.out;have HE:Hid (er=0):=zh (by rw [XO.out,q4 0 zo,q4 1 zo,q4 2 zo];rfl)
   have HTV:Hid ((dY gq).v= aB #[O s1,O s2,O s3,O s4,O s5,O s6]):=zh (by
    unfold dY;rw [← q1 zo,← q2 zo,← q3 zo];rfl)
   have hr:=HXR.out.later hb;have cr:=hr.cell;have fr:=hr.free;have HGQ:Hid ((fun i=>wI qd (fa i) (fb i))=gq):=Egq;clear q1 q2 q3 q4;go_wp2_with fail
   refine gG rfl rfl ((((((hr.set 0 _).set 1 _).set 2 _).set 3 _).set 4 _).set 5 _) Tryz.underlying39 rfl zk ?_;rw [HE.out,HGQ.out];refine eH.yes ?_ (by show _=(dY gq).v;rw [HTV.out];rfl);have hww:=Bt hwz hb;have hsz:w.heap.size≤w.heap.size+1+1+1:=by omega
   exact (((((hww.setCell hsz _).setCell hsz _).setCell hsz _).setCell hsz _).setCell hsz _).setCell hsz _
def GA (w:World) (pk pa pb pd:Nat) (k:Int) (a b:light.ig) (d:Fr):Prop:=aA w pk #[Z I k] 3∧aA w pa a.cells 40∧aA w pb b.cells 40∧aA w pd #[O d.n,O d.d] 38
theorem GA.later {w w':World} {pk pa pb pd:Nat} {k:Int} {a b:light.ig} {d:Fr} (h:GA w pk pa pb pd k a b d) (hb:Bw w w'):GA w' pk pa pb pd k a b d:=⟨h.1.later hb,h.2.1.later hb,h.2.2.1.later hb,h.2.2.2.later hb⟩
theorem Tf (pk pa pb pd:Nat) (k:Int) (a b:light.ig) (d:Fr) (w:World) (h:GA w pk pa pb pd k a b d) (ht:ko.Pow w) (hc:kX w) :
  Calls Tryz.prog 143 #[ay (some ⟨pk,0,none⟩),ay (some ⟨pa,0,none⟩),ay (some ⟨pb,0,none⟩),ay (some ⟨pd,0,none⟩)] w (eH w (oF k a b d) (fun v _=>v=(dY (sG k a b d)).v)):=by
 have HG:=zh (fun w' (hb:Bw w w')=>WO k a b d w' (ht.later hb) (hc.later hb));obtain ⟨er,Eer⟩:∃ y,Hid (oF k a b d=y):=⟨_,zh rfl⟩;obtain ⟨⟨⟨q1,q2⟩,⟨q3,q4⟩,⟨q5,q6⟩⟩,EG⟩:∃ y:light.ig,Hid (dY (sG k a b d)=y):=⟨_,zh rfl⟩;rw [Eer.out,EG.out] at HG ⊢;obtain ⟨hk,ha,hb,hd⟩:=h;obtain ⟨⟨a1,a2⟩,⟨a3,a4⟩,⟨a5,a6⟩⟩:=a;obtain ⟨⟨b1,b2⟩,⟨b3,b4⟩,⟨b5,b6⟩⟩:=b;obtain ⟨d1,d2⟩:=d;unfold light.ig.v light.ig.cells Fr.v at HG;unfold light.ig.cells at ha hb;have ck:=hk.cell;have ca:=ha.cell;have cb:=hb.cell;have cd:=hd.cell;have lk:=hk.lt;have la:=ha.lt;have lb:=hb.lt;have ld:=hd.lt;clear ht hc hk ha hb hd Eer EG;have hb0:Below w.heap.size w (w.alloc (.cells #[O ⟨#[]⟩,O ⟨#[]⟩,O ⟨#[]⟩,O ⟨#[]⟩,O ⟨#[]⟩,O ⟨#[]⟩] 39)):=aI;have hr0:=aA.new w #[O ⟨#[]⟩,O ⟨#[]⟩,O ⟨#[]⟩,O ⟨#[]⟩,O ⟨#[]⟩,O ⟨#[]⟩] 39
 go_enter Tryz.func143,Tryz.ntmps143
 go_wp2_with fail
 refine (HG.out _ hb0).mono ?_;rintro e w1 ⟨hb1,⟨rfl,v,rfl,rfl⟩|⟨he,rfl⟩⟩
 ·have hr1:=hr0.later hb1;have cr:=hr1.cell;have fr:=hr1.free;go_wp2_with fail
  refine gG rfl rfl ((((((hr1.set 0 _).set 1 _).set 2 _).set 3 _).set 4 _).set 5 _) Tryz.underlying39 rfl zk ?_;have hw:=Bt hb0 hb1;have hsz:w.heap.size≤w.heap.size:=aC _;exact eH.yes ((((((hw.setCell hsz _).setCell hsz _).setCell hsz _).setCell hsz _).setCell hsz _).setCell hsz _) rfl
 ·exact ⟨rfl,eH.no (Bt hb0 hb1) he⟩
theorem XU (k:Int) (a b:light.ig) (d:Fr) (w:World) (ht:ko.Pow w) (hc:kX w) :
  Calls Tryz.prog 81 #[Z I k,a.v,b.v,d.v] w (xJ w (oF k a b d) (dY (sG k a b d))):=by
 have Q0:∀ (fn:Fn) (first cap:Array Value) (w:World),(Instr.makeFunc fn first cap).run Tryz.prog w= .ok (.func fn first cap) w:=fun _ _ _ _=>rfl;obtain ⟨w0,rV⟩:∃ y,((((w.alloc (.cells #[Z I k] 3)).alloc (.cells a.cells 40)).alloc (.cells b.cells 40)).alloc (.cells #[O d.n,O d.d] 38)).alloc (.cells #[O ⟨#[]⟩,O ⟨#[]⟩,O ⟨#[]⟩,O ⟨#[]⟩,O ⟨#[]⟩,O ⟨#[]⟩] 39)=y:=⟨_,rfl⟩;have hb0:Bw w w0:=by rw [← rV];exact aI
 have hA:GA w0 w.heap.size (w.heap.size+1) (w.heap.size+1+1) (w.heap.size+1+1+1) k a b d:=by
  rw [← rV];exact ⟨bq,bq,bq,(aA.at3 _ _ _ _ _ _).alloc _⟩
 have hr0:aA w0 (w.heap.size+1+1+1+1) #[O ⟨#[]⟩,O ⟨#[]⟩,O ⟨#[]⟩,O ⟨#[]⟩,O ⟨#[]⟩,O ⟨#[]⟩] 39:=by rw [← rV];exact aA.yO zi
 obtain ⟨er,Eer⟩:∃ y,Hid (oF k a b d=y):=⟨_,zh rfl⟩;obtain ⟨g,Eg⟩:∃ y:light.ig,Hid (dY (sG k a b d)=y):=⟨_,zh rfl⟩
 have hat:=Nl 143 #[ay (some ⟨w.heap.size,0,none⟩),ay (some ⟨w.heap.size+1,0,none⟩),ay (some ⟨w.heap.size+1+1,0,none⟩),ay (some ⟨w.heap.size+1+1+1,0,none⟩)] (oF k a b d) (dY (sG k a b d)) w0
  (fun W hW=>Tf _ _ _ _ k a b d W (hA.later hW) ((ht.later hb0).later hW) ((hc.later hb0).later hW)) (fun args W=>enters_of Tryz.func143 zk rfl args W)
 rw [Eer.out,Eg.out] at hat ⊢;have HAT:=zh hat;obtain ⟨gg,Egg⟩:∃ y:light.ig,Hid ((if er=0 then g else VA)=y):=⟨_,zh rfl⟩;obtain ⟨⟨a1,a2⟩,⟨a3,a4⟩,⟨a5,a6⟩⟩:=a;obtain ⟨⟨b1,b2⟩,⟨b3,b4⟩,⟨b5,b6⟩⟩:=b;obtain ⟨d1,d2⟩:=d;unfold light.ig.cells at rV;simp only at rV;have HR:Hid (xJ w er g=fun e w'=>Bw w w'∧e= aj (aD #[gg.v,Z I er])):=zh (by unfold xJ;rw [Egg.out]);have HR0:Hid (xJ w0 er g=fun e w'=>Bw w0 w'∧e= aj (aD #[gg.v,Z I er])):=zh (by unfold xJ;rw [Egg.out]);rw [HR.out];rw [HR0.out] at HAT;obtain ⟨⟨g1,g2⟩,⟨g3,g4⟩,⟨g5,g6⟩⟩:=gg;unfold light.ig.v light.ig.cells at HAT ⊢;clear hat ht hc hA HR HR0 Egg Eer Eg;go_enter Tryz.func81,Tryz.ntmps81
 unfold Fr.v;go_wp2_with fail
 clear rV;refine HAT.out.mono ?_;rintro e w1 ⟨hb1,rfl⟩;have hr1:=hr0.later hb1;have cr:=hr1.cell;have fr:=hr1.free;clear HAT;go_wp2_with fail
 refine bX rfl rfl ((((((hr1.set 0 _).set 1 _).set 2 _).set 3 _).set 4 _).set 5 _) Tryz.underlying39 rfl zk ?_;have hw:=Bt hb0 hb1;have hsz:w.heap.size≤w.heap.size+1+1+1+1:=by omega
 exact ⟨(((((hw.setCell hsz _).setCell hsz _).setCell hsz _).setCell hsz _).setCell hsz _).setCell hsz _,rfl⟩
end Go.Proofs.adapt
