/- Lemmas for the proof. No condition. -/
import Derived.Test.YtbngfhgoeoncmaaGreatDoorTB33
set_option linter.unusedVariables false
set_option linter.unusedSimpArgs false
set_option maxRecDepth 100000
set_option maxHeartbeats 16000000
open Go.IntKind renaming i64 → I
open Go.Value renaming agg → aB, int → Z, pointer → au, string → O, tuple → aF
open Nat renaming le_refl → aG, le_trans → ay
namespace Go.Proofs.adapt
open Go Go.RowKit Go.SW Go.Num Go.Mem Go.Proofs Go.Dec Go.d9
def uW (d p q:Rat):Rat:=d*(q / p)+(1 - d)
def jI (d p q:Rat):Bool:=iG (q / p)&&iG (d*(q / p))&&iG (1 - d)&&iG (uW d p q)
theorem uH (q:Rat):(iG q=true∧∃ s t,Fr.of q=⟨s,t⟩∧Fr.res (d9.wr q)= aF #[aB #[O s,O t],Z I 0])∨(iG q=false∧Fr.res (d9.wr q)= aF #[aB #[O ⟨#[]⟩,O ⟨#[]⟩],Z I 6]):=by
 cases h:iG q with
 | false=>exact .inr ⟨rfl,qQ h⟩
 | true=>exact .inl ⟨rfl,(Fr.of q).n,(Fr.of q).d,rfl,by unfold d9.wr;rw [if_pos h];rfl⟩
theorem TJ {p q:Rat} (hp:iG p=true) (hq:iG q=true) (h0:q≠0):uX (Fr.of p) (Fr.of q)=d9.wr (p / q):=by
 unfold uX;rw [mP (mF hp) (mF hq),if_neg h0]
theorem SI {p q:Rat} (hp:iG p=true) (hq:iG q=true):vT (Fr.of p) (Fr.of q)=d9.wr (p*q):=mP (mF hp) (mF hq)
theorem Ub {p q:Rat} (hp:iG p=true) (hq:iG q=true):Dz (Fr.of p) (Fr.of q)=d9.wr (p+q):=mP (mF hp) (mF hq)
theorem RN {p q:Rat} (hp:iG p=true) (hq:iG q=true):Im (Fr.of p) (Fr.of q)=d9.wr (p - q):=mP (mF hp) (mF hq)
theorem Tw (bs bf bd bo k:Nat) (g2 g1:Nat→Rat) (d:Rat) (w:World) (hs:aA w bs (kJ g2).cells 281) (hf:aA w bf (kJ g1).cells 281)
  (hd:aA w bd #[O (Fr.of d).n,O (Fr.of d).d] 38) (ho:aA w bo #[O (Fr.of 1).n,O (Fr.of 1).d] 38)
  (hk:k<3) (h2:iG (g2 k)=true) (h1:iG (g1 k)=true) (h0:g1 k≠0) (hdk:iG d=true) (ht:iA.Pow w) :
  Calls Tryz.prog 220 #[Z I (k:Int),au (some ⟨bs,0,none⟩),au (some ⟨bf,0,none⟩),au (some ⟨bd,0,none⟩),au (some ⟨bo,0,none⟩)] w
   (dD w (if jI d (g1 k) (g2 k) then 0 else 6) (fun v _=>v=(Fr.of (uW d (g1 k) (g2 k))).v)):=by
 have hk3:k=0∨k=1∨k=2:=by omega
 have c2a:w.cell? ⟨bs,k*2,none⟩=some (.string (Fr.of (g2 k)).n):=by rw [hs.cell];rcases hk3 with rfl|rfl|rfl<;>rfl
 have c2b:w.cell? ⟨bs,k*2+1,none⟩=some (.string (Fr.of (g2 k)).d):=by rw [hs.cell];rcases hk3 with rfl|rfl|rfl<;>rfl
 have c1a:w.cell? ⟨bf,k*2,none⟩=some (.string (Fr.of (g1 k)).n):=by rw [hf.cell];rcases hk3 with rfl|rfl|rfl<;>rfl
 have c1b:w.cell? ⟨bf,k*2+1,none⟩=some (.string (Fr.of (g1 k)).d):=by rw [hf.cell];rcases hk3 with rfl|rfl|rfl<;>rfl
 have hdiv:=fun w' hb=>dw.wC (Fr.of (g2 k)) (Fr.of (g1 k)) w' (ht.later hb);rw [TJ h2 h1 h0] at hdiv;have h11:iG 1=true:=by decide+kernel
 have hmul:=fun (x:Rat) (hx:iG x=true) w' hb=>(SI hdk hx) ▸ dw.wu (Fr.of d) (Fr.of x) w' (ht.later hb);have hsub:=fun w' hb=>dw.QI (Fr.of 1) (Fr.of d) w' (ht.later hb);rw [RN h11 hdk] at hsub;have hadd:=fun (x y:Rat) (hx:iG x=true) (hy:iG y=true) w' hb=>(Ub hx hy) ▸ dw.DU (Fr.of x) (Fr.of y) w' (ht.later hb);have hg:uW d (g1 k) (g2 k)=d*(g2 k / g1 k)+(1 - d):=rfl;have hgo:jI d (g1 k) (g2 k)=(iG (g2 k / g1 k)&&iG (d*(g2 k / g1 k))&&iG (1 - d)&&iG (d*(g2 k / g1 k)+(1 - d))):=rfl;rw [hg,hgo];generalize g2 k / g1 k=x1 at *;obtain ⟨⟨s1,s2⟩,E1⟩:∃ x:Fr,Hid (Fr.of (g2 k)=x):=⟨_,zh rfl⟩;obtain ⟨⟨t1,t2⟩,E2⟩:∃ x:Fr,Hid (Fr.of (g1 k)=x):=⟨_,zh rfl⟩;obtain ⟨⟨d1,d2⟩,E3⟩:∃ x:Fr,Hid (Fr.of d=x):=⟨_,zh rfl⟩;obtain ⟨⟨o1,o2⟩,E4⟩:∃ x:Fr,Hid (Fr.of 1=x):=⟨_,zh rfl⟩;rw [E1.out] at c2a c2b hdiv;rw [E2.out] at c1a c1b hdiv;rw [E3.out] at hd hmul hsub
 rw [E4.out] at ho hsub;have l2:=hs.lt;have l1:=hf.lt;have cd:=hd.cell;have ld:=hd.lt;have co:=ho.cell;have lo:=ho.lt;have hkk:(k:Int)<3:=by omega
 have ap0:=zh hdiv;have ag9:=zh hmul;have ao6:=zh hsub;have ah1:=zh hadd;obtain ⟨er,Ld⟩:∃ y:Int,Hid ((if (iG x1&&iG (d*x1)&&iG (1 - d)&&iG (d*x1+(1 - d))) then 0 else 6)=y):=⟨_,zh rfl⟩;have HDK:=zh hdk;rw [Ld.out];clear hs hf hk3 hdiv hmul hsub hadd hg hgo h11 h0 h1 h2 hdk ht;go_enter Tryz.func220,Tryz.ntmps220
 go_wp2_with fail
 refine aQ [(.pure,0),(.pure,1),(.pure,2),(.read,3),(.pure,4),(.pure,5),(.pure,6),(.read,7),(.ext,8),(.pure,9),(.pure,10),(.ext,11),(.alloc #[O ⟨#[]⟩,O ⟨#[]⟩] 38,12),(.fin,13)] zk zk zR zP ?_;refine zV ?_;have hA0:Below w.heap.size w (w.alloc (.cells #[O ⟨#[]⟩,O ⟨#[]⟩] 38)):=aO;have hr0:=aA.new w #[O ⟨#[]⟩,O ⟨#[]⟩] 38;refine aN rfl rfl (fun w1 hb1 J hJ=>?_);go_simp;have hr1:=hr0.drew.later hb1;have h1:Below w.heap.size w w1:=aO;refine (ap0.out w1 h1).mono ?_;rintro e w2 ⟨rfl,hb2⟩;refine hJ _ _ hb2 ?_;clear hJ J;have h2:Below w.heap.size w w2:=Bt h1 hb2;replace hr1:=hr1.later hb2
 rcases uH x1 with ⟨hx1,u1,u2,eu,hres⟩|⟨hx1,hres⟩
 rotate_left
 ·have Yk:Hid (er=6):=zh (by rw [← Ld.out,hx1];rfl);rw [hres];clear hx1;refine zV ?_;refine aN rfl rfl (fun w3 hb3 J hJ=>?_);go_simp;refine (r9 Fr.no 6 zd w3).mono ?_;rintro e w4 ⟨rfl,hb4⟩;exact ⟨rfl,by rw [Yk.out];exact dD.no (Bt (Bt h2 hb3) hb4) zd⟩
 have Rl:=zh hx1;have hmul:=ag9.out x1 hx1;rw [eu] at hmul;have HMU:=zh hmul;rw [hres];clear eu hx1 hres hmul ag9;refine zV ?_;refine aN rfl rfl (fun w3 hb3 J hJ=>?_);go_simp;refine (oW ⟨u1,u2⟩ w3).mono ?_;unfold Fr.v;rintro e w4 ⟨rfl,hb4⟩;refine hJ _ _ hb4 ?_;clear hJ J;have h24:Below w2.heap.size w2 w4:=Bt hb3 hb4;have h4:Below w.heap.size w w4:=Bt h2 h24;replace hr1:=hr1.later h24;refine zV ?_;refine fE rfl (fun b12 w5 UL PX ak6 aq6 uT=>?_);go_simp;replace uT:aA _ _ _ _:=uT;have aq5:w.heap.size≤b12:=(by first|omega|exact ay (Below.size (B:=w.heap.size) aO) PX);refine bT [_] rfl (fun w6 hb6=>?_);replace uT:=aA.later (uT) hb6;replace Xy:=uT.cell;replace Xi:=uT.free;replace Wx:=uT.lt;have h46:Below w4.heap.size w4 w6:=aO;have h6:Below w.heap.size w w6:=Bt h4 h46;replace hr1:=hr1.later h46
 have hNe:w.heap.size+1≤b12:=PX;have hne:w.heap.size≠b12:=by omega
 have hd6:=hd.later h6;have ho6:=ho.later h6;have cd6:=hd6.cell;have co6:=ho6.cell;have ned:bd≠b12:=by omega
 have neo:bo≠b12:=by omega
 clear hb1 hb2 hb3 hb4 hb6 h1 h2 h24 h46 h4 c2a c2b c1a c1b PX;go_wp2_with fail
 obtain ⟨w7,E7⟩:∃ y,(w6.setCell ⟨b12,0,none⟩ (O u1)).setCell ⟨b12,1,none⟩ (O u2)=y:=⟨_,rfl⟩
 have h7:Below w.heap.size w w7:=by
  rw [← E7];have:w.heap.size≤b12:=by omega
  exact (h6.setCell this _).setCell this _
 have hp7:aA w7 b12 #[O u1,O u2] 38:=by rw [← E7];exact (uT.set 0 _).set 1 _
 have hr7:aA w7 w.heap.size #[O ⟨#[]⟩,O ⟨#[]⟩] 38:=by rw [← E7];exact (hr1.setOther _ hne).setOther _ hne
 have hd7:aA w7 bd #[O d1,O d2] 38:=by rw [← E7];exact (hd6.setOther _ ned).setOther _ ned
 have ho7:aA w7 bo #[O o1,O o2] 38:=by rw [← E7];exact (ho6.setOther _ neo).setOther _ neo
 rw [E7];clear E7 hd6 ho6 cd6 co6 uT Xy Xi Wx hr1 h6 cd co;refine (HMU.out w7 h7).mono ?_;rintro e w8 ⟨rfl,xI⟩;have h8:Below w.heap.size w w8:=Bt h7 xI
 rcases uH (d*x1) with ⟨hx2,v1,v2,eu,hres⟩|⟨hx2,hres⟩
 rotate_left
 ·have Yk:Hid (er=6):=zh (by rw [← Ld.out,hx2];simp);rw [hres];clear hx2;go_wp2_with fail
  refine (r9 Fr.no 6 zd _).mono ?_;rintro e w9 ⟨rfl,xZ⟩;exact ⟨rfl,by rw [Yk.out];exact dD.no (Bt h8 xZ) zd⟩
 have hadd:=fun y hy=>ah1.out (d*x1) y hx2 hy;rw [eu] at hadd;have HAD:=zh hadd;have YS:=zh hx2;rw [hres];clear eu hx2 hres hadd ah1;go_wp2_with fail
 refine (oW ⟨v1,v2⟩ _).mono ?_;unfold Fr.v;rintro e w9 ⟨rfl,xZ⟩;have YI:Below w7.heap.size w7 w9:=Bt xI xZ;have hp9:=hp7.later YI;have cp9:=hp9.cell;have fp9:=hp9.free;have hr9:=hr7.later YI;have hd9:=hd7.later YI;have ho9:=ho7.later YI;have h9:Below w.heap.size w w9:=Bt h7 YI;have hge:w.heap.size≤b12:=by omega
 clear hp7 hr7 hd7 ho7 YI xI xZ h8 h7;go_wp2_with fail
 obtain ⟨wa,Ea⟩:∃ y,(w9.setCell ⟨b12,0,none⟩ (O v1)).setCell ⟨b12,1,none⟩ (O v2)=y:=⟨_,rfl⟩
 have ha:Below w.heap.size w wa:=by
  rw [← Ea];exact (h9.setCell hge _).setCell hge _
 have hpa:aA wa b12 #[O v1,O v2] 38:=by rw [← Ea];exact (hp9.set 0 _).set 1 _
 have hra:aA wa w.heap.size #[O ⟨#[]⟩,O ⟨#[]⟩] 38:=by rw [← Ea];exact (hr9.setOther _ hne).setOther _ hne
 have hda:aA wa bd #[O d1,O d2] 38:=by rw [← Ea];exact (hd9.setOther _ ned).setOther _ ned
 have hoa:aA wa bo #[O o1,O o2] 38:=by rw [← Ea];exact (ho9.setOther _ neo).setOther _ neo
 rw [Ea];have cpa:=hpa.cell;have lpa:=hpa.lt;have cda:=hda.cell;have lda:=hda.lt;have coa:=hoa.cell;have loa:=hoa.lt;clear Ea hp9 cp9 fp9 hr9 hd9 ho9 h9;refine aQ [(.read,0),(.read,1),(.read,2),(.ext,3),(.pure,4),(.pure,5),(.ext,6),(.ext,7),(.pure,8),(.pure,9),(.ext,10),(.fin,11)] zk zk zR zP ?_;refine zV ?_;refine aN rfl rfl (fun w1 hb1 J hJ=>?_);go_simp;have zZ:=hra.drew.later hb1;have h1:Below w.heap.size w w1:=aO;refine (ao6.out w1 h1).mono ?_;rintro e w2 ⟨rfl,hb2⟩;refine hJ _ _ hb2 ?_;clear hJ J;have h2:Below w.heap.size w w2:=Bt h1 hb2;replace zZ:=zZ.later hb2
 rcases uH (1 - d) with ⟨hx3,p1,p2,eu,hres⟩|⟨hx3,hres⟩
 rotate_left
 ·have Yk:Hid (er=6):=zh (by rw [← Ld.out,hx3];simp);rw [hres];clear hx3;refine zV ?_;refine aN rfl rfl (fun w3 hb3 J hJ=>?_);go_simp;refine (r9 Fr.no 6 zd w3).mono ?_;rintro e w4 ⟨rfl,hb4⟩;exact ⟨rfl,by rw [Yk.out];exact dD.no (Bt (Bt h2 hb3) hb4) zd⟩
 have hadd:=HAD.out (1 - d) hx3;rw [eu] at hadd;have ap2:=zh hadd;have QN:=zh hx3;rw [hres];clear eu hx3 hres hadd HAD;refine zV ?_;refine aN rfl rfl (fun w3 hb3 J hJ=>?_);go_simp;refine (oW ⟨p1,p2⟩ w3).mono ?_;unfold Fr.v;rintro e w4 ⟨rfl,hb4⟩;refine hJ _ _ hb4 ?_;clear hJ J;have h4:Below w.heap.size w w4:=Bt h2 (Bt hb3 hb4);replace zZ:=zZ.later (Bt hb3 hb4);refine zV ?_;refine aN rfl rfl (fun w5 hb5 J hJ=>?_);go_simp;have h5:Below w.heap.size w w5:=Bt h4 hb5;refine (ap2.out w5 h5).mono ?_;rintro e w6' ⟨rfl,hb6⟩;refine hJ _ _ hb6 ?_;clear hJ J;have h6:Below w.heap.size w w6':=Bt h5 hb6;replace zZ:=zZ.later (Bt hb5 hb6)
 rcases uH (d*x1+(1 - d)) with ⟨hx4,q1,q2,eu,hres⟩|⟨hx4,hres⟩
 rotate_left
 ·have Yk:Hid (er=6):=zh (by rw [← Ld.out,hx4];simp);rw [hres];clear hx4;refine zV ?_;refine aN rfl rfl (fun w3 hb3 J hJ=>?_);go_simp;refine (r9 Fr.no 6 zd w3).mono ?_;rintro e w4 ⟨rfl,hb4⟩;exact ⟨rfl,by rw [Yk.out];exact dD.no (Bt (Bt h6 hb3) hb4) zd⟩
 have HE0:Hid (er=0):=zh (by rw [← Ld.out,Rl.out,YS.out,QN.out,hx4];rfl);have HEQ:=zh eu;rw [hres];clear eu hx4 hres;refine zV ?_;refine aN rfl rfl (fun w7' mJ J hJ=>?_);go_simp;refine (oW ⟨q1,q2⟩ w7').mono ?_;unfold Fr.v;rintro e w8' ⟨rfl,xI⟩;refine hJ _ _ xI ?_;clear hJ J;refine zV ?_;refine bT [_] rfl (fun wz xZ=>?_);have h69:Below w6'.heap.size w6' wz:=aO;replace zZ:=zZ.later h69;have cra:=zZ.cell;have fra:=zZ.free;have h9:Below w.heap.size w wz:=Bt h6 h69;clear hb1 hb2 hb3 hb4 hb5 hb6 mJ xI xZ h1 h2 h4 h5 h6 h69;go_wp2_with fail
 refine iX rfl rfl ((zZ.set 0 _).set 1 _) Tryz.underlying38 rfl zk ?_;rw [HE0.out];exact dD.yes ((h9.setCell (aG _) _).setCell (aG _) _) (by rw [HEQ.out];rfl)
end Go.Proofs.adapt
