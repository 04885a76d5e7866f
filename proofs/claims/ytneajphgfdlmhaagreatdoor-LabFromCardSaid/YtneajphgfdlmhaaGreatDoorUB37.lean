/- Lemmas for the proof. No condition. -/
import Derived.Test.YtneajphgfdlmhaaGreatDoorUB11
import Derived.Test.YtneajphgfdlmhaaGreatDoorUB36
set_option linter.unusedVariables false
set_option linter.unusedSimpArgs false
set_option maxRecDepth 100000
set_option maxHeartbeats 16000000
open Go.Ending renaming returned → ah
open Go.IntKind renaming i64 → I
open Go.Value renaming agg → au, bool → ak, int → Z, slice → aj, tuple → aD
open Nat renaming div_add_mod → dB, le_refl → aC, le_trans → ay, lt_of_lt_of_le → aI, mod_lt → fI
namespace Go.Proofs.aF
open Go Go.RowKit Go.SW Go.Num Go.Mem Go.Proofs
theorem R5 {a b:Int} (ha:a<0) (hb:0<b) (h:¬ b ∣ a):jh (a.natAbs / b.natAbs) true= -((a.natAbs / b.natAbs:Nat):Int)∧jh (a.natAbs%b.natAbs) true= -((a.natAbs%b.natAbs:Nat):Int)∧0<a.natAbs%b.natAbs∧a / b= -((a.natAbs / b.natAbs:Nat):Int) - 1∧a%b= -((a.natAbs%b.natAbs:Nat):Int)+b:=by
 obtain ⟨n,rfl⟩:∃ n:Nat,a= -(n:Int):=⟨a.natAbs,by omega⟩;obtain ⟨d,rfl⟩:∃ d:Nat,b=(d:Int):=⟨b.natAbs,by omega⟩;rw [Int.natAbs_neg,Int.natAbs_natCast,Int.natAbs_natCast];have hm:n%d≠0:=fun e=>h (Int.dvd_neg.2 (Int.natCast_dvd_natCast.2 (Nat.dvd_of_mod_eq_zero e)));have hlt:=fI n (show 0<d by omega);have Np:=dB n d
 have e1: -(n:Int)=(d:Int)*(-((n / d:Nat):Int) - 1)+((d:Int) - ((n%d:Nat):Int)):=by
  have:(n:Int)=(d:Int)*((n / d:Nat):Int)+((n%d:Nat):Int):=by exact_mod_cast Np.symm
  rw [this];grind
 refine ⟨by unfold jh;simp,by unfold jh;simp,by omega,?_,?_⟩
 ·rw [e1,Int.add_comm,Int.add_mul_ediv_left _ _ zo,Int.ediv_eq_zero_of_lt zo zo];omega
 ·rw [e1,Int.add_comm,Int.add_mul_emod_self_left,Int.emod_eq_of_lt zo zo];omega
def XA (w:World) (z:Int) (e:Ending) (w':World):Prop:=∃ b pa l ca,e= ah (au #[ak b,aj pa l ca])∧Below w.heap.size w w'∧Pl w' (au #[ak b,aj pa l ca]) z
theorem ad4 {w:World} {z:Int} {e:Ending} {w':World} (h:∃ v',e= ah v'∧Below w.heap.size w w'∧Pl w' v' z):XA w z e w':=by
 obtain ⟨v,rfl,h,hv⟩:=h;obtain ⟨b,pa,l,ca,rfl⟩:=hv.agg;exact ⟨b,pa,l,ca,rfl,h,hv⟩
theorem ZY (x y:Value) (a b:Int) (w:World) (hx:Pl w x a) (hy:Pl w y b) (ha:sz 10000 a.natAbs≤549755813888) (hb:sz 10000 b.natAbs≤549755813888):Calls Tryz.prog 279 #[x,y] w (XA w (a+b)):=(qX x y a b w hx hy ha hb).mono fun _ _ h=>ad4 h
theorem XE (x y:Value) (a b:Int) (w:World) (hx:Pl w x a) (hy:Pl w y b) (ha:sz 10000 a.natAbs≤549755813888) (hb:sz 10000 b.natAbs≤549755813888):Calls Tryz.prog 301 #[x,y] w (XA w (a - b)):=(oV x y a b w hx hy ha hb).mono fun _ _ h=>ad4 h
theorem UY {n:Nat} {k:Nat} (h:sz 10000 n≤k):sz 10000 (-(n:Int)).natAbs≤k:=by rwa [Int.natAbs_neg,Int.natAbs_natCast]
theorem af4:sz 10000 (1:Int).natAbs≤549755813888:=by decide+kernel
theorem TW (x y:Value) (a b:Int) (w:World) (hx:Pl w x a) (hy:Pl w y b) (ha:sz 10000 a.natAbs≤274877906944) (hb:sz 10000 b.natAbs≤274877906944) (ha0:a<0) (hb0:0<b) (hd:¬ b ∣ a) :
  Calls Tryz.prog 262 #[x,y] w (uf w (a / b) (a%b)):=by
 obtain ⟨bA,mK,lA,mP,rfl⟩:=hx.agg;obtain ⟨bB,pz,lB,pF,rfl⟩:=hy.agg;obtain ⟨nA,eA⟩:=hx.nm;obtain ⟨nB,eB⟩:=hy.nm;have hbf:bB=false:=by rw [eB];simp;omega
 subst hbf;have hbt:bA=true:=by rw [eA];simp;omega
 subst hbt;obtain ⟨s1,s2,s3,s4,s5⟩:=R5 ha0 hb0 hd;have hqz:sz 10000 (a.natAbs / b.natAbs)≤549755813888:=ay (fB zo (Nat.div_le_self _ _)) zo;have hrz:sz 10000 (a.natAbs%b.natAbs)≤549755813888:=ay (fB zo (Nat.mod_le _ _)) zo;have uw:=zh nA;have zA:=zh nB;have NBp:=zh hy;have KA:=zh ha;have KB:=zh hb;have H0:Hid (0<b.natAbs):=zh zo;have HS1:=zh s1;have HS2:=zh s2;have HS3:=zh s3;have HQ:=zh hqz;have HRz:=zh hrz;rw [s4,s5];clear hx hy ha hb hb0 ha0 hd nA nB eA eB s1 s2 s3 s4 s5 hqz hrz;go_enter Tryz.func262,Tryz.ntmps262
 go_wp2_with fail
 obtain ⟨oC,EW,hz,X1,X2,X3,X4⟩:=al4 w #[ak true,aj mK lA mP] 161 #[ak false,aj pz lB pF] 161 #[ak false,aj none 0 0] 161 #[ak false,aj none 0 0] 161;rw [EW];have hk2:=Bt (Below.refl _ _) hz;clear EW hz;refine (CO _ _ _ _ _ (uw.out.later hk2) (zA.out.later hk2) H0.out KA.out KB.out).mono ?_;rintro e pG ⟨q,r,rfl,hb3,hq,hr⟩;obtain ⟨paQ,lQ,caQ,rfl⟩:=hq.slice;obtain ⟨YB,lR,ZF,rfl⟩:=hr.slice;replace X1:=X1.bl hb3;replace X2:=X2.bl hb3;replace X3:=X3.bl hb3;replace X4:=X4.bl hb3;have hk5:=Bt hk2 hb3;clear hk2;have NQ:=zh hq;have NR:=zh hr;clear hb3 hq hr;have HL4:=zh X4.out.lt;go_wp2_with fail
 obtain ⟨nK,nI,oq⟩:=X1.clf;obtain ⟨uE,uz,xW⟩:=X2.clf;refine aO [(.pure,0),(.read,1),(.pure,2),(.read,3),(.pure,4),(.pure,5),(.pure,7),(.read,8),(.pure,9),(.ext,6),(.ext,10),(.alloc #[ak false,aj none 0 0] 161,11),(.alloc #[ak false,aj none 0 0] 161,12),(.fin,13),(.fin,14)] zk zk zR zP ?_;refine zV ?_;refine aU rfl rfl (fun G6 hb6 J hJ=>?_);go_simp;have wR:Below pG.heap.size pG G6:=aJ;clear hb6;refine (tJ _ _ _ _ _ (NQ.out.later wR) HS1.out).mono ?_;rintro e wG ⟨v,rfl,kR,tL⟩;obtain ⟨bU,RP,lU,SN,rfl⟩:=tL.agg;refine hJ _ _ kR ?_;clear hJ J;have Di:=Bt wR kR;have NU:=zh tL;clear wR kR tL;refine zV ?_;refine aU rfl rfl (fun Fh uD J hJ=>?_);go_simp;have qg:Below pG.heap.size pG Fh:=Bt Di aJ;replace NU:=zh (NU.out.later (show Below wG.heap.size wG Fh from aJ));clear uD Di
 refine (tJ _ _ _ _ _ (NR.out.later qg) HS2.out).mono ?_;rintro e mQ ⟨v,rfl,jW,hv⟩;obtain ⟨bV,RO,lV,SK,rfl⟩:=hv.agg;have hbv:bV=true:=hv.nm.2.trans (decide_eq_true (by have:=HS3.out;omega));subst hbv;refine hJ _ _ jW ?_;clear hJ J;have qD:=Bt qg jW;replace NU:=zh (NU.out.later jW);have NV:=zh hv;clear qg jW hv;refine zV ?_;refine eX rfl (fun kC av2 Kj mW yL Dx kN=>?_);go_simp;replace kN:aB _ _ _ _:=kN;have Du:w.heap.size≤kC:=(by first|omega|exact ay (Below.size (B:=w.heap.size) aJ) mW);refine eX rfl (fun nL aE1 Ki rA Iz Dw tK=>?_);go_simp;replace tK:aB _ _ _ _:=tK;have Nt:w.heap.size≤nL:=(by first|omega|exact ay (Below.size (B:=w.heap.size) aJ) rA);replace kN:=aB.later kN Ki;have hne:kC≠nL:=fun h=>Dw (by simp [h])
 have hne2:nL≠kC:=fun h=>hne h.symm;refine dD [_,_] rfl (fun wf hf=>?_);replace NU:=zh (NU.out.later (show Below mQ.heap.size mQ wf from aJ));replace NV:=zh (NV.out.later (show Below mQ.heap.size mQ wf from aJ));have Sm:Below pG.heap.size pG wf:=Bt qD aJ;have hq0:=kN.later hf;have WX:=hq0.cell;have WC:=hq0.free;have hq1:=tK.later hf;have ZC:=hq1.cell;have Zn:=hq1.free;have Y2:=X2.out.later Sm;have c2:=Y2.cell;have l2:=Y2.lt;have hl2:=X2.out.lt;have hl3:=X3.out.lt;have hl4:=HL4.out;have m1:kC≠w.heap.size+1:=by omega
 have m2:nL≠w.heap.size+1:=by omega
 clear kN tK hf qD nK nI oq uE uz xW;go_wp2_with fail
 obtain ⟨w4,EW⟩:∃ y,((((wf.setCell ⟨kC,0,none⟩ (ak bU)).setCell ⟨kC,1,none⟩ (aj RP lU SN)).setCell ⟨nL,0,none⟩ (ak true)).setCell ⟨nL,1,none⟩ (aj RO lV SK))=y:=⟨_,rfl⟩;have hz:Below pG.heap.size pG w4:=by rw [← EW];exact ((((Sm.setCell mW _).setCell mW _).setCell rA _).setCell rA _)
 have X5:Hid (aB w4 kC #[ak bU,aj RP lU SN] 161):=zh (by rw [← EW];exact ((((hq0.set 0 _).set 1 _).setOther _ hne).setOther _ hne));have X6:Hid (aB w4 nL #[ak true,aj RO lV SK] 161):=zh (by rw [← EW];exact ((((hq1.setOther _ hne2).setOther _ hne2).set 0 _).set 1 _));have t:=(NU.out.set2 hq0 zd 0 1 (ak bU) (aj RP lU SN)).set2 ((hq1.setOther (a:=⟨kC,0,none⟩) _ hne2).setOther (a:=⟨kC,1,none⟩) _ hne2) zd 0 1 (ak true) (aj RO lV SK);rw [EW] at t;replace NU:=zh t;clear t;have t:=(NV.out.set2 hq0 zd 0 1 (ak bU) (aj RP lU SN)).set2 ((hq1.setOther (a:=⟨kC,0,none⟩) _ hne2).setOther (a:=⟨kC,1,none⟩) _ hne2) zd 0 1 (ak true) (aj RO lV SK);rw [EW] at t;replace NV:=zh t;clear t;rw [EW];have HB:=zh (Bt hk5 hz);replace X2:=X2.bl hz;replace X3:=X3.bl hz;replace X4:=X4.bl hz;have ay6:w.heap.size≤kC:=by omega
 have ay5:w.heap.size≤nL:=by omega
 have n1:nL≠w.heap.size+1+1:=by omega
 have n2:nL≠w.heap.size+1+1+1:=by omega
 have n3:kC≠w.heap.size+1+1:=by omega
 have n4:kC≠w.heap.size+1+1+1:=by omega
 have NBq:=zh (NBp.out.later HB.out);have K1:sz 10000 b.natAbs≤549755813888:=by have:=KB.out;omega
 clear EW hq0 WX WC hq1 ZC Zn Sm hz uw zA NBp NQ NR X1 hk5 Kj Ki Dx Dw Du Nt mW rA yL Iz Y2 c2 l2 hl2 hl3 hl4 HS1 HS2 HS3 H0 KA KB HL4;refine (ZY _ _ _ _ _ NV.out NBq.out (UY HRz.out) K1).mono ?_;rintro e w5 ⟨bP,Pk,lP,P6,rfl,h,hm⟩;replace X2:=X2.bl h;replace X3:=X3.bl h;replace X4:=X4.bl h;replace X5:=X5.bl h;replace X6:=X6.bl h;replace NU:=zh (NU.out.later h);replace HB:=zh (Bt HB.out h);have NP:=zh hm;clear h hm NV NBq K1;have c6:=X6.out.cell;have f6:=X6.out.free;have Y2:=X2.out;have c2:=Y2.cell;have l2:=Y2.lt;have Y5:=X5.out;have c5:=Y5.cell;have l5:=Y5.lt;go_wp2_with fail
 clear c6 f6 c2 l2 c5 l5;obtain ⟨w6,EW⟩:∃ y,((w5.setCell ⟨nL,0,none⟩ (ak bP)).setCell ⟨nL,1,none⟩ (aj Pk lP P6))=y:=⟨_,rfl⟩;have q6:=X6.out;have q5:=X5.out;have t:=(HB.out.setCell (p:=⟨nL,0,none⟩) ay5 (ak bP)).setCell (p:=⟨nL,1,none⟩) ay5 (aj Pk lP P6);rw [EW] at t;replace HB:=zh t;clear t;have t:=(q6.set 0 (ak bP)).set 1 (aj Pk lP P6);rw [EW] at t;replace X6:Hid (aB w6 nL #[ak bP,aj Pk lP P6] 161):=zh t;clear t;have t:=(q5.setOther (a:=⟨nL,0,none⟩) (ak bP) hne).setOther (a:=⟨nL,1,none⟩) (aj Pk lP P6) hne;rw [EW] at t;replace X5:=zh t;clear t;have t:=(X3.out.setOther (a:=⟨nL,0,none⟩) (ak bP) (Ne.symm n1)).setOther (a:=⟨nL,1,none⟩) (aj Pk lP P6) (Ne.symm n1);rw [EW] at t;replace X3:=zh t;clear t
 have t:=(X4.out.setOther (a:=⟨nL,0,none⟩) (ak bP) (Ne.symm n2)).setOther (a:=⟨nL,1,none⟩) (aj Pk lP P6) (Ne.symm n2);rw [EW] at t;replace X4:=zh t;clear t;have t:=NU.out.set2 q6 zd 0 1 (ak bP) (aj Pk lP P6);rw [EW] at t;replace NU:=zh t;clear t;have t:=NP.out.set2 q6 zd 0 1 (ak bP) (aj Pk lP P6);rw [EW] at t;replace NP:=zh t;clear t q5 q6 X2 Y2 Y5;rw [EW];clear EW;have uy:=zh (Below.refl w6.heap.size w6);refine aO [(.read,0),(.ext,1),(.ext,2),(.fin,3)] zk zk zR zP ?_;refine Wk.out ?_;have cX5:=X5.out.cell;have lX5:=X5.out.lt;refine zS ?_;clear cX5 lX5;refine jK rfl rfl (fun we hbe J hJ=>?_);go_simp;have hx:Below w6.heap.size w6 we:=aJ;have ET:=zh (Bt HB.out hx);refine (lW 1 _ zo zo).mono ?_;rintro e u1 ⟨vi,rfl,h,hm⟩;have hy:=Bt hx h;refine hJ _ _ h ?_;clear hJ J hbe hx h ET;replace X3:=X3.bl hy;replace X4:=X4.bl hy
 replace X5:=X5.bl hy;replace X6:=X6.bl hy;replace NU:=zh (NU.out.later hy);replace NP:=zh (NP.out.later hy);replace HB:=zh (Bt HB.out hy);replace uy:=zh (Bt uy.out hy);clear hy;have FI:=zh hm;clear hm;have cX5:=X5.out.cell;have lX5:=X5.out.lt;refine zS ?_;clear cX5 lX5;refine jK rfl rfl (fun we hbe J hJ=>?_);go_simp;have hx:Below u1.heap.size u1 we:=aJ;have ET:=zh (Bt HB.out hx);refine (XE _ _ _ _ _ (NU.out.later hx) (FI.out.later hx) (UY HQ.out) af4).mono ?_;rintro e u2 ⟨bX,RN,lX,SI,rfl,h,hm⟩;have hy:=Bt hx h;refine hJ _ _ h ?_;clear hJ J hbe hx h ET;replace X3:=X3.bl hy;replace X4:=X4.bl hy;replace X5:=X5.bl hy;replace X6:=X6.bl hy;replace NU:=zh (NU.out.later hy);replace NP:=zh (NP.out.later hy);replace FI:=zh (FI.out.later hy);replace HB:=zh (Bt HB.out hy);replace uy:=zh (Bt uy.out hy);clear hy;have FX:=zh hm;clear hm;have cX5:=X5.out.cell
 have lX5:=X5.out.lt;refine zS ?_;clear cX5 lX5;refine zH [_] rfl (fun u3 hbf=>?_);have hy:Below u2.heap.size u2 u3:=aJ;replace X3:=X3.bl hy;replace X4:=X4.bl hy;replace X5:=X5.bl hy;replace X6:=X6.bl hy;replace NU:=zh (NU.out.later hy);replace NP:=zh (NP.out.later hy);replace FI:=zh (FI.out.later hy);replace FX:=zh (FX.out.later hy);replace HB:=zh (Bt HB.out hy);clear hy hbf uy;have q5:=X5.out;have c5:=q5.cell;have f5:=q5.free;clear FI NU;go_wp2_with fail
 clear c5 f5;obtain ⟨w8,EW⟩:∃ y,((u3.setCell ⟨kC,0,none⟩ (ak bX)).setCell ⟨kC,1,none⟩ (aj RN lX SI))=y:=⟨_,rfl⟩;have t:=(HB.out.setCell (p:=⟨kC,0,none⟩) ay6 (ak bX)).setCell (p:=⟨kC,1,none⟩) ay6 (aj RN lX SI);rw [EW] at t;replace HB:=zh t;clear t;have t:=(q5.set 0 (ak bX)).set 1 (aj RN lX SI);rw [EW] at t;replace X5:Hid (aB w8 kC #[ak bX,aj RN lX SI] 161):=zh t;clear t;have t:=(X6.out.setOther (a:=⟨kC,0,none⟩) (ak bX) hne2).setOther (a:=⟨kC,1,none⟩) (aj RN lX SI) hne2;rw [EW] at t;replace X6:=zh t;clear t;have t:=(X3.out.setOther (a:=⟨kC,0,none⟩) (ak bX) (Ne.symm n3)).setOther (a:=⟨kC,1,none⟩) (aj RN lX SI) (Ne.symm n3);rw [EW] at t;have h3:=t;clear t;have t:=(X4.out.setOther (a:=⟨kC,0,none⟩) (ak bX) (Ne.symm n4)).setOther (a:=⟨kC,1,none⟩) (aj RN lX SI) (Ne.symm n4);rw [EW] at t;have h4:=t;clear t
 have t:=NP.out.set2 q5 zd 0 1 (ak bX) (aj RN lX SI);rw [EW] at t;replace NP:=zh t;clear t;have t:=FX.out.set2 q5 zd 0 1 (ak bX) (aj RN lX SI);rw [EW] at t;replace FX:=zh t;clear t q5 X3 X4;rw [EW];clear EW;have c5:=X5.out.cell;have c6:=X6.out.cell;have c3:=h3.cell;have c4:=h4.cell;have f3:=h3.free;have f4:=h4.free;clear X5 X6 hne hne2 HQ HRz;go_region
 go_wp2_with fail
 have h4b:=(h4.setOther (a:=⟨w.heap.size+1+1,0,none⟩) (ak bX) zi).setOther (a:=⟨w.heap.size+1+1,1,none⟩) (aj RN lX SI) zi;have h3b:=(((h3.set 0 (ak bX)).set 1 (aj RN lX SI)).setOther (a:=⟨w.heap.size+1+1+1,0,none⟩) (ak bP) zi).setOther (a:=⟨w.heap.size+1+1+1,1,none⟩) (aj Pk lP P6) zi;have hU:=(FX.out.set2 h3 zd 0 1 (ak bX) (aj RN lX SI)).set2 h4b zd 0 1 (ak bP) (aj Pk lP P6);have hV:=(NP.out.set2 h3 zd 0 1 (ak bX) (aj RN lX SI)).set2 h4b zd 0 1 (ak bP) (aj Pk lP P6);have hk:=HB.out;refine Vd rfl rfl (aB.drew h3b) Tryz.underlying161 rfl zk rfl (aB.drew ((h4b.set 0 (ak bP)).set 1 (aj Pk lP P6))) Tryz.underlying161 rfl zk ?_;exact ⟨_,_,rfl,aJ,hU.later (Below.drew (Below.refl _ _)),hV.later (Below.drew (Below.refl _ _))⟩
theorem TY (x y:Value) (a b:Int) (w:World) (hx:Pl w x a) (hy:Pl w y b) (ha:sz 10000 a.natAbs≤274877906944) (hb:sz 10000 b.natAbs≤274877906944) (hb0:0<b):Calls Tryz.prog 262 #[x,y] w (uf w (a / b) (a%b)):=by
 by_cases h:0≤a∨b ∣ a
 ·exact vJ x y a b w hx hy ha hb hb0 h
 ·exact TW x y a b w hx hy ha hb zo hb0 (fun e=>h (.inr e))
end Go.Proofs.aF
namespace Go.Proofs.aH
open Go Go.RowKit Go.SW Go.Num Go.Mem Go.Proofs Go.Dec Go.Proofs.aF Go.gB
def XY (q:Rat):Int:=q.num / (q.den:Int)
theorem _root_.Go.Mem.Pl.alloc {w:World} {v:Value} {z:Int} (h:Pl w v z) (o:Obj):Pl (w.alloc o) v z:=h.later ((Below.refl _ _).alloc (aC _) _)
theorem Qo (x:Value) (p:Rat) (w:World) (hx:Ra w x p) (h1:jy 10000000000 p):Calls Tryz.prog 267 #[x] w (Al w (XY p)):=by
 obtain ⟨bA,mK,lA,mP,BS,pO,BJ,pX,rfl,hA1,hA2⟩:=id hx;have QA:=zh hx;have NA:=zh hA1;have EP:=zh hA2;obtain ⟨s1,s2⟩:=jy.four h1;have S1:Hid (sz 10000 p.num.natAbs≤274877906944):=zh zo;have S2:Hid (sz 10000 (p.den:Int).natAbs≤274877906944):=zh zo;have S3:Hid ((0:Int)<(p.den:Int)):=zh (by have:=p.den_pos;omega);clear hx hA1 hA2 s1 s2 h1;unfold XY;go_enter Tryz.func267,Tryz.ntmps267
 go_wp2_with fail
 obtain ⟨oC,EW,hz,X1,X2⟩:=Lf w #[ak bA,aj mK lA mP,ak BS,aj pO BJ pX] 163 #[ak false,aj none 0 0] 161;rw [EW];replace NA:=zh (NA.out.later hz);replace EP:=zh (EP.out.later hz);have hk2:=Bt (Below.refl _ _) hz;clear EW hz;refine (aF.TY _ _ _ _ _ NA.out EP.out S1.out S2.out S3.out).mono ?_;rintro e pG ⟨q,r,rfl,hb3,hq,hr⟩;obtain ⟨bT,paQ,lQ,caQ,rfl⟩:=hq.agg;obtain ⟨bS,YB,lR,ZF,rfl⟩:=hr.agg;replace NA:=zh (NA.out.later hb3);replace EP:=zh (EP.out.later hb3);replace X1:=X1.bl hb3;replace X2:=X2.bl hb3;have hk5:=Bt hk2 hb3;clear hk2;have NQ:=zh hq;clear hb3 hq;obtain ⟨uE,uz,xW⟩:=X2.clf;have hres:=((X2.out.alloc (.cells #[ak bT,aj paQ lQ caQ] 161)).alloc (.cells #[ak bS,aj YB lR ZF] 161));have IU:=hres.cell;have IJ:=hres.free;go_wp2_with fail
 have hQ:=(NQ.out.alloc (.cells #[ak bT,aj paQ lQ caQ] 161)).alloc (.cells #[ak bS,aj YB lR ZF] 161);refine ig rfl rfl bI Tryz.underlying161 rfl zk ?_;exact ⟨_,rfl,aJ,hQ.set2 hres zd _ _ _ _⟩
end Go.Proofs.aH
namespace Go.Proofs.aF
open Go Go.RowKit Go.SW Go.Num Go.Mem Go.Proofs Go.Dec
def FL (z:Int):Int × Int:=if -9223372036854775808≤z∧z≤9223372036854775807 then (z,0) else (0,6)
theorem Mi:sz 10000 (-9223372036854775808:Int).natAbs≤549755813888:=by decide+kernel
theorem UW:sz 10000 (9223372036854775807:Int).natAbs≤549755813888:=by decide+kernel
theorem Fp {l:List Nat} {k:Nat} (h:k<l.length):val 10000 (l.drop k)=l.getD k 0+10000*val 10000 (l.drop (k+1)):=by
 rw [List.drop_eq_getElem_cons h];simp [val,h]
theorem Ir (x:Value) (z:Int) (w:World) (hx:Pl w x z) (hs:sz 10000 z.natAbs≤549755813888) (hz0:z< -9223372036854775808) :
  Calls Tryz.prog 266 #[x] w (fun e w'=>e= ah (aD #[Z I 0,Z I 6])∧Below w.heap.size w w'):=by
 obtain ⟨bA,mK,lA,mP,rfl⟩:=hx.agg
 have O1:Hid (∀ v v' W,Pl W v z→Pl W v' (-9223372036854775808)→Calls Tryz.prog 264 #[v,v'] W (fun e w'=>e= ah (Z I (-1))∧Below W.heap.size W w')):=zh fun v v' W h h'=>by
  have:=lS v v' z (-9223372036854775808) W h h' hs Mi
  rwa [show yY z (-9223372036854775808)= -1 by unfold yY;rw [if_pos hz0]] at this
 clear hs hz0;have FA:=zh hx;go_enter Tryz.func266,Tryz.ntmps266
 go_wp2_with fail
 obtain ⟨u0,EW,hz,HX⟩:=zD w #[ak bA,aj mK lA mP] 161;rw [EW];replace FA:=zh (FA.out.later hz);have HB:=zh hz;clear EW hz hx;have uy:=zh (Below.refl u0.heap.size u0);refine aO [(.read,0),(.ext,1),(.ext,2),(.pure,3),(.pure,4),(.read,5),(.ext,6),(.ext,7),(.pure,8),(.pure,9)] zk zk zR zP ?_;refine Wk.out ?_;have xL:=HX.out.cell;have xE:=HX.out.lt;refine zS ?_;clear xL xE;refine jK rfl rfl (fun we hbe J hJ=>?_);go_simp;have hx:Below u0.heap.size u0 we:=aJ;have ET:=zh (Bt HB.out hx);refine (lW _ _ zo zo).mono ?_;rintro e u1 ⟨vi,rfl,h,hm⟩;have hy:=Bt hx h;refine hJ _ _ h ?_;clear hJ J hbe hx h ET;replace HX:=zh (HX.out.later hy);replace FA:=zh (FA.out.later hy);replace HB:=zh (Bt HB.out hy);replace uy:=zh (Bt uy.out hy);clear hy;have FI:=zh hm;clear hm;have xL:=HX.out.cell;have xE:=HX.out.lt;refine zS ?_;clear xL xE
 refine jK rfl rfl (fun we hbe J hJ=>?_);go_simp;have hx:Below u1.heap.size u1 we:=aJ;have ET:=zh (Bt HB.out hx);refine (O1.out _ _ _ (FA.out.later hx) (FI.out.later hx)).mono ?_;rintro e u2 ⟨rfl,h⟩;have hy:=Bt hx h;refine hJ _ _ h ?_;clear hJ J hbe hx h ET;replace HX:=zh (HX.out.later hy);replace FA:=zh (FA.out.later hy);replace FI:=zh (FI.out.later hy);replace HB:=zh (Bt HB.out hy);replace uy:=zh (Bt uy.out hy);clear hy;have xL:=HX.out.cell;have xE:=HX.out.lt;refine zS ?_;clear xL xE;refine sN (fun u3 hbf=>?_);have hy:Below u2.heap.size u2 u3:=aJ;replace HX:=zh (HX.out.later hy);replace FA:=zh (FA.out.later hy);replace FI:=zh (FI.out.later hy);replace HB:=zh (Bt HB.out hy);clear hy hbf uy;go_wp2_with fail
 go_ret2
 exact ⟨rfl,HB.out⟩
theorem FJ (x:Value) (z:Int) (w:World) (hx:Pl w x z) (hs:sz 10000 z.natAbs≤549755813888) (hz0:9223372036854775807<z) :
  Calls Tryz.prog 266 #[x] w (fun e w'=>e= ah (aD #[Z I 0,Z I 6])∧Below w.heap.size w w'):=by
 obtain ⟨bA,mK,lA,mP,rfl⟩:=hx.agg
 have O1:Hid (∀ v v' W,Pl W v z→Pl W v' (-9223372036854775808)→Calls Tryz.prog 264 #[v,v'] W (fun e w'=>e= ah (Z I 1)∧Below W.heap.size W w')):=zh fun v v' W h h'=>by
  have:=lS v v' z (-9223372036854775808) W h h' hs Mi
  rwa [show yY z (-9223372036854775808)=1 by unfold yY;rw [if_neg zo,if_pos zo]] at this
 have O2:Hid (∀ v v' W,Pl W v z→Pl W v' 9223372036854775807→Calls Tryz.prog 264 #[v,v'] W (fun e w'=>e= ah (Z I 1)∧Below W.heap.size W w')):=zh fun v v' W h h'=>by
  have:=lS v v' z 9223372036854775807 W h h' hs UW
  rwa [show yY z 9223372036854775807=1 by unfold yY;rw [if_neg zo,if_pos hz0]] at this
 clear hs hz0;have FA:=zh hx;go_enter Tryz.func266,Tryz.ntmps266
 go_wp2_with fail
 obtain ⟨u0,EW,hz,HX⟩:=zD w #[ak bA,aj mK lA mP] 161;rw [EW];replace FA:=zh (FA.out.later hz);have HB:=zh hz;clear EW hz hx;have uy:=zh (Below.refl u0.heap.size u0);refine aO [(.read,0),(.ext,1),(.ext,2),(.pure,3),(.pure,4),(.read,5),(.ext,6),(.ext,7),(.pure,8),(.pure,9)] zk zk zR zP ?_;refine Wk.out ?_;have xL:=HX.out.cell;have xE:=HX.out.lt;refine zS ?_;clear xL xE;refine jK rfl rfl (fun we hbe J hJ=>?_);go_simp;have hx:Below u0.heap.size u0 we:=aJ;have ET:=zh (Bt HB.out hx);refine (lW _ _ zo zo).mono ?_;rintro e u1 ⟨vi,rfl,h,hm⟩;have hy:=Bt hx h;refine hJ _ _ h ?_;clear hJ J hbe hx h ET;replace HX:=zh (HX.out.later hy);replace FA:=zh (FA.out.later hy);replace HB:=zh (Bt HB.out hy);replace uy:=zh (Bt uy.out hy);clear hy;have FI:=zh hm;clear hm;have xL:=HX.out.cell;have xE:=HX.out.lt;refine zS ?_;clear xL xE
 refine jK rfl rfl (fun we hbe J hJ=>?_);go_simp;have hx:Below u1.heap.size u1 we:=aJ;have ET:=zh (Bt HB.out hx);refine (O1.out _ _ _ (FA.out.later hx) (FI.out.later hx)).mono ?_;rintro e u2 ⟨rfl,h⟩;have hy:=Bt hx h;refine hJ _ _ h ?_;clear hJ J hbe hx h ET;replace HX:=zh (HX.out.later hy);replace FA:=zh (FA.out.later hy);replace FI:=zh (FI.out.later hy);replace HB:=zh (Bt HB.out hy);replace uy:=zh (Bt uy.out hy);clear hy;have xL:=HX.out.cell;have xE:=HX.out.lt;refine zS ?_;clear xL xE;refine jK rfl rfl (fun we hbe J hJ=>?_);go_simp;have hx:Below u2.heap.size u2 we:=aJ;have ET:=zh (Bt HB.out hx);refine (lW _ _ zo zo).mono ?_;rintro e u3 ⟨vk,rfl,h,hm⟩;have hy:=Bt hx h;refine hJ _ _ h ?_;clear hJ J hbe hx h ET;replace HX:=zh (HX.out.later hy);replace FA:=zh (FA.out.later hy);replace FI:=zh (FI.out.later hy);replace HB:=zh (Bt HB.out hy)
 replace uy:=zh (Bt uy.out hy);clear hy;have FK:=zh hm;clear hm;have xL:=HX.out.cell;have xE:=HX.out.lt;refine zS ?_;clear xL xE;refine jK rfl rfl (fun we hbe J hJ=>?_);go_simp;have hx:Below u3.heap.size u3 we:=aJ;have ET:=zh (Bt HB.out hx);refine (O2.out _ _ _ (FA.out.later hx) (FK.out.later hx)).mono ?_;rintro e u4 ⟨rfl,h⟩;have hy:=Bt hx h;refine hJ _ _ h ?_;clear hJ J hbe hx h ET;replace HX:=zh (HX.out.later hy);replace FA:=zh (FA.out.later hy);replace FI:=zh (FI.out.later hy);replace FK:=zh (FK.out.later hy);replace HB:=zh (Bt HB.out hy);replace uy:=zh (Bt uy.out hy);clear hy;have xL:=HX.out.cell;have xE:=HX.out.lt;refine zS ?_;clear xL xE;refine sN (fun u5 hbf=>?_);have hy:Below u4.heap.size u4 u5:=aJ;replace HX:=zh (HX.out.later hy);replace FA:=zh (FA.out.later hy);replace FI:=zh (FI.out.later hy);replace FK:=zh (FK.out.later hy)
 replace HB:=zh (Bt HB.out hy);clear hy hbf uy;go_wp2_with fail
 go_ret2
 exact ⟨rfl,HB.out⟩
theorem J8 (x:Value) (z:Int) (w:World) (hx:Pl w x z) (hs:sz 10000 z.natAbs≤549755813888) (hz0: -9223372036854775808≤z∧z≤9223372036854775807) :
  Calls Tryz.prog 266 #[x] w (fun e w'=>e= ah (aD #[Z I z,Z I 0])∧Below w.heap.size w w'):=by
 obtain ⟨bA,mK,lA,mP,rfl⟩:=hx.agg;have O1:Hid (∃ o:Int,0≤o∧∀ v v' W,Pl W v z→Pl W v' (-9223372036854775808)→Calls Tryz.prog 264 #[v,v'] W (fun e w'=>e= ah (Z I o)∧Below W.heap.size W w')):=zh ⟨yY z (-9223372036854775808),by unfold yY;rw [if_neg zo];split<;>omega,fun v v' W h h'=>lS v v' z (-9223372036854775808) W h h' hs Mi⟩;have O2:Hid (∃ o:Int,o≤0∧∀ v v' W,Pl W v z→Pl W v' 9223372036854775807→Calls Tryz.prog 264 #[v,v'] W (fun e w'=>e= ah (Z I o)∧Below W.heap.size W w')):=zh ⟨yY z 9223372036854775807,by unfold yY;split;omega;rw [if_neg zo];omega,fun v v' W h h'=>lS v v' z 9223372036854775807 W h h' hs UW⟩;obtain ⟨o1,ho1,O1⟩:=O1.out;obtain ⟨o2,ho2,O2⟩:=O2.out;replace O1:=zh O1;replace O2:=zh O2;have q1:decide (o1<0)=false:=decide_eq_false zo;have q2:decide (0<o2)=false:=decide_eq_false zo;obtain ⟨hn,hbz⟩:=hx.nm
 obtain ⟨l,El⟩:∃ l,d9 10000 z.natAbs=l:=⟨_,rfl⟩;obtain ⟨pa',LJ,e,k1,k2,k3⟩:=hn.read;simp only [Value.slice.injEq] at e;obtain ⟨rfl,rfl,rfl⟩:=e;rw [El] at k3;have hl:l.length=sz 10000 z.natAbs:=by rw [← El];rfl
 have hvl:val 10000 l=z.natAbs:=by rw [← El];exact bY zo _
 have hlL:sz 10000 z.natAbs≤549755813888:=hs;obtain ⟨L,EL⟩:∃ L,sz 10000 z.natAbs=L:=⟨_,rfl⟩;rw [EL] at hl k1 k3 hx hlL;have K3:=zh k3;have HL:=zh hl;have HVL:=zh hvl;have HBZ:=zh hbz;have HZ0:=zh hz0;clear hs hz0 ho1 ho2 k3 hl hvl hbz hn El;rw [EL];clear EL;have FA:=zh hx;go_enter Tryz.func266,Tryz.ntmps266
 go_wp2_with fail
 obtain ⟨u0,EW,hz,HX⟩:=zD w #[ak bA,aj mK L mP] 161;rw [EW];replace FA:=zh (FA.out.later hz);have HB:=zh hz;clear EW hz hx;have uy:=zh (Below.refl u0.heap.size u0);refine aO [(.read,0),(.ext,1),(.ext,2),(.pure,3),(.pure,4),(.read,5),(.ext,6),(.ext,7),(.pure,8),(.pure,9)] zk zk zR zP ?_;refine Wk.out ?_;have xL:=HX.out.cell;have xE:=HX.out.lt;refine zS ?_;clear xL xE;refine jK rfl rfl (fun we hbe J hJ=>?_);go_simp;have hx:Below u0.heap.size u0 we:=aJ;have ET:=zh (Bt HB.out hx);refine (lW _ _ zo zo).mono ?_;rintro e u1 ⟨vi,rfl,h,hm⟩;have hy:=Bt hx h;refine hJ _ _ h ?_;clear hJ J hbe hx h ET;replace HX:=zh (HX.out.later hy);replace FA:=zh (FA.out.later hy);replace HB:=zh (Bt HB.out hy);replace uy:=zh (Bt uy.out hy);clear hy;have FI:=zh hm;clear hm;have xL:=HX.out.cell;have xE:=HX.out.lt;refine zS ?_;clear xL xE
 refine jK rfl rfl (fun we hbe J hJ=>?_);go_simp;have hx:Below u1.heap.size u1 we:=aJ;have ET:=zh (Bt HB.out hx);refine (O1.out _ _ _ (FA.out.later hx) (FI.out.later hx)).mono ?_;rintro e u2 ⟨rfl,h⟩;have hy:=Bt hx h;refine hJ _ _ h ?_;clear hJ J hbe hx h ET;replace HX:=zh (HX.out.later hy);replace FA:=zh (FA.out.later hy);replace FI:=zh (FI.out.later hy);replace HB:=zh (Bt HB.out hy);replace uy:=zh (Bt uy.out hy);clear hy;have xL:=HX.out.cell;have xE:=HX.out.lt;refine zS ?_;clear xL xE;refine jK rfl rfl (fun we hbe J hJ=>?_);go_simp;have hx:Below u2.heap.size u2 we:=aJ;have ET:=zh (Bt HB.out hx);refine (lW _ _ zo zo).mono ?_;rintro e u3 ⟨vk,rfl,h,hm⟩;have hy:=Bt hx h;refine hJ _ _ h ?_;clear hJ J hbe hx h ET;replace HX:=zh (HX.out.later hy);replace FA:=zh (FA.out.later hy);replace FI:=zh (FI.out.later hy);replace HB:=zh (Bt HB.out hy)
 replace uy:=zh (Bt uy.out hy);clear hy;have FK:=zh hm;clear hm;have xL:=HX.out.cell;have xE:=HX.out.lt;refine zS ?_;clear xL xE;refine jK rfl rfl (fun we hbe J hJ=>?_);go_simp;have hx:Below u3.heap.size u3 we:=aJ;have ET:=zh (Bt HB.out hx);refine (O2.out _ _ _ (FA.out.later hx) (FK.out.later hx)).mono ?_;rintro e u4 ⟨rfl,h⟩;have hy:=Bt hx h;refine hJ _ _ h ?_;clear hJ J hbe hx h ET;replace HX:=zh (HX.out.later hy);replace FA:=zh (FA.out.later hy);replace FI:=zh (FI.out.later hy);replace FK:=zh (FK.out.later hy);replace HB:=zh (Bt HB.out hy);replace uy:=zh (Bt uy.out hy);clear hy;have xL:=HX.out.cell;have xE:=HX.out.lt;refine zS ?_;clear xL xE;refine sN (fun u5 hbf=>?_);have hy:Below u4.heap.size u4 u5:=aJ;replace HX:=zh (HX.out.later hy);replace FA:=zh (FA.out.later hy);replace FI:=zh (FI.out.later hy);replace FK:=zh (FK.out.later hy)
 replace HB:=zh (Bt HB.out hy);clear hy hbf uy;obtain ⟨ws,EZ⟩:∃ y,y=u5:=⟨_,rfl⟩;have c0:=HX.out.cell;have l0:=HX.out.lt;rw [← EZ] at HX HB c0 l0 ⊢;clear EZ O1 O2 FA FI FK;go_wp2_with fail
 go_loopw [4,5] (fun nv iv wr=>∃ (q n:Int), -1≤q∧q<L∧iv= Z I q∧nv= Z I n∧Hid (n= -(val 10000 (l.drop (q+1).toNat):Int))∧wr=ws) (fun _ iv _=>(intOf iv+1).toNat)
 case atStart =>
  have e:((L:Int) - 1+1).toNat=l.length:=by have:=HL.out;omega
  exact ⟨(L:Int) - 1,0,by omega,by omega,by go_num,rfl,zh (by rw [e,List.drop_length];rfl),rfl⟩
 case round =>
  obtain ⟨q,n,hq1,hq2,rfl,rfl,HN,rfl⟩:=hrel
  by_cases hq:q<0
  ·obtain rfl:q= -1:=by omega
   have hn:n= -(z.natAbs:Int):=by have:=HN.out;rw [← HVL.out];simpa using this
   clear HN hq hq1 hq2
   rcases (show z<0∨0≤z by omega) with h0|h0
   ·have hb1:bA=true:=HBZ.out.trans (decide_eq_true h0);have hnz:n=z:=by omega
    subst hb1 hnz;go_wp2_with fail
    go_ret2
    exact ⟨rfl,HB.out⟩
   ·have hb1:bA=false:=HBZ.out.trans (decide_eq_false zo);have hnz:n= -z:=by omega
    subst hb1 hnz
    have hw:I.wrap (- -z)=z:=by
     have:=HZ0.out;rw [Int.neg_neg];unfold IntKind.wrap;simp [IntKind.bits,IntKind.signed];omega
    have hw2:wrap64 (z.natAbs:Int)=z:=by have:=HZ0.out;unfold wrap64;omega
    go_wp2_with fail
    go_ret2
    refine ⟨?_,HB.out⟩
    show Ending.returned (aD #[Z I (wrap64 _),Z I 0])=_
    rw [hw2]
  ·obtain ⟨k,rfl⟩:∃ k:Nat,q=(k:Int):=⟨q.toNat,by omega⟩;obtain ⟨b,off,e,h1,h2⟩:=K3.out k zo;have hcl:=(HB.out.cell (p:=⟨b,off+k,none⟩) h1).trans h2;have hst:=Fp (l:=l) (k:=k) (by have:=HL.out;omega);have hle:=uI 10000 zo l k;have hv:=HVL.out;have hz0:=HZ0.out;have hn:=HN.out;rw [show ((k:Int)+1).toNat=k+1 by omega] at hn;obtain ⟨d,ed⟩:∃ d,l.getD k 0=d:=⟨_,rfl⟩;obtain ⟨m,em⟩:∃ m,val 10000 (l.drop (k+1))=m:=⟨_,rfl⟩;rw [ed,em] at hst;rw [ed] at hcl;rw [em] at hn;subst hn
   have hw1:I.wrap (-(m:Int)*10000)= -(m:Int)*10000:=by
    unfold IntKind.wrap;simp [IntKind.bits,IntKind.signed];omega
   have hw2:I.wrap (-(m:Int)*10000 - (d:Int))= -((d+10000*m:Nat):Int):=by
    unfold IntKind.wrap;simp [IntKind.bits,IntKind.signed];omega
   have HS:=zh hst;subst e;have hbl:=aI h1 HB.out.size;clear hst hle hv hz0 h1 h2 HN;go_wp2_with fail
   go_roundw
   case rel=>exact ⟨(k:Int) - 1,_,by omega,by omega,by go_num,rfl,zh (by rw [show ((k:Int) - 1+1).toNat=k by omega,HS.out];omega),trivial⟩
   case measure=>simp [intOf]<;>omega
theorem Bc (x:Value) (z:Int) (w:World) (hx:Pl w x z) (hs:sz 10000 z.natAbs≤549755813888) :
  Calls Tryz.prog 266 #[x] w (fun e w'=>e= ah (aD #[Z I (FL z).1,Z I (FL z).2])∧Below w.heap.size w w'):=by
 unfold FL
 by_cases h: -9223372036854775808≤z∧z≤9223372036854775807
 ·rw [if_pos h];exact J8 x z w hx hs h
 ·rw [if_neg h]
  by_cases h2:z< -9223372036854775808
  ·exact Ir x z w hx hs h2
  ·exact FJ x z w hx hs zo
end Go.Proofs.aF
