/- Lemmas for the proof. No condition. -/
import Derived.Test.YtneajphgfdlmhaaGreatDoorUB32
import Derived.RegionTactic
set_option linter.unusedVariables false
set_option linter.unusedSimpArgs false
set_option maxRecDepth 100000
set_option maxHeartbeats 16000000
open Bool renaming false_eq_true → dG
open Go.Ending renaming returned → ah
open Go.IntKind renaming i64 → I
open Go.Value renaming agg → au, bool → ak, int → Z, pointer → aA, slice → aj, string → O, tuple → aD
open List renaming append_assoc → jH, cons_append → dx, getD_eq_getElem?_getD → cK, length_cons → bg, replicate → bW
open Nat renaming eq_zero_or_pos → aX, le_trans → ay, mod_lt → fI, zero_add → dJ
namespace Go.Proofs.aF
open Go Go.RowKit Go.SW Go.Num Go.Mem Go.Proofs
theorem YX (b:Bool) (v:Value) (l:List Nat) (n:Nat) (z:Int) (w:World) (h:Gs w v l) (hd:gT 10000 l) (hn:val 10000 l=n) (hz:jh n b=z) :
  Calls Tryz.prog 258 #[ak b,v] w fun e w'=>∃ v',e= ah v'∧Below w.heap.size w w'∧Pl w' v' z:=by
 have:=mo b v l w h hd
 rwa [hn,hz] at this
theorem Jz {a b:Int} (h:decide (a<0)≠decide (b<0)) (hle:b.natAbs≤a.natAbs):jh (a.natAbs - b.natAbs) (decide (a<0))=a+b:=by
 unfold jh
 by_cases ha:a<0<;>by_cases hb:b<0<;>simp [ha,hb] at h ⊢<;>omega
def Al (w:World) (z:Int) (e:Ending) (w':World):Prop:=∃ v',e= ah v'∧Below w.heap.size w w'∧Pl w' v' z
theorem qX (x y:Value) (a b:Int) (w:World) (hx:Pl w x a) (hy:Pl w y b) (ha:sz 10000 a.natAbs≤549755813888) (hb:sz 10000 b.natAbs≤549755813888) :
  Calls Tryz.prog 279 #[x,y] w (Al w (a+b)):=by
 obtain ⟨bA,mK,lA,mP,rfl⟩:=hx.agg;obtain ⟨bB,pz,lB,pF,rfl⟩:=hy.agg;obtain ⟨nA,eA⟩:=hx.nm;obtain ⟨nB,eB⟩:=hy.nm;have uw:=zh nA;have zA:=zh nB;have KA:=zh ha;have KB:=zh hb
 by_cases hab:bA=bB
 ·subst hab;have hs:jh (a.natAbs+b.natAbs) bA=a+b:=O4 eA.symm eB.symm;have HS:=zh hs;clear nA nB eA eB ha hb hx hy hs;go_enter Tryz.func279,Tryz.ntmps279
  go_wp2_with fail
  obtain ⟨oC,EW,hz,X1,X2,X3⟩:=LK w #[ak bA,aj mK lA mP] 161 #[ak bA,aj pz lB pF] 161 #[ak false,aj none 0 0] 161;rw [EW];replace uw:=zh (uw.out.later hz);have hk2:=Bt (Below.refl _ _) hz;clear EW hz;obtain ⟨nK,nI,oq⟩:=X1.clf;obtain ⟨uE,uz,xW⟩:=X2.clf;refine aO [(.pure,0),(.read,1),(.pure,2),(.read,3),(.pure,4),(.read,5),(.ext,6),(.ext,7),(.fin,8)] zk zk zR zP ?_;refine zV ?_;refine aU rfl rfl (fun we3 hb3 J hJ=>?_);go_simp;have hh3:Below oC.heap.size oC we3:=aJ;clear hb3;refine (wZ _ _ _ _ _ (uw.out.later hh3) (zA.out.later (Bt hk2 hh3)) KA.out KB.out).mono ?_;rintro e UK ⟨v,s,rfl,hb4,hg,hd,hv⟩;obtain ⟨paS,caS,rfl, -⟩:=hg.read;have Am:=zh hd;have HVS:=zh hv;clear hd hv;refine hJ _ _ hb4 ?_;clear hJ J;have Ws:=Bt hh3 hb4;have NS:=zh hg;clear hh3 hb4 hg;refine zV ?_;refine aU rfl rfl (fun G6 hb6 J hJ=>?_);go_simp
  have wR:Below oC.heap.size oC G6:=Bt Ws aJ;replace NS:=zh (NS.out.later (show Below UK.heap.size UK G6 from aJ));clear hb6 Ws;refine (YX _ _ _ _ _ _ NS.out Am.out HVS.out HS.out).mono ?_;rintro e wG ⟨v,rfl,kR,tL⟩;obtain ⟨bR,YB,lR,ZF,rfl⟩:=tL.agg;refine hJ _ _ kR ?_;clear hJ J;have Di:=Bt wR kR;replace NS:=zh (NS.out.later kR);have NR:=zh tL;clear wR kR tL;refine zV ?_;refine dD [_] rfl (fun UH hf9=>?_);replace NS:=zh (NS.out.later (show Below wG.heap.size wG UH from aJ));replace NR:=zh (NR.out.later (show Below wG.heap.size wG UH from aJ));have qg:Below oC.heap.size oC UH:=Bt Di aJ;clear hf9 Di;clear nK nI oq uE uz xW;replace uw:=zh (uw.out.later qg);replace X1:=X1.bl qg;replace X2:=X2.bl qg;replace X3:=X3.bl qg;have hk10:=Bt hk2 qg;clear hk2;clear qg;clear NS;obtain ⟨cX3,lX3,fX3⟩:=X3.clf;have hres:=X3.out
  go_wp2_with fail
  refine ig rfl rfl bI Tryz.underlying161 rfl zk ?_;exact ⟨_,rfl,aJ,NR.out.set2 hres zd _ _ _ _⟩
 ·have hE:(bA == bB)=false:=by simp [hab]
  by_cases hle:b.natAbs≤a.natAbs
  ·have hs:jh (a.natAbs - b.natAbs) bA=a+b:=by
    rw [eA];exact Jz (by rw [← eA,← eB];exact hab) hle
   have HS:=zh hs;have LQ:=zh hle;clear nA nB eA eB ha hb hx hy hs hle hab;go_enter Tryz.func279,Tryz.ntmps279
   go_wp2_with fail
   obtain ⟨oC,EW,hz,X1,X2,X3⟩:=LK w #[ak bA,aj mK lA mP] 161 #[ak bB,aj pz lB pF] 161 #[ak false,aj none 0 0] 161;rw [EW];replace uw:=zh (uw.out.later hz);replace zA:=zh (zA.out.later hz);have hk2:=Bt (Below.refl _ _) hz;clear EW hz;refine (uP _ _ _ _ _ uw.out zA.out).mono ?_;rintro e pG ⟨r,rfl,hb3,hor⟩;have hr:0≤r:=hor.2.2 LQ.out;clear hor;replace uw:=zh (uw.out.later hb3);replace zA:=zh (zA.out.later hb3);replace X1:=X1.bl hb3;replace X2:=X2.bl hb3;replace X3:=X3.bl hb3;have hk5:=Bt hk2 hb3;clear hk2;clear hb3;go_wp2_with fail
   obtain ⟨nK,nI,oq⟩:=X1.clf;obtain ⟨uE,uz,xW⟩:=X2.clf;refine aO [(.pure,0),(.read,1),(.pure,2),(.read,3),(.pure,4),(.read,5),(.ext,6),(.ext,7),(.fin,8)] zk zk zR zP ?_;refine zV ?_;refine aU rfl rfl (fun G6 hb6 J hJ=>?_);go_simp;have wR:Below pG.heap.size pG G6:=aJ;clear hb6;refine (rD _ _ _ _ _ (uw.out.later wR) (zA.out.later wR) (by have:=KA.out;omega) LQ.out).mono ?_;rintro e wG ⟨v,rfl,kR,tL⟩;obtain ⟨paD,lD,caD,rfl⟩:=tL.slice;refine hJ _ _ kR ?_;clear hJ J;have Di:=Bt wR kR;have ND:=zh tL;clear wR kR tL;refine zV ?_;refine aU rfl rfl (fun Fh uD J hJ=>?_);go_simp;have qg:Below pG.heap.size pG Fh:=Bt Di aJ;replace ND:=zh (ND.out.later (show Below wG.heap.size wG Fh from aJ));clear uD Di;refine (tJ _ _ _ _ _ ND.out HS.out).mono ?_;rintro e mQ ⟨v,rfl,jW,rz⟩;obtain ⟨bR,YB,lR,ZF,rfl⟩:=rz.agg
   refine hJ _ _ jW ?_;clear hJ J;have qD:=Bt qg jW;replace ND:=zh (ND.out.later jW);have NR:=zh rz;clear qg jW rz;refine zV ?_;refine dD [_] rfl (fun LW aj8=>?_);replace ND:=zh (ND.out.later (show Below mQ.heap.size mQ LW from aJ));replace NR:=zh (NR.out.later (show Below mQ.heap.size mQ LW from aJ));have hh12:Below pG.heap.size pG LW:=Bt qD aJ;clear aj8 qD;clear nK nI oq uE uz xW;replace uw:=zh (uw.out.later hh12);replace zA:=zh (zA.out.later hh12);replace X1:=X1.bl hh12;replace X2:=X2.bl hh12;replace X3:=X3.bl hh12;have aJ2:=Bt hk5 hh12;clear hk5;clear hh12;clear ND;obtain ⟨cX3,lX3,fX3⟩:=X3.clf;have hres:=X3.out;go_wp2_with fail
   refine ig rfl rfl bI Tryz.underlying161 rfl zk ?_;exact ⟨_,rfl,aJ,NR.out.set2 hres zd _ _ _ _⟩
  ·have hs:jh (b.natAbs - a.natAbs) bB=a+b:=by
    rw [eB,Int.add_comm a b];exact Jz (by rw [← eA,← eB];exact fun h=>hab h.symm) zo
   have HS:=zh hs;have LQ:Hid (a.natAbs≤b.natAbs):=zh zo;have HLN:=zh hle;clear nA nB eA eB ha hb hx hy hs hle hab;go_enter Tryz.func279,Tryz.ntmps279
   go_wp2_with fail
   obtain ⟨oC,EW,hz,X1,X2,X3⟩:=LK w #[ak bA,aj mK lA mP] 161 #[ak bB,aj pz lB pF] 161 #[ak false,aj none 0 0] 161;rw [EW];replace uw:=zh (uw.out.later hz);replace zA:=zh (zA.out.later hz);have hk2:=Bt (Below.refl _ _) hz;clear EW hz;refine (uP _ _ _ _ _ uw.out zA.out).mono ?_;rintro e pG ⟨r,rfl,hb3,hor⟩;have hr:¬ 0≤r:=fun h=>HLN.out (hor.2.1 h);clear hor;replace uw:=zh (uw.out.later hb3);replace zA:=zh (zA.out.later hb3);replace X1:=X1.bl hb3;replace X2:=X2.bl hb3;replace X3:=X3.bl hb3;have hk5:=Bt hk2 hb3;clear hk2;clear hb3;go_wp2_with fail
   obtain ⟨uE,uz,xW⟩:=X2.clf;obtain ⟨nK,nI,oq⟩:=X1.clf;refine aO [(.pure,0),(.read,1),(.pure,2),(.read,3),(.pure,4),(.read,5),(.ext,6),(.ext,7),(.fin,8)] zk zk zR zP ?_;refine zV ?_;refine aU rfl rfl (fun G6 hb6 J hJ=>?_);go_simp;have wR:Below pG.heap.size pG G6:=aJ;clear hb6;refine (rD _ _ _ _ _ (zA.out.later wR) (uw.out.later wR) (by have:=KB.out;omega) LQ.out).mono ?_;rintro e wG ⟨v,rfl,kR,tL⟩;obtain ⟨paD,lD,caD,rfl⟩:=tL.slice;refine hJ _ _ kR ?_;clear hJ J;have Di:=Bt wR kR;have ND:=zh tL;clear wR kR tL;refine zV ?_;refine aU rfl rfl (fun Fh uD J hJ=>?_);go_simp;have qg:Below pG.heap.size pG Fh:=Bt Di aJ;replace ND:=zh (ND.out.later (show Below wG.heap.size wG Fh from aJ));clear uD Di;refine (tJ _ _ _ _ _ ND.out HS.out).mono ?_;rintro e mQ ⟨v,rfl,jW,rz⟩;obtain ⟨bR,YB,lR,ZF,rfl⟩:=rz.agg
   refine hJ _ _ jW ?_;clear hJ J;have qD:=Bt qg jW;replace ND:=zh (ND.out.later jW);have NR:=zh rz;clear qg jW rz;refine zV ?_;refine dD [_] rfl (fun LW aj8=>?_);replace ND:=zh (ND.out.later (show Below mQ.heap.size mQ LW from aJ));replace NR:=zh (NR.out.later (show Below mQ.heap.size mQ LW from aJ));have hh12:Below pG.heap.size pG LW:=Bt qD aJ;clear aj8 qD;clear uE uz xW nK nI oq;replace uw:=zh (uw.out.later hh12);replace zA:=zh (zA.out.later hh12);replace X1:=X1.bl hh12;replace X2:=X2.bl hh12;replace X3:=X3.bl hh12;have aJ2:=Bt hk5 hh12;clear hk5;clear hh12;clear ND;obtain ⟨cX3,lX3,fX3⟩:=X3.clf;have hres:=X3.out;go_wp2_with fail
   refine ig rfl rfl bI Tryz.underlying161 rfl zk ?_;exact ⟨_,rfl,aJ,NR.out.set2 hres zd _ _ _ _⟩
theorem oV (x y:Value) (a b:Int) (w:World) (hx:Pl w x a) (hy:Pl w y b) (ha:sz 10000 a.natAbs≤549755813888) (hb:sz 10000 b.natAbs≤549755813888) :
  Calls Tryz.prog 301 #[x,y] w (Al w (a - b)):=by
 obtain ⟨bA,mK,lA,mP,rfl⟩:=hx.agg;obtain ⟨bB,pz,lB,pF,rfl⟩:=hy.agg;have NA:=zh hx;have NB:=zh hy;have KA:=zh ha;have KB:Hid (sz 10000 (-b).natAbs≤549755813888):=zh (by rw [Int.natAbs_neg];exact hb);clear ha hb hx hy;go_enter Tryz.func301,Tryz.ntmps301
 go_wp2_with fail
 obtain ⟨oC,EW,hz,X1,X2,X3⟩:=LK w #[ak bA,aj mK lA mP] 161 #[ak bB,aj pz lB pF] 161 #[ak false,aj none 0 0] 161;rw [EW];replace NA:=zh (NA.out.later hz);replace NB:=zh (NB.out.later hz);have hk2:=Bt (Below.refl _ _) hz;clear EW hz;obtain ⟨nK,nI,oq⟩:=X1.clf;obtain ⟨uE,uz,xW⟩:=X2.clf;refine aO [(.read,0),(.read,1),(.ext,2),(.ext,3),(.fin,4)] zk zk zR zP ?_;refine zV ?_;refine aU rfl rfl (fun we3 hb3 J hJ=>?_);go_simp;have hh3:Below oC.heap.size oC we3:=aJ;clear hb3;refine (wD _ _ _ (NB.out.later hh3)).mono ?_;rintro e UK ⟨v,rfl,hb4,hv5⟩;obtain ⟨bT,paT,lT,caT,rfl⟩:=hv5.agg;refine hJ _ _ hb4 ?_;clear hJ J;have Ws:=Bt hh3 hb4;have NT:=zh hv5;clear hh3 hb4 hv5;refine zV ?_;refine aU rfl rfl (fun G6 hb6 J hJ=>?_);go_simp;have wR:Below oC.heap.size oC G6:=Bt Ws aJ
 replace NT:=zh (NT.out.later (show Below UK.heap.size UK G6 from aJ));clear hb6 Ws;refine (qX _ _ _ _ _ (NA.out.later wR) NT.out KA.out KB.out).mono ?_;rintro e wG ⟨v,rfl,kR,tL⟩;obtain ⟨bR,YB,lR,ZF,rfl⟩:=tL.agg;refine hJ _ _ kR ?_;clear hJ J;have Di:=Bt wR kR;replace NT:=zh (NT.out.later kR);have NR:=zh tL;clear wR kR tL;refine zV ?_;refine dD [_] rfl (fun UH hf9=>?_);replace NT:=zh (NT.out.later (show Below wG.heap.size wG UH from aJ));replace NR:=zh (NR.out.later (show Below wG.heap.size wG UH from aJ));have qg:Below oC.heap.size oC UH:=Bt Di aJ;clear hf9 Di;clear nK nI oq uE uz xW;replace NA:=zh (NA.out.later qg);replace NB:=zh (NB.out.later qg);replace X1:=X1.bl qg;replace X2:=X2.bl qg;replace X3:=X3.bl qg;have hk10:=Bt hk2 qg;clear hk2;clear qg;clear NT;obtain ⟨cX3,lX3,fX3⟩:=X3.clf;have hres:=X3.out;go_wp2_with fail
 refine ig rfl rfl bI Tryz.underlying161 rfl zk ?_;exact ⟨_,rfl,aJ,NR.out.set2 hres zd _ _ _ _⟩
theorem ag8 {a b:Int} (h:Hid (a<b)):decide (a - b<0)=true:=decide_eq_true (by have:=h.out;omega)
theorem ah0 {a b:Int} (h:Hid (a=b)):decide (a - b<0)=false:=decide_eq_false (by have:=h.out;omega)
theorem ag9 {a b:Int} (h:Hid (b<a)):decide (a - b<0)=false:=decide_eq_false (by have:=h.out;omega)
theorem Vt {a b:Int} (h:Hid (a=b)):(a - b).natAbs=0:=by have:=h.out;omega
theorem YF {a b:Int} (h:Hid (b<a)):0<(a - b).natAbs:=by have:=h.out;omega
def yY (a b:Int):Int:=if a<b then -1 else if b<a then 1 else 0
theorem lS (x y:Value) (a b:Int) (w:World) (hx:Pl w x a) (hy:Pl w y b) (ha:sz 10000 a.natAbs≤549755813888) (hb:sz 10000 b.natAbs≤549755813888) :
  Calls Tryz.prog 264 #[x,y] w (fun e w'=>e= ah (Z I (yY a b))∧Below w.heap.size w w'):=by
 obtain ⟨bA,mK,lA,mP,rfl⟩:=hx.agg;obtain ⟨bB,pz,lB,pF,rfl⟩:=hy.agg;have NA:=zh hx;have NB:=zh hy;have KA:=zh ha;have KB:=zh hb;clear ha hb hx hy;unfold yY
 rcases Int.lt_trichotomy a b with h|h|h
 ·rw [if_pos h];have H:=zh h;clear h;go_enter Tryz.func264,Tryz.ntmps264
  go_wp2_with fail
  obtain ⟨oC,EW,hz,X1,X2⟩:=Lf w #[ak bA,aj mK lA mP] 161 #[ak bB,aj pz lB pF] 161;rw [EW];replace NA:=zh (NA.out.later hz);replace NB:=zh (NB.out.later hz);have hk2:=Bt (Below.refl _ _) hz;clear EW hz;refine (oV _ _ _ _ _ NA.out NB.out KA.out KB.out).mono ?_;rintro e pG ⟨v,rfl,hb3,hv⟩;obtain ⟨bD,paD,lD,caD,rfl⟩:=hv.agg;obtain ⟨hn,hbb⟩:=hv.nm;have hb1:bD=true:=hbb.trans (ag8 H);subst hb1
  skip
  clear hn hbb hv
  skip
  replace NA:=zh (NA.out.later hb3);replace NB:=zh (NB.out.later hb3);replace X1:=X1.bl hb3;replace X2:=X2.bl hb3;have hk5:=Bt hk2 hb3;clear hk2;clear hb3;go_wp2_with fail
  go_ret
  exact ⟨rfl,aJ⟩
 ·rw [if_neg zo,if_neg zo];have H:=zh h;clear h;go_enter Tryz.func264,Tryz.ntmps264
  go_wp2_with fail
  obtain ⟨oC,EW,hz,X1,X2⟩:=Lf w #[ak bA,aj mK lA mP] 161 #[ak bB,aj pz lB pF] 161;rw [EW];replace NA:=zh (NA.out.later hz);replace NB:=zh (NB.out.later hz);have hk2:=Bt (Below.refl _ _) hz;clear EW hz;refine (oV _ _ _ _ _ NA.out NB.out KA.out KB.out).mono ?_;rintro e pG ⟨v,rfl,hb3,hv⟩;obtain ⟨bD,paD,lD,caD,rfl⟩:=hv.agg;obtain ⟨hn,hbb⟩:=hv.nm;have hb1:bD=false:=hbb.trans (ah0 H);subst hb1;have hl0:lD=0:=hn.ah8 (Vt H);clear hn hbb hv;subst hl0;replace NA:=zh (NA.out.later hb3);replace NB:=zh (NB.out.later hb3);replace X1:=X1.bl hb3;replace X2:=X2.bl hb3;have hk5:=Bt hk2 hb3;clear hk2;clear hb3;go_wp2_with fail
  go_ret
  exact ⟨rfl,aJ⟩
 ·rw [if_neg zo,if_pos h];have H:=zh h;clear h;go_enter Tryz.func264,Tryz.ntmps264
  go_wp2_with fail
  obtain ⟨oC,EW,hz,X1,X2⟩:=Lf w #[ak bA,aj mK lA mP] 161 #[ak bB,aj pz lB pF] 161;rw [EW];replace NA:=zh (NA.out.later hz);replace NB:=zh (NB.out.later hz);have hk2:=Bt (Below.refl _ _) hz;clear EW hz;refine (oV _ _ _ _ _ NA.out NB.out KA.out KB.out).mono ?_;rintro e pG ⟨v,rfl,hb3,hv⟩;obtain ⟨bD,paD,lD,caD,rfl⟩:=hv.agg;obtain ⟨hn,hbb⟩:=hv.nm;have hb1:bD=false:=hbb.trans (ag9 H);subst hb1;have hl0:0<lD:=hn.ah7 (YF H);clear hn hbb hv
  skip
  replace NA:=zh (NA.out.later hb3);replace NB:=zh (NB.out.later hb3);replace X1:=X1.bl hb3;replace X2:=X2.bl hb3;have hk5:=Bt hk2 hb3;clear hk2;clear hb3;go_wp2_with fail
  go_ret
  exact ⟨rfl,aJ⟩
theorem Vd {P:Program} {fn:Func} {R:Ending→World→Prop} {w:World} {tmps:Array Value} {p q:Tmp} {ty t Bf t2:TypeId} {g g2:Nat} {cs cs2:Array Value} {d d2:TypeDesc} (h:fn.results=#[.cell p ty,.cell q Bf])
  (hp:tmps.getD p undef= aA (some ⟨g,0,none⟩)) (hg:aB w g cs t) (hu:P.underlying ty=some d)
  (hd:(match d with| .struct _| .array _ _=>true| _=>false)=true) (hi:(P.info? ty).map (·.size)=some cs.size)
  (hp2:tmps.getD q undef= aA (some ⟨g2,0,none⟩)) (hg2:aB w g2 cs2 t2) (hu2:P.underlying Bf=some d2)
  (hd2:(match d2 with| .struct _| .array _ _=>true| _=>false)=true) (hi2:(P.info? Bf).map (·.size)=some cs2.size)
  (k:R (ah (aD #[au cs,au cs2])) w):bodyPost P fn R .ret { tmps:=tmps,defers:=[] } w:=by
 refine bodyPost_ret ?_ rfl k
 have e:(results fn tmps).run P w=((asAddr (tmps.getD p undef)).run P w).andThen fun a w₁=>((loadVar ty a).run P w₁).andThen fun v w₂=>((asAddr (tmps.getD q undef)).run P w₂).andThen fun a w₁=>((loadVar Bf a).run P w₁).andThen fun v2 w₂=>.ok (aD #[v,v2]) w₂:=by
  simp only [results,h];simp [Sem.run_bind,Result.andThen]
 rw [e,hp,hp2];simp only [asAddr,Sem.run_pure,Result.andThen_ok];rw [run_loadVar_row w g t ty cs (0,0) d hg hu hd hi];simp only [Result.andThen_ok,Sem.run_pure];rw [run_loadVar_row w g2 t2 Bf cs2 (0,0) d2 hg2 hu2 hd2 hi2];rfl
theorem Nm.inj {w:World} {v:Value} {m n:Nat} (h:Nm w v m) (k:Nm w v n):m=n:=by
 obtain ⟨p,c,rfl, -, -, h1⟩:=Gs.read h.gs;obtain ⟨p',c',e, -, -, h2⟩:=Gs.read k.gs;simp only [Value.slice.injEq] at e;obtain ⟨rfl,hl,rfl⟩:=e
 have:d9 10000 m=d9 10000 n:=by
  refine List.ext_getElem hl fun i hi hi2=>?_;obtain ⟨b,o,e, -, hc⟩:=h1 i hi;obtain ⟨b',o',e', -, hc'⟩:=h2 i hi2;rw [e] at e';simp only [Option.some.injEq,Addr.mk.injEq,and_true] at e';obtain ⟨rfl,rfl⟩:=e';rw [hc] at hc';simp only [Option.some.injEq,Value.int.injEq,true_and] at hc';rw [cK,cK,List.getElem?_eq_getElem hi,List.getElem?_eq_getElem hi2] at hc'
  simpa using Int.ofNat_inj.mp hc'
 rw [← bY (B:=10000) zo m,this,bY zo]
open Classical in
noncomputable def ah5 (w:World) (v:Value):Nat:=if h:∃ n,Nm w v n then h.choose else 0
theorem Pw {w:World} {v:Value} {n:Nat} (h:Nm w v n):ah5 w v=n:=by
 unfold ah5;rw [dif_pos ⟨n,h⟩];exact Nm.inj (Exists.choose_spec (⟨n,h⟩:∃ n,Nm w v n)) h
theorem xU (x y:Value) (a b:Int) (w:World) (hx:Pl w x a) (hy:Pl w y b) (ha:sz 10000 a.natAbs≤274877906944) (hb:sz 10000 b.natAbs≤274877906944) :
  Calls Tryz.prog 208 #[x,y] w (Al w (Nat.gcd a.natAbs b.natAbs)):=by
 obtain ⟨bA,mK,lA,mP,rfl⟩:=hx.agg;obtain ⟨bB,pz,lB,pF,rfl⟩:=hy.agg;have NA:=zh hx.nm.1;have NB:=zh hy.nm.1;obtain ⟨G,EG⟩:∃ G,Nat.gcd a.natAbs b.natAbs=G:=⟨_,rfl⟩;rw [EG];have HG:=zh EG;have KA:=zh ha;have KB:=zh hb;have h0:Below w.heap.size w (((w.alloc (.cells #[ak bA,aj mK lA mP] 161)).alloc (.cells #[ak bB,aj pz lB pF] 161)).alloc (.cells #[ak false,aj none 0 0] 161)):=aJ;obtain ⟨W,EW⟩:∃ y,((w.alloc (.cells #[ak bA,aj mK lA mP] 161)).alloc (.cells #[ak bB,aj pz lB pF] 161)).alloc (.cells #[ak false,aj none 0 0] 161)=y:=⟨_,rfl⟩;have hx1:aB W w.heap.size #[ak bA,aj mK lA mP] 161:=by rw [← EW];exact bI
 have hx2:aB W (w.heap.size+1) #[ak bB,aj pz lB pF] 161:=by rw [← EW];exact bI
 have hx3:aB W (w.heap.size+1+1) #[ak false,aj none 0 0] 161:=by rw [← EW];exact aB.at2 _ _ _ _ _
 rw [EW] at h0;have c1:=hx1.cell;have c2:=hx2.cell;have l1:=hx1.lt;have l2:=hx2.lt;have X7:=zh hx3;clear EG hx hy ha hb hx1 hx2 hx3;go_enter Tryz.func208,Tryz.ntmps208
 go_wp2_with fail
 go_quiet (fail)
 clear EW c1 c2 l1 l2;have hq:Below W.heap.size W (W.drewN nq):=below_drewN (Below.refl _ _) _;obtain ⟨W1,E1⟩:∃ y,W.drewN nq=y:=⟨_,rfl⟩;rw [E1] at hq ⊢;clear E1;replace X7:=zh (X7.out.later hq);have h1:=Bt h0 hq;have HA1:=zh (NA.out.later h1);have HB1:=zh (NB.out.later h1);clear hq h0 NA NB;go_wp2_with fail
 go_loopw [5,6,7,8] (fun xv yv _ _ wr=>∃ p q:Nat,Hid (Nm wr xv p)∧Hid (Nm wr yv q)∧Hid (Nat.gcd p q=G)∧Hid (sz 10000 p≤274877906944)∧Hid (sz 10000 q≤274877906944)∧Hid (Below W1.heap.size W1 wr)) (fun _ yv _ _ wr=>ah5 wr yv)
 case atStart=>exact ⟨_,_,HA1,HB1,HG,KA,KB,zh (Below.refl _ _)⟩
 case round =>
  clear HA1 HB1;obtain ⟨p,q,HP,HQ,HPG,KP,KQ,HB⟩:=hrel;obtain ⟨pp,lp,cp,rfl⟩:=HP.out.slice;obtain ⟨pq,lq,cq,rfl⟩:=HQ.out.slice
  rcases aX q with h0|h0
  ·subst h0;have hl:=HQ.out.ah8 rfl;subst hl;have hpg:Hid (p=G):=zh (by have:=HPG.out;rwa [Nat.gcd_zero_right] at this);have hres:=X7.out.later HB.out;have cr:=hres.cell;have fr:=hres.free;go_wp2_with fail
   refine ig rfl rfl bI Tryz.underlying161 rfl zk ?_;have hlt:=X7.out.lt;have hB2:Below w.heap.size w wr:=Bt h1 HB.out;refine ⟨_,rfl,aJ,Pl.mk (n:=p) ((HP.out.setOther hres zd 0 _).setOther (hres.set 0 _) zd 1 _) (by rw [hpg.out];rfl) ?_⟩;simp
  ·have hl:=HQ.out.ah7 h0;have HPT:=zh (CO _ _ p q wr HP.out HQ.out h0 KP.out KQ.out);have H0:=zh h0;clear h0;go_wp2_with fail
   refine HPT.out.mono ?_;rintro e w2 ⟨qv,rv,rfl,hb2,hq2,hr2⟩;obtain ⟨p3,l3,c3,rfl⟩:=hq2.slice;obtain ⟨p4,l4,c4,rfl⟩:=hr2.slice;have HR2:=zh hr2;have HQ2:=zh (HQ.out.later hb2);have HB2:=zh (Bt HB.out hb2);clear hr2 hq2 hb2 HPT;go_wp2_with fail
   go_roundw
   case rel =>
    refine ⟨q,p%q,HQ2,HR2,zh ?_,KQ,zh ?_,HB2⟩
    ·rw [Nat.gcd_comm,← Nat.gcd_rec,Nat.gcd_comm];exact HPG.out
    ·exact ay (fB zo (Nat.mod_le _ _)) KP.out
   case measure =>
    rw [Pw HR2.out,Pw HQ.out];exact fI _ H0.out
end Go.Proofs.aF
namespace Go.Proofs.aF
open Go Go.RowKit Go.SW Go.Num Go.Mem Go.Proofs
theorem Yp {a b:Int} (hb:0<b) (h:0≤a∨b ∣ a):jh (a.natAbs / b.natAbs) (decide (a<0))=a / b∧jh (a.natAbs%b.natAbs) (decide (a<0))=a%b∧0≤a%b:=by
 have hm:=Int.emod_nonneg a (show b≠0 by omega)
 rcases h with h|h
 ·have h1:¬ a<0:=by omega
  unfold jh;simp only [h1,decide_false,dG,if_false];obtain ⟨x,rfl⟩:=Int.eq_ofNat_of_zero_le h;obtain ⟨y,rfl⟩:=Int.eq_ofNat_of_zero_le (Int.le_of_lt hb);simp only [Int.natAbs_natCast];exact ⟨by rw [Int.natCast_ediv],by rw [Int.natCast_emod],hm⟩
 ·have e1:a%b=0:=Int.emod_eq_zero_of_dvd h;have e2:a.natAbs%b.natAbs=0:=Nat.mod_eq_zero_of_dvd (Int.natAbs_dvd_natAbs.2 h);refine ⟨?_,by rw [e1,e2];unfold jh;simp,hm⟩;obtain ⟨c,rfl⟩:=h;have h2:=Jy (z:=b*c) (y:=b) ⟨c,rfl⟩;have h3:¬ b<0:=by omega
  simpa [h3] using h2
def uf (w:World) (q r:Int) (e:Ending) (w':World):Prop:=∃ x y,e= ah (aD #[x,y])∧Below w.heap.size w w'∧Pl w' x q∧Pl w' y r
theorem vJ (x y:Value) (a b:Int) (w:World) (hx:Pl w x a) (hy:Pl w y b) (ha:sz 10000 a.natAbs≤274877906944) (hb:sz 10000 b.natAbs≤274877906944) (hb0:0<b) (hd:0≤a∨b ∣ a) :
  Calls Tryz.prog 262 #[x,y] w (uf w (a / b) (a%b)):=by
 obtain ⟨bA,mK,lA,mP,rfl⟩:=hx.agg;obtain ⟨bB,pz,lB,pF,rfl⟩:=hy.agg;obtain ⟨nA,eA⟩:=hx.nm;obtain ⟨nB,eB⟩:=hy.nm;have hbf:bB=false:=by rw [eB];simp;omega
 subst hbf;obtain ⟨s1,s2,s3⟩:=Yp hb0 hd;rw [← eA] at s1 s2;have uw:=zh nA;have zA:=zh nB;have KA:=zh ha;have KB:=zh hb;have H0:Hid (0<b.natAbs):=zh zo;have HS1:=zh s1;have HS2:=zh s2;have HS3:=zh s3;clear hx hy ha hb hb0 hd nA nB eA eB s1 s2 s3;go_enter Tryz.func262,Tryz.ntmps262
 go_wp2_with fail
 obtain ⟨oC,EW,hz,X1,X2,X3,X4⟩:=al4 w #[ak bA,aj mK lA mP] 161 #[ak false,aj pz lB pF] 161 #[ak false,aj none 0 0] 161 #[ak false,aj none 0 0] 161;rw [EW];replace uw:=zh (uw.out.later hz);have hk2:=Bt (Below.refl _ _) hz;clear EW hz;refine (CO _ _ _ _ _ uw.out (zA.out.later hk2) H0.out KA.out KB.out).mono ?_;rintro e pG ⟨q,r,rfl,hb3,hq,hr⟩;obtain ⟨paQ,lQ,caQ,rfl⟩:=hq.slice;obtain ⟨YB,lR,ZF,rfl⟩:=hr.slice;replace uw:=zh (uw.out.later hb3);replace X1:=X1.bl hb3;replace X2:=X2.bl hb3;replace X3:=X3.bl hb3;replace X4:=X4.bl hb3;have hk5:=Bt hk2 hb3;clear hk2;have NQ:=zh hq;have NR:=zh hr;clear hb3 hq hr;have HL4:=zh X4.out.lt;go_wp2_with fail
 obtain ⟨nK,nI,oq⟩:=X1.clf;obtain ⟨uE,uz,xW⟩:=X2.clf;refine aO [(.pure,0),(.read,1),(.pure,2),(.read,3),(.pure,4),(.pure,5),(.pure,7),(.read,8),(.pure,9),(.ext,6),(.ext,10),(.alloc #[ak false,aj none 0 0] 161,11),(.alloc #[ak false,aj none 0 0] 161,12),(.fin,13),(.fin,14)] zk zk zR zP ?_;refine zV ?_;refine aU rfl rfl (fun G6 hb6 J hJ=>?_);go_simp;have wR:Below pG.heap.size pG G6:=aJ;clear hb6;refine (tJ _ _ _ _ _ (NQ.out.later wR) HS1.out).mono ?_;rintro e wG ⟨v,rfl,kR,tL⟩;obtain ⟨bU,RP,lU,SN,rfl⟩:=tL.agg;refine hJ _ _ kR ?_;clear hJ J;have Di:=Bt wR kR;have NU:=zh tL;clear wR kR tL;refine zV ?_;refine aU rfl rfl (fun Fh uD J hJ=>?_);go_simp;have qg:Below pG.heap.size pG Fh:=Bt Di aJ;replace NU:=zh (NU.out.later (show Below wG.heap.size wG Fh from aJ));clear uD Di
 refine (tJ _ _ _ _ _ (NR.out.later qg) HS2.out).mono ?_;rintro e mQ ⟨v,rfl,jW,hv⟩;obtain ⟨bV,RO,lV,SK,rfl⟩:=hv.agg;have hbv:bV=false:=hv.nm.2.trans (decide_eq_false (by have:=HS3.out;omega));subst hbv;refine hJ _ _ jW ?_;clear hJ J;have qD:=Bt qg jW;replace NU:=zh (NU.out.later jW);have NV:=zh hv;clear qg jW hv;refine zV ?_;refine eX rfl (fun kC av2 Kj mW yL Dx kN=>?_);go_simp;replace kN:aB _ _ _ _:=kN;have Du:w.heap.size≤kC:=(by first|omega|exact ay (Below.size (B:=w.heap.size) aJ) mW);refine eX rfl (fun nL aE1 Ki rA Iz Dw tK=>?_);go_simp;replace tK:aB _ _ _ _:=tK;have Nt:w.heap.size≤nL:=(by first|omega|exact ay (Below.size (B:=w.heap.size) aJ) rA);replace kN:=aB.later kN Ki;have hne:kC≠nL:=fun h=>Dw (by simp [h])
 have hne2:nL≠kC:=fun h=>hne h.symm;refine dD [_,_] rfl (fun Yf aj7=>?_);replace NU:=zh (NU.out.later (show Below mQ.heap.size mQ Yf from aJ));replace NV:=zh (NV.out.later (show Below mQ.heap.size mQ Yf from aJ));have Sm:Below pG.heap.size pG Yf:=Bt qD aJ;have hq0:=kN.later aj7;have WX:=hq0.cell;have WC:=hq0.free;have hq1:=tK.later aj7;have ZC:=hq1.cell;have Zn:=hq1.free;clear kN tK aj7 qD;clear nK nI oq uE uz xW;go_wp2_with fail
 obtain ⟨ae2,EW⟩:∃ y,((((Yf.setCell ⟨kC,0,none⟩ (ak bU)).setCell ⟨kC,1,none⟩ (aj RP lU SN)).setCell ⟨nL,0,none⟩ (ak false)).setCell ⟨nL,1,none⟩ (aj RO lV SK))=y:=⟨_,rfl⟩;have hz:Below pG.heap.size pG ae2:=by rw [← EW];exact ((((Sm.setCell mW _).setCell mW _).setCell rA _).setCell rA _)
 have X5:Hid (aB ae2 kC #[ak bU,aj RP lU SN] 161):=zh (by rw [← EW];exact ((((hq0.set 0 _).set 1 _).setOther _ (by first|exact hne|exact hne2)).setOther _ (by first|exact hne|exact hne2)));have X6:Hid (aB ae2 nL #[ak false,aj RO lV SK] 161):=zh (by rw [← EW];exact ((((hq1.setOther _ (by first|exact hne|exact hne2)).setOther _ (by first|exact hne|exact hne2)).set 0 _).set 1 _));have t:=((((NU.out.setOther hq0 zd 0 (ak bU)).setOther (hq0.set 0 _) zd 1 (aj RP lU SN)).setOther ((hq1.setOther _ (by first|exact hne|exact hne2)).setOther _ (by first|exact hne|exact hne2)) zd 0 (ak false)).setOther (((hq1.setOther _ (by first|exact hne|exact hne2)).setOther _ (by first|exact hne|exact hne2)).set 0 _) zd 1 (aj RO lV SK));rw [EW] at t;replace NU:=zh t;clear t
 have t:=((((NV.out.setOther hq0 zd 0 (ak bU)).setOther (hq0.set 0 _) zd 1 (aj RP lU SN)).setOther ((hq1.setOther _ (by first|exact hne|exact hne2)).setOther _ (by first|exact hne|exact hne2)) zd 0 (ak false)).setOther (((hq1.setOther _ (by first|exact hne|exact hne2)).setOther _ (by first|exact hne|exact hne2)).set 0 _) zd 1 (aj RO lV SK));rw [EW] at t;replace NV:=zh t;clear t;rw [EW];clear EW hq0 WX WC hq1 ZC Zn Sm;clear uw;replace X1:=X1.bl hz;replace X2:=X2.bl hz;replace X3:=X3.bl hz;replace X4:=X4.bl hz;replace NQ:=zh (NQ.out.later hz);replace NR:=zh (NR.out.later hz);have aX7:=Bt hk5 hz;clear hk5;clear hz;clear Kj Dx Dw Du Nt Ki;have aj3:=mW;have aj2:=rA;clear mW rA yL Iz;have c5:=X5.out.cell;have c6:=X6.out.cell;have c3:=X3.out.cell;have c4:=X4.out.cell;have f3:=X3.out.free;have f4:=X4.out.free
 have hl4:=HL4.out;have n1:nL≠w.heap.size+1+1:=by omega
 have n2:nL≠w.heap.size+1+1+1:=by omega
 have n3:kC≠w.heap.size+1+1:=by omega
 have n4:kC≠w.heap.size+1+1+1:=by omega
 have h3:=X3.out;have h4:=X4.out;clear X1 X2 X5 X6 NQ NR HS1 HS2 HS3 H0 KA KB zA hne hne2 hl4 HL4 aj3 aj2;go_region
 go_wp2_with fail
 have h4b:=(h4.setOther (a:=⟨w.heap.size+1+1,0,none⟩) (ak bU) zi).setOther (a:=⟨w.heap.size+1+1,1,none⟩) (aj RP lU SN) zi;have h3b:=(((h3.set 0 (ak bU)).set 1 (aj RP lU SN)).setOther (a:=⟨w.heap.size+1+1+1,0,none⟩) (ak false) zi).setOther (a:=⟨w.heap.size+1+1+1,1,none⟩) (aj RO lV SK) zi;have hU:=(NU.out.set2 h3 zd 0 1 (ak bU) (aj RP lU SN)).set2 h4b zd 0 1 (ak false) (aj RO lV SK);have hV:=(NV.out.set2 h3 zd 0 1 (ak bU) (aj RP lU SN)).set2 h4b zd 0 1 (ak false) (aj RO lV SK);refine Vd rfl rfl (aB.drew h3b) Tryz.underlying161 rfl zk rfl (aB.drew ((h4b.set 0 (ak false)).set 1 (aj RO lV SK))) Tryz.underlying161 rfl zk ?_;exact ⟨_,_,rfl,aJ,hU.later (Below.drew (Below.refl _ _)),hV.later (Below.drew (Below.refl _ _))⟩
end Go.Proofs.aF
namespace Go.Proofs.aF
open Go Go.RowKit Go.SW Go.Num Go.Mem Go.Proofs Go.Dec
theorem Zo (d:Nat) (hd:d<10000) (w:World) :
  Calls Tryz.prog 259 #[Z I (d:Int)] w fun e w'=>e= ah (O ⟨(pad 4 d).toArray⟩)∧Below w.heap.size w w':=by
 have hp:pad 4 d=[UInt8.ofNat (48+d / 1000),UInt8.ofNat (48+d / 100%10),UInt8.ofNat (48+d / 10%10),UInt8.ofNat (48+d%10)]:=by
  simp only [pad,List.nil_append,dx];rw [show d / 10 / 10 / 10%10=d / 1000 by omega,show d / 10 / 10%10=d / 100%10 by omega]
 have hb:∀ x:Nat,x<10→((UInt8.ofNat (48+x)).toNat:Int)=48+(x:Int):=fun x hx=>by
  rw [ou hx];omega
 have e1:=hb (d / 1000) zo;have e2:=hb (d / 100%10) zo;have e3:=hb (d / 10%10) zo;have e4:=hb (d%10) zo
 have hcv:(convert 275 9 (aj (some ⟨w.heap.size,0,none⟩) 4 4)).run Tryz.prog (w.alloc (.cells #[Z .u8 (48+(d:Int) / 1000),Z .u8 (48+(d:Int) / 100%10),Z .u8 (48+(d:Int) / 10%10),Z .u8 (48+(d:Int)%10)] 5))
   = .ok (O ⟨(pad 4 d).toArray⟩) (w.alloc (.cells #[Z .u8 (48+(d:Int) / 1000),Z .u8 (48+(d:Int) / 100%10),Z .u8 (48+(d:Int) / 10%10),Z .u8 (48+(d:Int)%10)] 5)):=by
  have hx:=aB.new w #[Z .u8 (48+(d:Int) / 1000),Z .u8 (48+(d:Int) / 100%10),Z .u8 (48+(d:Int) / 10%10),Z .u8 (48+(d:Int)%10)] 5;have hl:=qy 4 d
  have:=run_convert_bytes_back (P:=Tryz.prog) (w.alloc (.cells #[Z .u8 (48+(d:Int) / 1000),Z .u8 (48+(d:Int) / 100%10),Z .u8 (48+(d:Int) / 10%10),Z .u8 (48+(d:Int)%10)] 5)) 275 9 5 ⟨w.heap.size,0,none⟩ 4 (pad 4 d) Tryz.underlying275 Tryz.underlying5 Tryz.underlying9 (fun j hj=>by
   rw [Addr.add_lit,hx.cell,dJ];rw [hl] at hj
   match j,hj with
   | 0,_=>simp only [hp,List.getElem_cons_zero,e1];rfl
   | 1,_=>simp only [hp,List.getElem_cons_zero,List.getElem_cons_succ,e2];rfl
   | 2,_=>simp only [hp,List.getElem_cons_zero,List.getElem_cons_succ,e3];rfl
   | 3,_=>simp only [hp,List.getElem_cons_zero,List.getElem_cons_succ,e4];rfl)
  rwa [hl] at this
 obtain ⟨B,EB⟩:∃ B:ByteArray,Hid ((⟨(pad 4 d).toArray⟩:ByteArray)=B):=⟨_,zh rfl⟩;rw [EB.out] at hcv ⊢;clear e1 e2 e3 e4 hb hp EB;go_enter Tryz.func259,Tryz.ntmps259
 go_wp2
 go_ret
 exact ⟨rfl,aJ⟩
def txt:List Nat→List UInt8
 | []=>[]
 | d::l=>txt l++pad 4 d
theorem UN {l:List Nat} {i:Nat} (h:i<l.length):txt (l.drop i)=txt (l.drop (i+1))++pad 4 (l.getD i 0):=by
 rw [jZ h];rfl
theorem Hf:∀ {l:List Nat},gT 10000 l→Top l→l≠[]→∃ m,txt l=bW m 48++Lib.decDigits (val 10000 l)
 | [],_,_,h=>absurd rfl h
 | d::l,hd,ht,_=>by
  by_cases hl:l=[]
  ·subst hl;refine ⟨4 - (Lib.decDigits d).length,?_⟩;have h1:=yU 4 d zo (by have:=hd.head;omega)
   show []++pad 4 d=_
   rw [← h1];simp [val]
  ·obtain ⟨m,hm⟩:=Hf hd.tail ht.tail hl;refine ⟨m,?_⟩;have hp:=jl (B:=10000) zo ht.tail hl
   show txt l++pad 4 d=_
   rw [hm,jH,← BP 4 _ d hp (by have:=hd.head;omega)];simp only [val];rw [show val 10000 l*10^4+d=d+10000*val 10000 l by omega]
theorem OJ (l:List Nat):(txt l).length=4*l.length:=by
 induction l with
 | nil=>rfl
 | cons d l ih=>show (txt l++pad 4 d).length=_;rw [List.length_append,ih,qy,bg];omega
end Go.Proofs.aF
