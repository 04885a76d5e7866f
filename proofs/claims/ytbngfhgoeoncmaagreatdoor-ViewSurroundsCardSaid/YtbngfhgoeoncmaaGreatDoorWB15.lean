/- Lemmas for the proof. No condition. -/
import Derived.Test.YtbngfhgoeoncmaaGreatDoorWB09
import Derived.Test.YtbngfhgoeoncmaaGreatDoorWB13
import Derived.Test.YtbngfhgoeoncmaaGreatDoorWB14
import Derived.RegionTactic
import Derived.Deep.Cut
set_option linter.unusedVariables false
set_option linter.unusedSimpArgs false
set_option maxRecDepth 100000
set_option maxHeartbeats 16000000
open Bool renaming and_eq_true → aF, false_eq_true → cK
open Go.Ending renaming returned → aj
open Go.IntKind renaming i64 → I
open Go.Value renaming agg → aB, bool → ak, int → Z, pointer → ay, slice → ah, string → O, tuple → aD
open List renaming all_cons → gD, append_assoc → jP, cons_append → bP, getD_eq_getElem?_getD → cO, getElem?_append_left → eO, getElem?_append_right → fC, length_cons → aV, replicate → bJ, take_of_length_le → fu
open Nat renaming add_zero → fZ, eq_zero_or_pos → aY, le_refl → aC, le_trans → au, lt_of_lt_of_le → aP, mod_lt → gH, mul_comm → aJ, mul_le_mul → fq, mul_le_mul_right → aU, pow_add → gy, pow_le_pow_right → bW, pow_succ → bS, zero_add → dP
namespace Go.Proofs.aK
open Go Go.RowKit Go.SW Go.Num Go.Mem Go.Proofs
theorem ao0 {P:Program} {fn:Func} {R:Ending→World→Prop} {w:World} {tmps:Array Value} {p q:Tmp} {ty t AP t2:TypeId} {g g2:Nat} {cs cs2:Array Value} {d d2:TypeDesc} (h:fn.results=#[.cell p ty,.cell q AP])
  (hp:tmps.getD p undef= ay (some ⟨g,0,none⟩)) (hg:aA w g cs t) (hu:P.underlying ty=some d)
  (hd:(match d with| .struct _| .array _ _=>true| _=>false)=true) (hi:(P.info? ty).map (·.size)=some cs.size)
  (hp2:tmps.getD q undef= ay (some ⟨g2,0,none⟩)) (hg2:aA w g2 cs2 t2) (hu2:P.underlying AP=some d2)
  (hd2:(match d2 with| .struct _| .array _ _=>true| _=>false)=true) (hi2:(P.info? AP).map (·.size)=some cs2.size)
  (k:R (aj (aD #[aB cs,aB cs2])) w):bodyPost P fn R .ret { tmps:=tmps,defers:=[] } w:=by
 refine bodyPost_ret ?_ rfl k
 have e:(results fn tmps).run P w=((asAddr (tmps.getD p undef)).run P w).andThen fun a w₁=>((loadVar ty a).run P w₁).andThen fun v w₂=>((asAddr (tmps.getD q undef)).run P w₂).andThen fun a w₁=>((loadVar AP a).run P w₁).andThen fun v2 w₂=>.ok (aD #[v,v2]) w₂:=by
  simp only [results,h];simp [Sem.run_bind,Result.andThen]
 rw [e,hp,hp2];simp only [asAddr,Sem.run_pure,Result.andThen_ok];rw [run_loadVar_row w g t ty cs (0,0) d hg hu hd hi];simp only [Result.andThen_ok,Sem.run_pure];rw [run_loadVar_row w g2 t2 AP cs2 (0,0) d2 hg2 hu2 hd2 hi2];rfl
theorem Nm.inj {w:World} {v:Value} {m n:Nat} (h:Nm w v m) (k:Nm w v n):m=n:=by
 obtain ⟨p,c,rfl, -, -, h1⟩:=Gs.read h.gs;obtain ⟨p',c',e, -, -, h2⟩:=Gs.read k.gs;simp only [Value.slice.injEq] at e;obtain ⟨rfl,hl,rfl⟩:=e
 have:d9 10000 m=d9 10000 n:=by
  refine List.ext_getElem hl fun i hi hi2=>?_;obtain ⟨b,o,e, -, hc⟩:=h1 i hi;obtain ⟨b',o',e', -, hc'⟩:=h2 i hi2;rw [e] at e';simp only [Option.some.injEq,Addr.mk.injEq,and_true] at e';obtain ⟨rfl,rfl⟩:=e';rw [hc] at hc';simp only [Option.some.injEq,Value.int.injEq,true_and] at hc';rw [cO,cO,List.getElem?_eq_getElem hi,List.getElem?_eq_getElem hi2] at hc'
  simpa using Int.ofNat_inj.mp hc'
 rw [← bN (B:=10000) zo m,this,bN zo]
open Classical in
noncomputable def ap8 (w:World) (v:Value):Nat:=if h:∃ n,Nm w v n then h.choose else 0
theorem QO {w:World} {v:Value} {n:Nat} (h:Nm w v n):ap8 w v=n:=by
 unfold ap8;rw [dif_pos ⟨n,h⟩];exact Nm.inj (Exists.choose_spec (⟨n,h⟩:∃ n,Nm w v n)) h
theorem zl (x y:Value) (a b:Int) (w:World) (hx:Pl w x a) (hy:Pl w y b) (ha:sz 10000 a.natAbs≤274877906944) (hb:sz 10000 b.natAbs≤274877906944) :
  Calls Tryz.prog 189 #[x,y] w (Gq w (Nat.gcd a.natAbs b.natAbs)):=by
 obtain ⟨bA,oV,lA,pJ,rfl⟩:=hx.agg;obtain ⟨bB,qZ,lB,q8,rfl⟩:=hy.agg;have NA:=zh hx.nm.1;have NB:=zh hy.nm.1;obtain ⟨G,EG⟩:∃ G,Nat.gcd a.natAbs b.natAbs=G:=⟨_,rfl⟩;rw [EG];have HG:=zh EG;have KA:=zh ha;have KB:=zh hb;have h0:Below w.heap.size w (((w.alloc (.cells #[ak bA,ah oV lA pJ] 179)).alloc (.cells #[ak bB,ah qZ lB q8] 179)).alloc (.cells #[ak false,ah none 0 0] 179)):=aI;obtain ⟨W,EW⟩:∃ y,((w.alloc (.cells #[ak bA,ah oV lA pJ] 179)).alloc (.cells #[ak bB,ah qZ lB q8] 179)).alloc (.cells #[ak false,ah none 0 0] 179)=y:=⟨_,rfl⟩;have hx1:aA W w.heap.size #[ak bA,ah oV lA pJ] 179:=by rw [← EW];exact bq
 have hx2:aA W (w.heap.size+1) #[ak bB,ah qZ lB q8] 179:=by rw [← EW];exact bq
 have hx3:aA W (w.heap.size+1+1) #[ak false,ah none 0 0] 179:=by rw [← EW];exact aA.at2 _ _ _ _ _
 rw [EW] at h0;have c1:=hx1.cell;have c2:=hx2.cell;have l1:=hx1.lt;have l2:=hx2.lt;have Od:=zh hx3;clear EG hx hy ha hb hx1 hx2 hx3;go_enter Tryz.func189,Tryz.ntmps189
 go_wp2_with fail
 go_quiet (fail)
 clear EW c1 c2 l1 l2;have hq:Below W.heap.size W (W.drewN nq):=below_drewN (Below.refl _ _) _;obtain ⟨W1,E1⟩:∃ y,W.drewN nq=y:=⟨_,rfl⟩;rw [E1] at hq ⊢;clear E1;replace Od:=zh (Od.out.later hq);have h1:=Bt h0 hq;have HA1:=zh (NA.out.later h1);have HB1:=zh (NB.out.later h1);clear hq h0 NA NB;go_wp2_with fail
 go_loopw [5,6,7,8] (fun xv yv _ _ wr=>∃ p q:Nat,Hid (Nm wr xv p)∧Hid (Nm wr yv q)∧Hid (Nat.gcd p q=G)∧Hid (sz 10000 p≤274877906944)∧Hid (sz 10000 q≤274877906944)∧Hid (Bw W1 wr)) (fun _ yv _ _ wr=>ap8 wr yv)
 case atStart=>exact ⟨_,_,HA1,HB1,HG,KA,KB,zh (Below.refl _ _)⟩
 case round =>
  clear HA1 HB1;obtain ⟨p,q,HP,HQ,HPG,KP,KQ,HB⟩:=hrel;obtain ⟨pp,lp,cp,rfl⟩:=HP.out.slice;obtain ⟨pq,lq,cq,rfl⟩:=HQ.out.slice
  rcases aY q with h0|h0
  ·subst h0;have hl:=HQ.out.aq5 rfl;subst hl;have hpg:Hid (p=G):=zh (by have:=HPG.out;rwa [Nat.gcd_zero_right] at this);have hres:=Od.out.later HB.out;have cr:=hres.cell;have fr:=hres.free;go_wp2_with fail
   refine gG rfl rfl bq Tryz.underlying179 rfl zk ?_;have hlt:=Od.out.lt;have hB2:Bw w wr:=Bt h1 HB.out;refine ⟨_,rfl,aI,Pl.mk (n:=p) ((HP.out.setOther hres zd 0 _).setOther (hres.set 0 _) zd 1 _) (by rw [hpg.out];rfl) ?_⟩;simp
  ·have hl:=HQ.out.aq4 h0;have HPT:=zh (LQ _ _ p q wr HP.out HQ.out h0 KP.out KQ.out);have H0:=zh h0;clear h0;go_wp2_with fail
   refine HPT.out.mono ?_;rintro e w2 ⟨qv,rv,rfl,hb2,hq2,hr2⟩;obtain ⟨p3,l3,c3,rfl⟩:=hq2.slice;obtain ⟨p4,l4,c4,rfl⟩:=hr2.slice;have HR2:=zh hr2;have HQ2:=zh (HQ.out.later hb2);have HB2:=zh (Bt HB.out hb2);clear hr2 hq2 hb2 HPT;go_wp2_with fail
   go_roundw
   case rel =>
    refine ⟨q,p%q,HQ2,HR2,zh ?_,KQ,zh ?_,HB2⟩
    ·rw [Nat.gcd_comm,← Nat.gcd_rec,Nat.gcd_comm];exact HPG.out
    ·exact au (iJ zo (Nat.mod_le _ _)) KP.out
   case measure =>
    rw [QO HR2.out,QO HQ.out];exact gH _ H0.out
end Go.Proofs.aK
namespace Go.Proofs.aK
open Go Go.RowKit Go.SW Go.Num Go.Mem Go.Proofs
theorem YO {a b:Int} (hb:0<b) (h:0≤a∨b ∣ a):iR (a.natAbs / b.natAbs) (decide (a<0))=a / b∧iR (a.natAbs%b.natAbs) (decide (a<0))=a%b∧0≤a%b:=by
 have hm:=Int.emod_nonneg a (show b≠0 by omega)
 rcases h with h|h
 ·have h1:¬ a<0:=by omega
  unfold iR;simp only [h1,decide_false,cK,if_false];obtain ⟨x,rfl⟩:=Int.eq_ofNat_of_zero_le h;obtain ⟨y,rfl⟩:=Int.eq_ofNat_of_zero_le (Int.le_of_lt hb);simp only [Int.natAbs_natCast];exact ⟨by rw [Int.natCast_ediv],by rw [Int.natCast_emod],hm⟩
 ·have e1:a%b=0:=Int.emod_eq_zero_of_dvd h;have e2:a.natAbs%b.natAbs=0:=Nat.mod_eq_zero_of_dvd (Int.natAbs_dvd_natAbs.2 h);refine ⟨?_,by rw [e1,e2];unfold iR;simp,hm⟩;obtain ⟨c,rfl⟩:=h;have h2:=Lm (z:=b*c) (y:=b) ⟨c,rfl⟩;have h3:¬ b<0:=by omega
  simpa [h3] using h2
def Gr (w:World) (q r:Int) (e:Ending) (w':World):Prop:=∃ x y,e= aj (aD #[x,y])∧Bw w w'∧Pl w' x q∧Pl w' y r
theorem AB (x y:Value) (a b:Int) (w:World) (hx:Pl w x a) (hy:Pl w y b) (ha:sz 10000 a.natAbs≤274877906944) (hb:sz 10000 b.natAbs≤274877906944) (hb0:0<b) (hd:0≤a∨b ∣ a) :
  Calls Tryz.prog 262 #[x,y] w (Gr w (a / b) (a%b)):=by
 obtain ⟨bA,oV,lA,pJ,rfl⟩:=hx.agg;obtain ⟨bB,qZ,lB,q8,rfl⟩:=hy.agg;obtain ⟨nA,eA⟩:=hx.nm;obtain ⟨nB,eB⟩:=hy.nm;have hbf:bB=false:=by rw [eB];simp;omega
 subst hbf;obtain ⟨s1,s2,s3⟩:=YO hb0 hd;rw [← eA] at s1 s2;have xM:=zh nA;have Ch:=zh nB;have KA:=zh ha;have KB:=zh hb;have H0:Hid (0<b.natAbs):=zh zo;have HS1:=zh s1;have HS2:=zh s2;have HS3:=zh s3;clear hx hy ha hb hb0 hd nA nB eA eB s1 s2 s3;go_enter Tryz.func262,Tryz.ntmps262
 go_wp2_with fail
 obtain ⟨vk,EW,hz,X1,X2,X3,X4⟩:=al4 w #[ak bA,ah oV lA pJ] 179 #[ak false,ah qZ lB q8] 179 #[ak false,ah none 0 0] 179 #[ak false,ah none 0 0] 179;rw [EW];replace xM:=zh (xM.out.later hz);have hk2:=Bt (Below.refl _ _) hz;clear EW hz;refine (LQ _ _ _ _ _ xM.out (Ch.out.later hk2) H0.out KA.out KB.out).mono ?_;rintro e um ⟨q,r,rfl,hb3,hq,hr⟩;obtain ⟨paQ,lQ,caQ,rfl⟩:=hq.slice;obtain ⟨paR,lR,caR,rfl⟩:=hr.slice;replace xM:=zh (xM.out.later hb3);replace X1:=X1.bl hb3;replace X2:=X2.bl hb3;replace X3:=X3.bl hb3;replace X4:=X4.bl hb3;have hk5:=Bt hk2 hb3;clear hk2;have NQ:=zh hq;have NR:=zh hr;clear hb3 hq hr;have HL4:=zh X4.out.lt;go_wp2_with fail
 obtain ⟨qx,qo,sS⟩:=X1.clf;obtain ⟨Cz,Cr,IZ⟩:=X2.clf;refine aO [(.pure,0),(.read,1),(.pure,2),(.read,3),(.pure,4),(.pure,5),(.pure,7),(.read,8),(.pure,9),(.ext,6),(.ext,10),(.alloc #[ak false,ah none 0 0] 179,11),(.alloc #[ak false,ah none 0 0] 179,12),(.fin,13),(.fin,14)] zk zk zR zP ?_;refine zV ?_;refine aL rfl rfl (fun Le hb6 J hJ=>?_);go_simp;have AQ:Bw um Le:=aI;clear hb6;refine (zQ _ _ _ _ _ (NQ.out.later AQ) HS1.out).mono ?_;rintro e Jl ⟨v,rfl,jY,wF⟩;obtain ⟨bU,paU,lU,caU,rfl⟩:=wF.agg;refine hJ _ _ jY ?_;clear hJ J;have IW:=Bt AQ jY;have NU:=zh wF;clear AQ jY wF;refine zV ?_;refine aL rfl rfl (fun K8 rJ J hJ=>?_);go_simp;have rH:Bw um K8:=Bt IW aI;replace NU:=zh (NU.out.later (show Bw Jl K8 from aI));clear rJ IW
 refine (zQ _ _ _ _ _ (NR.out.later rH) HS2.out).mono ?_;rintro e xP ⟨v,rfl,lN,hv⟩;obtain ⟨bV,paV,lV,caV,rfl⟩:=hv.agg;have hbv:bV=false:=hv.nm.2.trans (decide_eq_false (by have:=HS3.out;omega));subst hbv;refine hJ _ _ lN ?_;clear hJ J;have tK:=Bt rH lN;replace NU:=zh (NU.out.later lN);have NV:=zh hv;clear rH lN hv;refine zV ?_;refine dU rfl (fun BA aQ9 Wj sD J4 Pn qO=>?_);go_simp;replace qO:aA _ _ _ _:=qO;have Pk:w.heap.size≤BA:=(by first|omega|exact au (Below.size (B:=w.heap.size) aI) sD);refine dU rfl (fun Nj be3 af5 FL ZM WI JZ=>?_);go_simp;replace JZ:aA _ _ _ _:=JZ;have au3:w.heap.size≤Nj:=(by first|omega|exact au (Below.size (B:=w.heap.size) aI) FL);replace qO:=aA.later qO af5;have hne:BA≠Nj:=fun h=>WI (by simp [h])
 have hne2:Nj≠BA:=fun h=>hne h.symm;refine cZ [_,_] rfl (fun Yy as9=>?_);replace NU:=zh (NU.out.later (show Bw xP Yy from aI));replace NV:=zh (NV.out.later (show Bw xP Yy from aI));have aH1:Bw um Yy:=Bt tK aI;have hq0:=qO.later as9;have cq0:=hq0.cell;have Z5:=hq0.free;have hq1:=JZ.later as9;have cq1:=hq1.cell;have fq1:=hq1.free;clear qO JZ as9 tK;clear qx qo sS Cz Cr IZ;go_wp2_with fail
 obtain ⟨am1,EW⟩:∃ y,((((Yy.setCell ⟨BA,0,none⟩ (ak bU)).setCell ⟨BA,1,none⟩ (ah paU lU caU)).setCell ⟨Nj,0,none⟩ (ak false)).setCell ⟨Nj,1,none⟩ (ah paV lV caV))=y:=⟨_,rfl⟩;have hz:Bw um am1:=by rw [← EW];exact ((((aH1.setCell sD _).setCell sD _).setCell FL _).setCell FL _)
 have X5:Hid (aA am1 BA #[ak bU,ah paU lU caU] 179):=zh (by rw [← EW];exact ((((hq0.set 0 _).set 1 _).setOther _ (by first|exact hne|exact hne2)).setOther _ (by first|exact hne|exact hne2)));have X6:Hid (aA am1 Nj #[ak false,ah paV lV caV] 179):=zh (by rw [← EW];exact ((((hq1.setOther _ (by first|exact hne|exact hne2)).setOther _ (by first|exact hne|exact hne2)).set 0 _).set 1 _));have t:=((((NU.out.setOther hq0 zd 0 (ak bU)).setOther (hq0.set 0 _) zd 1 (ah paU lU caU)).setOther ((hq1.setOther _ (by first|exact hne|exact hne2)).setOther _ (by first|exact hne|exact hne2)) zd 0 (ak false)).setOther (((hq1.setOther _ (by first|exact hne|exact hne2)).setOther _ (by first|exact hne|exact hne2)).set 0 _) zd 1 (ah paV lV caV));rw [EW] at t;replace NU:=zh t;clear t
 have t:=((((NV.out.setOther hq0 zd 0 (ak bU)).setOther (hq0.set 0 _) zd 1 (ah paU lU caU)).setOther ((hq1.setOther _ (by first|exact hne|exact hne2)).setOther _ (by first|exact hne|exact hne2)) zd 0 (ak false)).setOther (((hq1.setOther _ (by first|exact hne|exact hne2)).setOther _ (by first|exact hne|exact hne2)).set 0 _) zd 1 (ah paV lV caV));rw [EW] at t;replace NV:=zh t;clear t;rw [EW];clear EW hq0 cq0 Z5 hq1 cq1 fq1 aH1;clear xM;replace X1:=X1.bl hz;replace X2:=X2.bl hz;replace X3:=X3.bl hz;replace X4:=X4.bl hz;replace NQ:=zh (NQ.out.later hz);replace NR:=zh (NR.out.later hz);have bi7:=Bt hk5 hz;clear hk5;clear hz;clear Wj Pn WI Pk au3 af5;have as6:=sD;have as5:=FL;clear sD FL J4 ZM;have c5:=X5.out.cell;have c6:=X6.out.cell;have c3:=X3.out.cell;have c4:=X4.out.cell;have f3:=X3.out.free;have f4:=X4.out.free
 have hl4:=HL4.out;have n1:Nj≠w.heap.size+1+1:=by omega
 have n2:Nj≠w.heap.size+1+1+1:=by omega
 have n3:BA≠w.heap.size+1+1:=by omega
 have n4:BA≠w.heap.size+1+1+1:=by omega
 have h3:=X3.out;have h4:=X4.out;clear X1 X2 X5 X6 NQ NR HS1 HS2 HS3 H0 KA KB Ch hne hne2 hl4 HL4 as6 as5;go_region
 go_wp2_with fail
 have h4b:=(h4.setOther (a:=⟨w.heap.size+1+1,0,none⟩) (ak bU) zi).setOther (a:=⟨w.heap.size+1+1,1,none⟩) (ah paU lU caU) zi;have h3b:=(((h3.set 0 (ak bU)).set 1 (ah paU lU caU)).setOther (a:=⟨w.heap.size+1+1+1,0,none⟩) (ak false) zi).setOther (a:=⟨w.heap.size+1+1+1,1,none⟩) (ah paV lV caV) zi;have hU:=(NU.out.set2 h3 zd 0 1 (ak bU) (ah paU lU caU)).set2 h4b zd 0 1 (ak false) (ah paV lV caV);have hV:=(NV.out.set2 h3 zd 0 1 (ak bU) (ah paU lU caU)).set2 h4b zd 0 1 (ak false) (ah paV lV caV);refine ao0 rfl rfl (aA.drew h3b) Tryz.underlying179 rfl zk rfl (aA.drew ((h4b.set 0 (ak false)).set 1 (ah paV lV caV))) Tryz.underlying179 rfl zk ?_;exact ⟨_,_,rfl,aI,hU.later (Below.drew (Below.refl _ _)),hV.later (Below.drew (Below.refl _ _))⟩
end Go.Proofs.aK
namespace Go.Proofs.aK
open Go Go.RowKit Go.SW Go.Num Go.Mem Go.Proofs Go.Dec
theorem Z6 (d:Nat) (hd:d<10000) (w:World) :
  Calls Tryz.prog 259 #[Z I (d:Int)] w fun e w'=>e= aj (O ⟨(pad 4 d).toArray⟩)∧Bw w w':=by
 have hp:pad 4 d=[UInt8.ofNat (48+d / 1000),UInt8.ofNat (48+d / 100%10),UInt8.ofNat (48+d / 10%10),UInt8.ofNat (48+d%10)]:=by
  simp only [pad,List.nil_append,bP];rw [show d / 10 / 10 / 10%10=d / 1000 by omega,show d / 10 / 10%10=d / 100%10 by omega]
 have hb:∀ x:Nat,x<10→((UInt8.ofNat (48+x)).toNat:Int)=48+(x:Int):=fun x hx=>by
  rw [oJ hx];omega
 have e1:=hb (d / 1000) zo;have e2:=hb (d / 100%10) zo;have e3:=hb (d / 10%10) zo;have e4:=hb (d%10) zo
 have hcv:(convert 288 9 (ah (some ⟨w.heap.size,0,none⟩) 4 4)).run Tryz.prog (w.alloc (.cells #[Z .u8 (48+(d:Int) / 1000),Z .u8 (48+(d:Int) / 100%10),Z .u8 (48+(d:Int) / 10%10),Z .u8 (48+(d:Int)%10)] 5))
   = .ok (O ⟨(pad 4 d).toArray⟩) (w.alloc (.cells #[Z .u8 (48+(d:Int) / 1000),Z .u8 (48+(d:Int) / 100%10),Z .u8 (48+(d:Int) / 10%10),Z .u8 (48+(d:Int)%10)] 5)):=by
  have hx:=aA.new w #[Z .u8 (48+(d:Int) / 1000),Z .u8 (48+(d:Int) / 100%10),Z .u8 (48+(d:Int) / 10%10),Z .u8 (48+(d:Int)%10)] 5;have hl:=qM 4 d
  have:=run_convert_bytes_back (P:=Tryz.prog) (w.alloc (.cells #[Z .u8 (48+(d:Int) / 1000),Z .u8 (48+(d:Int) / 100%10),Z .u8 (48+(d:Int) / 10%10),Z .u8 (48+(d:Int)%10)] 5)) 288 9 5 ⟨w.heap.size,0,none⟩ 4 (pad 4 d) Tryz.underlying288 Tryz.underlying5 Tryz.underlying9 (fun j hj=>by
   rw [Addr.add_lit,hx.cell,dP];rw [hl] at hj
   match j,hj with
   | 0,_=>simp only [hp,List.getElem_cons_zero,e1];rfl
   | 1,_=>simp only [hp,List.getElem_cons_zero,List.getElem_cons_succ,e2];rfl
   | 2,_=>simp only [hp,List.getElem_cons_zero,List.getElem_cons_succ,e3];rfl
   | 3,_=>simp only [hp,List.getElem_cons_zero,List.getElem_cons_succ,e4];rfl)
  rwa [hl] at this
 obtain ⟨B,EB⟩:∃ B:ByteArray,Hid ((⟨(pad 4 d).toArray⟩:ByteArray)=B):=⟨_,zh rfl⟩;rw [EB.out] at hcv ⊢;clear e1 e2 e3 e4 hb hp EB;go_enter Tryz.func259,Tryz.ntmps259
 go_wp2
 go_ret
 exact ⟨rfl,aI⟩
def txt:List Nat→List UInt8
 | []=>[]
 | d::l=>txt l++pad 4 d
theorem Uu {l:List Nat} {i:Nat} (h:i<l.length):txt (l.drop i)=txt (l.drop (i+1))++pad 4 (l.getD i 0):=by
 rw [kF h];rfl
theorem Jr:∀ {l:List Nat},fV 10000 l→Top l→l≠[]→∃ m,txt l=bJ m 48++Lib.decDigits (val 10000 l)
 | [],_,_,h=>absurd rfl h
 | d::l,hd,ht,_=>by
  by_cases hl:l=[]
  ·subst hl;refine ⟨4 - (Lib.decDigits d).length,?_⟩;have h1:=Ak 4 d zo (by have:=hd.head;omega)
   show []++pad 4 d=_
   rw [← h1];simp [val]
  ·obtain ⟨m,hm⟩:=Jr hd.tail ht.tail hl;refine ⟨m,?_⟩;have hp:=jA (B:=10000) zo ht.tail hl
   show txt l++pad 4 d=_
   rw [hm,jP,← Di 4 _ d hp (by have:=hd.head;omega)];simp only [val];rw [show val 10000 l*10^4+d=d+10000*val 10000 l by omega]
theorem Qm (l:List Nat):(txt l).length=4*l.length:=by
 induction l with
 | nil=>rfl
 | cons d l ih=>show (txt l++pad 4 d).length=_;rw [List.length_append,ih,qM,aV];omega
theorem R6 {l:List Nat} {k:Nat} (hd:fV 10000 l) (ht:Top l) (h:∀ i,i<k→(txt l)[i]? =some 48) (hk:k<(txt l).length) (hne:(txt l)[k]? ≠some 48):(txt l).drop k=Lib.decDigits (val 10000 l):=by
 have hl:l≠[]:=fun e=>by subst e;cases hk
 have hp:=jA (B:=10000) zo ht hl;obtain ⟨m,hm⟩:=Jr hd ht hl
 have hkm:k=m:=by
  rcases Nat.lt_trichotomy k m with h1|h1|h1
  ·exfalso
   rw [hm,eO (by simpa using h1)] at hne;simp [h1] at hne
  ·exact h1
  ·exfalso
   have h2:=h m h1;rw [hm,fC zi] at h2;simp only [List.length_replicate,Nat.sub_self] at h2;have:=wP (n:=val 10000 l) (by rw [List.head?_eq_getElem?];exact h2);omega
 subst hkm;rw [hm,List.drop_append_of_le_length zi,List.drop_of_length_le zi,List.nil_append]
theorem R7 {l:List Nat} (hd:fV 10000 l) (ht:Top l) (h:∀ i,i<(txt l).length→(txt l)[i]? =some 48):val 10000 l=0:=by
 by_cases hl:l=[]
 ·subst hl;rfl
 ·exfalso
  have hp:=jA (B:=10000) zo ht hl;obtain ⟨m,hm⟩:=Jr hd ht hl;have h2:=h m (by rw [hm,List.length_append,List.length_replicate];have:=wO (val 10000 l);omega);rw [hm,fC zi] at h2;simp only [List.length_replicate,Nat.sub_self] at h2;have:=wP (n:=val 10000 l) (by rw [List.head?_eq_getElem?];exact h2);omega
theorem ba_eq {a b:ByteArray} (h:a.data.toList=b.data.toList):a=b:=by
 cases a;cases b
 simp only at h;rw [Array.toList_inj.1 h]
theorem zZ (z:Int):Lib.itoa z=if z<0 then 45::Lib.decDigits z.natAbs else Lib.decDigits z.natAbs:=by
 unfold Lib.itoa
 by_cases h:z<0
 ·rw [if_pos h,if_pos h]
 ·rw [if_neg h,if_neg h,show z.toNat=z.natAbs by omega]
theorem uP (S:ByteArray) (k:Nat):(S.extract k S.size).data.toList=S.data.toList.drop k:=by
 have h:S.size=S.data.toList.length:=rfl;rw [ByteArray.data_extract,Array.toList_extract];unfold List.extract;rw [fu (by rw [List.length_drop,h];exact aC _)]
theorem Rz (x:Value) (z:Int) (w:World) (hx:Pl w x z) (hs:sz 10000 z.natAbs≤1073741824) :
  Calls Tryz.prog 188 #[x] w (fun e w'=>e= aj (O ⟨(Lib.itoa z).toArray⟩)∧Bw w w'):=by
 obtain ⟨bA,oV,lA,pJ,rfl⟩:=hx.agg;obtain ⟨hn,hbz⟩:=hx.nm;obtain ⟨l,El⟩:∃ l,d9 10000 z.natAbs=l:=⟨_,rfl⟩;obtain ⟨pa',Ob,e,k1,k2,k3⟩:=hn.read;simp only [Value.slice.injEq] at e;obtain ⟨rfl,rfl,rfl⟩:=e;rw [El] at k3;have hl:l.length=sz 10000 z.natAbs:=by rw [← El];rfl
 have hdl:fV 10000 l:=by rw [← El];exact dw zo _
 have htl:Top l:=by rw [← El];exact oU zo _
 have hvl:val 10000 l=z.natAbs:=by rw [← El];exact bN zo _
 obtain ⟨L,EL⟩:∃ L,sz 10000 z.natAbs=L:=⟨_,rfl⟩;rw [EL] at hl hs k1 k3 ⊢;have h0:Below w.heap.size w (w.alloc (.cells #[ak bA,ah oV L pJ] 179)):=aI;have hbx:=aA.new w #[ak bA,ah oV L pJ] 179;obtain ⟨W,EW⟩:∃ y,w.alloc (.cells #[ak bA,ah oV L pJ] 179)=y:=⟨_,rfl⟩;rw [EW] at h0 hbx
 have k4:∀ k,k<L→∃ b off,oV=some ⟨b,off,none⟩∧b<W.heap.size∧W.cell? ⟨b,off+k,none⟩=some (.int .i64 (l.getD k 0:Nat)):=fun k hk=>by
  obtain ⟨b,off,e,h1,h2⟩:=k3 k hk;exact ⟨b,off,e,aP h1 h0.size,(h0.cell (by exact h1)).trans h2⟩
 have K4:=zh k4;have HX:=zh hbx;have HL:=zh hl;have Ie:=zh hdl;have HTL:=zh htl;have HVL:=zh hvl;have HBZ:=zh hbz;have c0:=hbx.cell;clear k3 k4 hbx hl hdl htl hvl hbz hn hx EL El;go_enter Tryz.func188,Tryz.ntmps188
 go_wp2_with fail
 clear EW c0
 go_loopw [3,4] (fun sv iv wr=>∃ (q:Int) (S:ByteArray), -1≤q∧q<L∧iv= Z I q∧sv= O S∧Hid (S.data.toList=txt (l.drop (q+1).toNat))∧Hid (Bw W wr)) (fun _ iv _=>(intOf iv+1).toNat)
 case atStart =>
  have e:((L:Int) - 1+1).toNat=l.length:=by have:=HL.out;omega
  exact ⟨(L:Int) - 1,⟨#[]⟩,by omega,by omega,rfl,rfl,zh (by rw [e,List.drop_length];rfl),zh (Below.refl _ _)⟩
 case round =>
  obtain ⟨q,S,hq1,hq2,rfl,rfl,HS,HB⟩:=hrel;have hbx:=HX.out.later HB.out;have c0:=hbx.cell
  by_cases hq:q<0
  ·have hq0:q= -1:=by omega
   subst hq0;have hS:S.data.toList=txt l:=by have:=HS.out;simpa using this
   have HS2:=zh hS;clear hS HS
   have hsz:S.size=4*L:=by
    have h1:S.size=S.data.toList.length:=rfl;rw [h1,HS2.out,Qm,HL.out]
   go_wp2_with fail
   go_loop [5] (fun kv=>∃ k:Nat,k≤S.size∧kv= Z I k∧Hid (∀ i,i<k→S.data.toList[i]? =some 48)) (fun kv=>S.size - (intOf kv).toNat)
   case atStart=>exact ⟨0,Nat.zero_le _,rfl,zh fun i hi=>by cases hi⟩
   case round =>
    obtain ⟨k,hk,rfl,HK⟩:=hrel
    by_cases hks:k<S.size
    ·have hg:(txt l)[k]? =some S[k]:=by
      rw [← HS2.out];exact List.getElem?_eq_getElem (by exact hks)
     by_cases h48:S[k]=48
     ·have e:((S[k].toNat:Int) == 48)=true:=by rw [h48];rfl
      have HK1:Hid (∀ i,i<k+1→S.data.toList[i]? =some 48):=zh fun i hi=>by
       by_cases hik:i<k
       ·exact HK.out i hik
       ·obtain rfl:i=k:=by omega
        rw [HS2.out,hg,h48]
      clear hg h48;go_wp2_with fail
      go_round
      case rel=>exact ⟨k+1,by omega,by go_num,HK1⟩
      case measure=>exact zM
     ·have e:((S[k].toNat:Int) == 48)=false:=by
       rw [beq_eq_false_iff_ne];intro h;have aV2:S[k].toNat=48:=by omega
       exact h48 (UInt8.toNat_inj.1 (by rw [aV2];rfl))
      have hdrop:=R6 Ie.out HTL.out (fun i hi=>by rw [← HS2.out];exact HK.out i hi) (by rw [← HS2.out];exact hks) (by rw [hg];intro h;exact h48 (Option.some.inj h))
      have hT:(S.extract k (4*L)).data.toList=Lib.decDigits z.natAbs:=by
       rw [← hsz,uP,HS2.out,hdrop,HVL.out]
      have hE:(S.extract k (4*L)).toList.isEmpty=false:=by
       rw [ByteArray.toList_eq,hT];have:=wO z.natAbs;cases h:Lib.decDigits z.natAbs with
       | nil=>rw [h] at this;cases this
       | cons a b=>rfl
      have HT:=zh hT;clear hdrop hT hg h48 HK;cases bA
      ·have hz:¬ z<0:=by have:=HBZ.out;intro h;rw [decide_eq_true h] at this;cases this
       have eS:S.extract k (4*L)=⟨(Lib.itoa z).toArray⟩:=ba_eq (by rw [HT.out,zZ,if_neg hz]);have ES:=zh eS;clear eS hz;go_wp2_with fail
       go_ret
       exact ⟨congrArg (fun s=>Ending.returned (O s)) ES.out,Bt h0 HB.out⟩
      ·have hz:z<0:=of_decide_eq_true HBZ.out.symm
       have eS:(⟨#[45]⟩:ByteArray)++S.extract k (4*L)=⟨(Lib.itoa z).toArray⟩:=ba_eq (by
        rw [zZ,if_pos hz,ByteArray.data_append,Array.toList_append,HT.out];rfl)
       have ES:=zh eS
       have hsm:¬ 9223372036854775807<1+(S.extract k (4*L)).size:=by
        have h1:(S.extract k (4*L)).size=(S.extract k (4*L)).data.toList.length:=rfl;have h2:=HT.out;rw [← hsz,uP] at h2
        have h3:(S.extract k (4*L)).data.toList.length≤S.data.toList.length:=by
         rw [← hsz,uP,List.length_drop];omega
        have h4:S.data.toList.length=S.size:=rfl;omega
       clear eS hz;go_wp2_with fail
       go_ret
       exact ⟨congrArg (fun s=>Ending.returned (O s)) ES.out,Bt h0 HB.out⟩
    ·have hke:k=S.size:=by omega
     subst hke
     have hz0:z.natAbs=0:=by
      rw [← HVL.out]
      exact R7 Ie.out HTL.out fun i hi=>by
       rw [← HS2.out] at hi ⊢;exact HK.out i hi
     have hz:z=0:=by omega
     have EZ:Hid ((⟨#[48]⟩:ByteArray)=⟨(Lib.itoa z).toArray⟩):=zh (by rw [hz];exact ba_eq (by rw [zZ];simp [iY]));clear hz hz0 HK;go_wp2_with fail
     go_ret
     exact ⟨congrArg (fun s=>Ending.returned (O s)) EZ.out,Bt h0 HB.out⟩
  ·obtain ⟨j,rfl⟩:=Int.eq_ofNat_of_zero_le (by omega:0≤q);have ej:((j:Int)+1).toNat=j+1:=by omega
   rw [ej] at HS;obtain ⟨b,off,rfl,hb1,hc1⟩:=K4.out j zo;have hcj:wr.cell? ⟨b,off+j,none⟩=some (.int .i64 (l.getD j 0:Nat)):=(HB.out.cell (by exact hb1)).trans hc1;have hdj:=Ie.out.getD zo j;have HST:Hid (txt (l.drop j)=S.data.toList++pad 4 (l.getD j 0)):=zh (by rw [HS.out];exact Uu (by rw [HL.out];omega));have HSL:Hid (S.data.toList.length=4*(L - (j+1))):=zh (by rw [HS.out,Qm,List.length_drop,HL.out]);clear HS hc1;generalize l.getD j 0=d at *;have HF:=zh (Z6 d hdj)
   have hsum:¬ 9223372036854775807<S.size+(pad 4 d).length:=by
    have h1:S.size=S.data.toList.length:=rfl;rw [qM,h1,HSL.out];omega
   go_wp2_with fail
   refine (HF.out _).mono ?_;rintro e w1 ⟨rfl,hb⟩;have HB1:=zh (Bt HB.out hb);clear hb hbx c0 hcj;go_wp2_with fail
   go_roundw
   case rel =>
    have e1:((j:Int) - 1+1).toNat=j:=by omega
    exact ⟨(j:Int) - 1,S++⟨(pad 4 d).toArray⟩,by omega,by omega,rfl,rfl,zh (by rw [e1,HST.out];simp),HB1⟩
   case measure=>simp [intOf]
theorem Pq (n:Nat):(Lib.decDigits n).length≤4*sz 10000 n+1:=by
 refine nD _ _ zo ?_;have h1:=jM (B:=10000) zo n;have h2:(10:Nat)^(4*sz 10000 n)=10000^sz 10000 n:=by rw [Nat.pow_mul]
 rw [bS,h2];omega
def Vr (z:Int):Value:=if fG.ou z.natAbs then aD #[fO z,Z I 0] else aD #[O ⟨#[]⟩,Z I 6]
theorem V8 (z:Int):(Lib.itoa z).length=(Lib.decDigits z.natAbs).length+(if z<0 then 1 else 0):=by
 rw [zZ]
 by_cases h:z<0
 ·rw [if_pos h,if_pos h];rfl
 ·rw [if_neg h,if_neg h];rfl
theorem wU (x:Value) (z:Int) (w:World) (hx:Pl w x z) (hs:sz 10000 z.natAbs≤1073741824) :
  Calls Tryz.prog 190 #[x] w (fun e w'=>e= aj (Vr z)∧Bw w w'):=by
 obtain ⟨bA,oV,lA,pJ,rfl⟩:=hx.agg;obtain ⟨hn,hbz⟩:=hx.nm;have NA:=zh hx;have hlen:=V8 z;have hok:=fG.fJ (n:=z.natAbs);obtain ⟨S,ES⟩:∃ S:ByteArray,Hid (S=⟨(Lib.itoa z).toArray⟩):=⟨_,zh rfl⟩;have hsz:S.size=(Lib.itoa z).length:=by rw [ES.out];simp [ByteArray.size]
 have hsb:(Lib.decDigits z.natAbs).length≤4294967297:=by
  have:=Pq z.natAbs;omega
 have HT:=zh (fun W (hb:Bw w W)=>Rz _ z W (hx.later hb) hs);rw [← ES.out] at HT
 have hv:Vr z=if (Lib.decDigits z.natAbs).length≤600 then aD #[O S,Z I 0] else aD #[O ⟨#[]⟩,Z I 6]:=by
  unfold Vr;rw [ES.out]
  by_cases h:(Lib.decDigits z.natAbs).length≤600
  ·rw [if_pos h,if_pos (hok.2 h)];rfl
  ·rw [if_neg h,if_neg (fun h'=>h (hok.1 h'))]
 rw [hv];obtain ⟨n,En⟩:∃ n,(Lib.decDigits z.natAbs).length=n:=⟨_,rfl⟩;rw [En] at hlen hsb ⊢;rw [hlen] at hsz;have h0:Below w.heap.size w (w.alloc (.cells #[ak bA,ah oV lA pJ] 179)):=aI;have hbx:=aA.new w #[ak bA,ah oV lA pJ] 179;have ug:=zh hbx;have HH0:=zh h0
 by_cases hz:z<0
 ·have hbt:bA=true:=by rw [hbz,decide_eq_true hz]
  subst hbt;rw [if_pos hz] at hsz;clear hz hlen hok hn hbz hv En hs hx NA h0 hbx
  by_cases hbig:n≤600
  ·rw [if_pos hbig];have e1:¬ (600:Int)<(n:Int)+1 - 1:=by omega
   go_enter Tryz.func190,Tryz.ntmps190
   go_wp2_with fail
   refine (HT.out _ HH0.out).mono ?_;rintro e w1 ⟨rfl,hb⟩;have c0:=(ug.out.later hb).cell;go_wp2_with fail
   go_ret2
   exact ⟨rfl,Bt HH0.out hb⟩
  ·rw [if_neg hbig];have e1:(600:Int)<(n:Int)+1 - 1:=by omega
   go_enter Tryz.func190,Tryz.ntmps190
   go_wp2_with fail
   refine (HT.out _ HH0.out).mono ?_;rintro e w1 ⟨rfl,hb⟩;have c0:=(ug.out.later hb).cell;go_wp2_with fail
   go_ret2
   exact ⟨rfl,Bt HH0.out hb⟩
 ·have hbt:bA=false:=by rw [hbz,decide_eq_false hz]
  subst hbt;rw [if_neg hz,fZ] at hsz;clear hz hlen hok hn hbz hv En hs hx NA h0 hbx
  by_cases hbig:n≤600
  ·rw [if_pos hbig];have e1:¬ (600:Int)<(n:Int):=by omega
   go_enter Tryz.func190,Tryz.ntmps190
   go_wp2_with fail
   refine (HT.out _ HH0.out).mono ?_;rintro e w1 ⟨rfl,hb⟩;have c0:=(ug.out.later hb).cell;go_wp2_with fail
   go_ret2
   exact ⟨rfl,Bt HH0.out hb⟩
  ·rw [if_neg hbig];have e1:(600:Int)<(n:Int):=by omega
   go_enter Tryz.func190,Tryz.ntmps190
   go_wp2_with fail
   refine (HT.out _ HH0.out).mono ?_;rintro e w1 ⟨rfl,hb⟩;have c0:=(ug.out.later hb).cell;go_wp2_with fail
   go_ret2
   exact ⟨rfl,Bt HH0.out hb⟩
end Go.Proofs.aK
namespace Go.Proofs.aS
open Go Go.RowKit Go.SW Go.Num Go.Mem Go.Proofs Go.Dec Go.Proofs.aK Go.Fx
def Ra (w:World) (v:Value) (q:Rat):Prop:=∃ bn pn ln cn bd pd ld cd,v= aB #[ak bn,ah pn ln cn,ak bd,ah pd ld cd]∧Pl w (aB #[ak bn,ah pn ln cn]) q.num∧Pl w (aB #[ak bd,ah pd ld cd]) q.den
theorem Ra.later {w w':World} {v:Value} {q:Rat} (h:Ra w v q) (hb:Bw w w'):Ra w' v q:=by
 obtain ⟨bn,pn,ln,cn,bd,pd,ld,cd,e,h1,h2⟩:=h;exact ⟨bn,pn,ln,cn,bd,pd,ld,cd,e,h1.later hb,h2.later hb⟩
def pU (w:World) (q:Rat) (e:Ending) (w':World):Prop:=∃ v',e= aj v'∧Bw w w'∧Ra w' v' q
def aZ6 (w:World) (q:Rat) (e:Ending) (w':World):Prop:=∃ b pa l ca b' pa' l' Ob,e= aj (aB #[ak b,ah pa l ca,ak b',ah pa' l' Ob])∧Bw w w'∧Ra w' (aB #[ak b,ah pa l ca,ak b',ah pa' l' Ob]) q
theorem vD {w:World} {q:Rat} {e:Ending} {w':World} (h:pU w q e w'):aZ6 w q e w':=by
 obtain ⟨v,rfl,h,hv⟩:=h;obtain ⟨b,pa,l,ca,b',pa',l',Ob,rfl, -⟩:=id hv;exact ⟨b,pa,l,ca,b',pa',l',Ob,rfl,h,hv⟩
theorem Bl {n d:Int} (hd:0<d):((n:Rat) / (d:Rat)).num=n / (Nat.gcd n.natAbs d.natAbs:Int)∧(((n:Rat) / (d:Rat)).den:Int)=d / (Nat.gcd n.natAbs d.natAbs:Int):=by
 obtain ⟨k,rfl⟩:=Int.eq_ofNat_of_zero_le (Int.le_of_lt hd);have hk:0<k:=by omega
 have e:(n:Rat) / ((k:Int):Rat)=mkRat n k:=by
  rw [Rat.mkRat_eq_div];rfl
 have h:=fG.wu n hk;rw [e,Int.natAbs_natCast];refine ⟨?_,?_⟩
 ·rw [h.1,fG.DT (Nat.gcd_dvd_left _ _)]
 ·rw [h.2,Int.natCast_ediv]
theorem Pl.Sg {w:World} {v:Value} {z:Int} (h:Pl w v z) {b:Nat} {cs:Array Value} {T':TypeId} (hx:aA w b cs T') (hT:3≠T') (u0 u1 u2 u3:Value) :
  Pl ((((w.setCell ⟨b,0,none⟩ u0).setCell ⟨b,1,none⟩ u1).setCell ⟨b,2,none⟩ u2).setCell ⟨b,3,none⟩ u3) v z :=
 (h.set2 hx hT 0 1 u0 u1).set2 ((hx.set 0 u0).set 1 u1) hT 2 3 u2 u3
theorem Ra.Sg {w:World} {v:Value} {q:Rat} (h:Ra w v q) {b:Nat} {cs:Array Value} {T':TypeId} (hx:aA w b cs T') (hT:3≠T') (u0 u1 u2 u3:Value) :
  Ra ((((w.setCell ⟨b,0,none⟩ u0).setCell ⟨b,1,none⟩ u1).setCell ⟨b,2,none⟩ u2).setCell ⟨b,3,none⟩ u3) v q:=by
 obtain ⟨bn,pn,ln,cn,bd,pd,ld,cd,e,h1,h2⟩:=h;exact ⟨bn,pn,ln,cn,bd,pd,ld,cd,e,Pl.Sg h1 hx hT u0 u1 u2 u3,Pl.Sg h2 hx hT u0 u1 u2 u3⟩
theorem _root_.Go.Mem.Pl.keep {l:List TypeId} {w w':World} {v:Value} {z:Int} (h:Pl w v z) (k:Kept l w w') (hT:l.contains 3=false:=by kernel_rfl):Pl w' v z:=by
 obtain ⟨pa,n,ca,h1,h2⟩:=h;exact ⟨pa,n,ca,h1,Row.keep h2 k (Fe hT)⟩
theorem Ra.keep {l:List TypeId} {w w':World} {v:Value} {q:Rat} (h:Ra w v q) (k:Kept l w w') (hT:l.contains 3=false:=by kernel_rfl):Ra w' v q:=by
 obtain ⟨bn,pn,ln,cn,bd,pd,ld,cd,e,h1,h2⟩:=h;exact ⟨bn,pn,ln,cn,bd,pd,ld,cd,e,h1.keep k hT,h2.keep k hT⟩
def aZ7 (w:World) (z:Int) (e:Ending) (w':World):Prop:=∃ b pa l ca,e= aj (aB #[ak b,ah pa l ca])∧Bw w w'∧Pl w' (aB #[ak b,ah pa l ca]) z
theorem Sv {w:World} {z:Int} {e:Ending} {w':World} (h:Gq w z e w'):aZ7 w z e w':=by
 obtain ⟨v,rfl,h,hv⟩:=h;obtain ⟨b,pa,l,ca,rfl⟩:=hv.agg;exact ⟨b,pa,l,ca,rfl,h,hv⟩
def aO2 (w:World) (x y:Int) (e:Ending) (w':World):Prop:=∃ b pa l ca b' pa' l' Ob,e= aj (aD #[aB #[ak b,ah pa l ca],aB #[ak b',ah pa' l' Ob]])∧Bw w w'∧Pl w' (aB #[ak b,ah pa l ca]) x∧Pl w' (aB #[ak b',ah pa' l' Ob]) y
theorem QI {w:World} {x y:Int} {e:Ending} {w':World} (h:Gr w x y e w'):aO2 w x y e w':=by
 obtain ⟨v,u,rfl,h,hv,hu⟩:=h;obtain ⟨b,pa,l,ca,rfl⟩:=hv.agg;obtain ⟨b',pa',l',Ob,rfl⟩:=hu.agg;exact ⟨b,pa,l,ca,b',pa',l',Ob,rfl,h,hv,hu⟩
theorem P6 (x y:Value) (n d:Int) (w:World) (hx:Pl w x n) (hy:Pl w y d) (ha:sz 10000 n.natAbs≤274877906944) (hb:sz 10000 d.natAbs≤274877906944) (hd:0<d) :
  Calls Tryz.prog 191 #[x,y] w (pU w ((n:Rat) / (d:Rat))):=by
 obtain ⟨e1,e2⟩:=Bl (n:=n) hd;generalize (n:Rat) / (d:Rat)=q at *;obtain ⟨bA,oV,lA,pJ,rfl⟩:=hx.agg;obtain ⟨bB,qZ,lB,q8,rfl⟩:=hy.agg;have hbf:bB=false:=by rw [hy.nm.2];simp;omega
 subst hbf;have hg0:0<Nat.gcd n.natAbs d.natAbs:=Nat.gcd_pos_of_pos_right _ zo;have hgd:Nat.gcd n.natAbs d.natAbs≤d.natAbs:=Nat.le_of_dvd zo (Nat.gcd_dvd_right _ _);have dn:((Nat.gcd n.natAbs d.natAbs:Nat):Int) ∣ n:=by rw [← Int.dvd_natAbs,Int.ofNat_dvd];exact Nat.gcd_dvd_left _ _
 have dd:((Nat.gcd n.natAbs d.natAbs:Nat):Int) ∣ d:=by rw [← Int.dvd_natAbs,Int.ofNat_dvd];exact Nat.gcd_dvd_right _ _
 have DV:=fun x y W h k=>(zl x y n d W h k ha hb).mono fun _ _ q=>Sv q;generalize Nat.gcd n.natAbs d.natAbs=g at *;have G0:0<(g:Int):=by omega
 have KG:sz 10000 (g:Int).natAbs≤274877906944:=au (iJ zo (by simpa using hgd)) hb;have P1:=fun v u W h k=>(AB v u (n) g W h k ha KG G0 (.inr dn)).mono fun _ _ q=>QI q;have P2:=fun v u W h k=>(AB v u (d) g W h k hb KG G0 (.inr dd)).mono fun _ _ q=>QI q;rw [← e1] at P1;rw [← e2] at P2;refine Fx.door Tryz.func191 rfl (.nil w []) ?_;have B0:=Fx.Dn.nil w;refine Fx.new [] 2 #[ak bA,ah oV lA pJ] 179 [] [] fun iB=>?_;refine Fx.new [] 3 #[ak false,ah qZ lB q8] 179 [] [] fun jX=>?_;refine Fx.bK [] 4 181 [] [] fun jN=>?_;refine Fx.iP [4,2,3,4] 18 [] [] (fun W M=>DV _ _ _ (hx.later (B0.at M)) (hy.later (B0.at M))) ?_;rintro W w4 e M ⟨b3,p3,l3,c3,rfl,D4,Q3⟩;refine ⟨D4,fun M4=>?_⟩;have B4:=B0.next M4
 refine Fx.bK [] 5 179 [] [] fun PL=>?_;refine Fx.iP [6,3,6] 22 [] [(3,#[ak b3,ah p3 l3 c3])] (fun W M=>P1 _ _ _ (hx.later (B4.at M)) (Q3.keep (M4.keep M))) ?_;rintro W w6 e M ⟨b4,p4,l4,c4,x4,y4,z4,u4,rfl,D6,Q4, -⟩;refine ⟨D6,fun M6=>?_⟩;replace Q3:=Q3.keep (M4.keep M6);have B6:=B4.next M6
 refine Fx.bK [] 6 179 [(23,aB #[ak b4,ah p4 l4 c4]),(24,aB #[ak x4,ah y4 z4 u4])] [] fun Rt=>?_;refine Fx.bK [] 7 179 [] [] fun bz8=>?_;refine Fx.iP [7,8,4,6] 28 [] [(4,#[ak b4,ah p4 l4 c4]),(5,#[ak x4,ah y4 z4 u4])] (fun W M=>P2 _ _ _ (hy.later (B6.at M)) (Q3.keep (M6.keep M))) ?_;rintro W w9 e M ⟨b5,p5,l5,c5,x5,y5,z5,u5,rfl,D9,Q5, -⟩;refine ⟨D9,fun M9=>?_⟩;replace Q4:=Q4.keep (M6.keep M9);have B9:=B6.next M9
 refine Fx.bK [] 8 179 [(29,aB #[ak b5,ah p5 l5 c5]),(30,aB #[ak x5,ah y5 z5 u5])] [] fun ab9=>?_;refine Fx.bK [] 9 179 [] [] fun ab8=>?_;exact Fx.mU (cs:=#[ak b4,ah p4 l4 c4,ak b5,ah p5 l5 c5]) 2 jN [9,10,7,9,5] [(2,#[ak b4,ah p4 l4 c4,ak b5,ah p5 l5 c5]),(6,#[ak b5,ah p5 l5 c5]),(7,#[ak x5,ah y5 z5 u5])] (fun W M=>by have HB:=(B9.at M);exact ⟨_,rfl,HB,_,_,_,_,_,_,_,_,rfl,(Q4.keep (M9.keep M)),(Q5.keep (M9.keep M))⟩)
theorem P7 (x y:Value) (n d:Int) (w:World) (hx:Pl w x n) (hy:Pl w y d) (ha:sz 10000 n.natAbs≤274877906944) (hb:sz 10000 d.natAbs≤274877906944) (hd:d<0) :
  Calls Tryz.prog 191 #[x,y] w (pU w ((n:Rat) / (d:Rat))):=by
 obtain ⟨e1,e2⟩:=Bl (n:= -n) (d:= -d) zo;rw [show ((-n:Int):Rat) / ((-d:Int):Rat)=(n:Rat) / (d:Rat) by rw [Rat.intCast_neg,Rat.intCast_neg,Rat.div_def,Rat.div_def];grind,Int.natAbs_neg,Int.natAbs_neg] at e1 e2;generalize (n:Rat) / (d:Rat)=q at *;obtain ⟨bA,oV,lA,pJ,rfl⟩:=hx.agg;obtain ⟨bB,qZ,lB,q8,rfl⟩:=hy.agg;have hbf:bB=true:=by rw [hy.nm.2];simp;omega
 subst hbf;have hg0:0<Nat.gcd n.natAbs d.natAbs:=Nat.gcd_pos_of_pos_right _ zo;have hgd:Nat.gcd n.natAbs d.natAbs≤d.natAbs:=Nat.le_of_dvd zo (Nat.gcd_dvd_right _ _);have dn:((Nat.gcd n.natAbs d.natAbs:Nat):Int) ∣ -n:=by rw [Int.dvd_neg];rw [← Int.dvd_natAbs,Int.ofNat_dvd];exact Nat.gcd_dvd_left _ _
 have dd:((Nat.gcd n.natAbs d.natAbs:Nat):Int) ∣ -d:=by rw [Int.dvd_neg];rw [← Int.dvd_natAbs,Int.ofNat_dvd];exact Nat.gcd_dvd_right _ _
 have ha2:sz 10000 (-n).natAbs≤274877906944:=by rw [Int.natAbs_neg];exact ha
 have hb2:sz 10000 (-d).natAbs≤274877906944:=by rw [Int.natAbs_neg];exact hb
 have DV:=fun x y W h k=>(zl x y (-n) (-d) W h k ha2 hb2).mono fun _ _ q=>Sv q;rw [Int.natAbs_neg,Int.natAbs_neg] at DV;have T:=fun z W v h=>(Av v z W h).mono fun _ _ q=>Sv q;generalize Nat.gcd n.natAbs d.natAbs=g at *;have G0:0<(g:Int):=by omega
 have KG:sz 10000 (g:Int).natAbs≤274877906944:=au (iJ zo (by simpa using hgd)) hb;have P1:=fun v u W h k=>(AB v u (-n) g W h k ha2 KG G0 (.inr dn)).mono fun _ _ q=>QI q;have P2:=fun v u W h k=>(AB v u (-d) g W h k hb2 KG G0 (.inr dd)).mono fun _ _ q=>QI q;rw [← e1] at P1;rw [← e2] at P2;refine Fx.door Tryz.func191 rfl (.nil w []) ?_;have B0:=Fx.Dn.nil w;refine Fx.new [] 2 #[ak bA,ah oV lA pJ] 179 [] [] fun iB=>?_;refine Fx.new [] 3 #[ak true,ah qZ lB q8] 179 [] [] fun jX=>?_;refine Fx.bK [] 4 181 [] [] fun jN=>?_;refine Fx.draw [4,1] [0,2,1,3,4,5] [] [] [] ?_;refine Fx.iP [3,4] 13 [(14,aB #[ak true,ah qZ lB q8])] [] (fun W M=>T _ _ _ (hx.later (B0.at M))) ?_;rintro W w4 e M ⟨b1,p1,l1,c1,rfl,D4,Q1⟩;refine ⟨D4,fun M4=>?_⟩;have B4:=B0.next M4
 refine Fx.iP [] 15 [] [] (fun W M=>T _ _ _ (hy.later (B4.at M))) ?_;rintro W w5 e M ⟨b2,p2,l2,c2,rfl,D5,Q2⟩;refine ⟨D5,fun M5=>?_⟩;replace Q1:=Q1.keep (M4.keep M5);have B5:=B4.next M5
 refine Fx.iP [3,4,3,4] 18 [] [(0,#[ak b1,ah p1 l1 c1]),(1,#[ak b2,ah p2 l2 c2])] (fun W M=>DV _ _ _ (Q1.keep (M5.keep M)) (Q2.keep (M5.keep M))) ?_;rintro W w6 e M ⟨b3,p3,l3,c3,rfl,D6,Q3⟩;refine ⟨D6,fun M6=>?_⟩;replace Q1:=Q1.keep (M5.keep M6);replace Q2:=Q2.keep (M5.keep M6);have B6:=B5.next M6
 refine Fx.bK [] 5 179 [] [] fun Rt=>?_;refine Fx.iP [6,3,6] 22 [] [(3,#[ak b3,ah p3 l3 c3])] (fun W M=>P1 _ _ _ (Q1.keep (M6.keep M)) (Q3.keep (M6.keep M))) ?_;rintro W w8 e M ⟨b4,p4,l4,c4,x4,y4,z4,u4,rfl,D8,Q4, -⟩;refine ⟨D8,fun M8=>?_⟩;replace Q2:=Q2.keep (M6.keep M8);replace Q3:=Q3.keep (M6.keep M8);have B8:=B6.next M8
 refine Fx.bK [] 6 179 [(23,aB #[ak b4,ah p4 l4 c4]),(24,aB #[ak x4,ah y4 z4 u4])] [] fun bz9=>?_;refine Fx.bK [] 7 179 [] [] fun ab9=>?_;refine Fx.iP [7,8,4,6] 28 [] [(4,#[ak b4,ah p4 l4 c4]),(5,#[ak x4,ah y4 z4 u4])] (fun W M=>P2 _ _ _ (Q2.keep (M8.keep M)) (Q3.keep (M8.keep M))) ?_;rintro W w11 e M ⟨b5,p5,l5,c5,x5,y5,z5,u5,rfl,D11,Q5, -⟩;refine ⟨D11,fun M11=>?_⟩;replace Q4:=Q4.keep (M8.keep M11);have B11:=B8.next M11
 refine Fx.bK [] 8 179 [(29,aB #[ak b5,ah p5 l5 c5]),(30,aB #[ak x5,ah y5 z5 u5])] [] fun ab7=>?_;refine Fx.bK [] 9 179 [] [] fun ay5=>?_;exact Fx.mU (cs:=#[ak b4,ah p4 l4 c4,ak b5,ah p5 l5 c5]) 2 jN [9,10,7,9,5] [(2,#[ak b4,ah p4 l4 c4,ak b5,ah p5 l5 c5]),(6,#[ak b5,ah p5 l5 c5]),(7,#[ak x5,ah y5 z5 u5])] (fun W M=>by have HB:=(B11.at M);exact ⟨_,rfl,HB,_,_,_,_,_,_,_,_,rfl,(Q4.keep (M11.keep M)),(Q5.keep (M11.keep M))⟩)
theorem xO (x y:Value) (n d:Int) (w:World) (hx:Pl w x n) (hy:Pl w y d) (ha:sz 10000 n.natAbs≤274877906944) (hb:sz 10000 d.natAbs≤274877906944) (hd:d≠0) :
  Calls Tryz.prog 191 #[x,y] w (pU w ((n:Rat) / (d:Rat))):=by
 by_cases h:0<d
 ·exact P6 x y n d w hx hy ha hb h
 ·exact P7 x y n d w hx hy ha hb zo
end Go.Proofs.aS
namespace Go.Proofs.aS
open Go Go.RowKit Go.SW Go.Num Go.Mem Go.Proofs Go.Dec Go.Proofs.aK Go.fG
theorem EY (z:Int):∃ (s:ByteArray) (k:Int),Vr z= aD #[O s,Z I k]∧((ou z.natAbs=true∧k=0∧s=⟨(Lib.itoa z).toArray⟩)∨(ou z.natAbs=false∧k=6)):=by
 unfold Vr
 by_cases h:ou z.natAbs=true
 ·rw [if_pos h];exact ⟨_,_,rfl,.inl ⟨h,rfl,rfl⟩⟩
 ·rw [if_neg h];exact ⟨_,_,rfl,.inr ⟨by simpa using h,rfl⟩⟩
def sP (w:World) (x:Fr × Int) (e:Ending) (w':World):Prop:=e= aj (Fr.res x)∧Bw w w'
theorem wU (x:Value) (q:Rat) (w:World) (hx:Ra w x q) (h1:sz 10000 q.num.natAbs≤1073741824) (h2:sz 10000 q.den≤1073741824) :
  Calls Tryz.prog 121 #[x] w (sP w (wr q)):=by
 obtain ⟨bn,pn,ln,cn,bd,pd,ld,cd,rfl,NN,ND⟩:=hx;obtain ⟨s1,k1,e1,c1⟩:=EY q.num;obtain ⟨s2,k2,e2,c2⟩:=EY (q.den:Int);have H1:=zh (fun W (hb:Bw w W)=>aK.wU _ q.num W (NN.later hb) h1);have H2:=zh (fun W (hb:Bw w W)=>aK.wU _ (q.den:Int) W (ND.later hb) (by simpa using h2));rw [e1] at H1;rw [e2] at H2
 have hw:wr q=if k1=0∧k2=0 then (⟨s1,s2⟩,0) else (Fr.no,6):=by
  unfold wr jk;rw [Int.natAbs_natCast] at c2
  rcases c1 with ⟨a1,a2,a3⟩|⟨a1,a2⟩<;>rcases c2 with ⟨b1,b2,b3⟩|⟨b1,b2⟩<;>subst a2<;>subst b2<;>rw [a1,b1]
  ·subst a3;subst b3;rfl
  ·rfl
  ·rfl
  ·rfl
 rw [hw];have d1:k1=0∨k1=6:=c1.elim (fun h=>.inl h.2.1) (fun h=>.inr h.2);have d2:k2=0∨k2=6:=c2.elim (fun h=>.inl h.2.1) (fun h=>.inr h.2);clear hw e1 e2 c1 c2 h1 h2 NN ND
 rcases d1 with rfl|rfl<;>rcases d2 with rfl|rfl
 ·rw [if_pos ⟨rfl,rfl⟩];go_enter Tryz.func121,Tryz.ntmps121
  go_wp2_with fail
  obtain ⟨vk,EW,hz,X1,X2⟩:=Ud w #[ak bn,ah pn ln cn,ak bd,ah pd ld cd] 181 #[O ⟨#[]⟩,O ⟨#[]⟩] 38;rw [EW];have hk2:=Bt (Below.refl _ _) hz;clear EW hz;refine (H1.out _ hk2).mono ?_;rintro e um ⟨rfl,hb3⟩;replace X1:=X1.bl hb3;replace X2:=X2.bl hb3;have hk5:=Bt hk2 hb3;clear hk2;clear hb3;obtain ⟨qx,qo,sS⟩:=X1.clf;go_wp2_with fail
  clear qx qo sS;refine (H2.out _ hk5).mono ?_;rintro e Ij ⟨rfl,hb6⟩;replace X1:=X1.bl hb6;replace X2:=X2.bl hb6;have Oa:=Bt hk5 hb6;clear hk5;clear hb6;obtain ⟨Cz,Cr,IZ⟩:=X2.clf;have hres:=X2.out;have Ho:=hres.cell;have He:=hres.free;go_wp2_with fail
  refine bX rfl rfl bq Tryz.underlying38 rfl zk ?_;exact ⟨rfl,aI⟩
 ·rw [if_neg zo];go_enter Tryz.func121,Tryz.ntmps121
  go_wp2_with fail
  obtain ⟨vk,EW,hz,X1,X2⟩:=Ud w #[ak bn,ah pn ln cn,ak bd,ah pd ld cd] 181 #[O ⟨#[]⟩,O ⟨#[]⟩] 38;rw [EW];have hk2:=Bt (Below.refl _ _) hz;clear EW hz;refine (H1.out _ hk2).mono ?_;rintro e um ⟨rfl,hb3⟩;replace X1:=X1.bl hb3;replace X2:=X2.bl hb3;have hk5:=Bt hk2 hb3;clear hk2;clear hb3;obtain ⟨qx,qo,sS⟩:=X1.clf;go_wp2_with fail
  clear qx qo sS;refine (H2.out _ hk5).mono ?_;rintro e Ij ⟨rfl,hb6⟩;replace X1:=X1.bl hb6;replace X2:=X2.bl hb6;have Oa:=Bt hk5 hb6;clear hk5;clear hb6;obtain ⟨Cz,Cr,IZ⟩:=X2.clf;have hres:=X2.out;have Ho:=hres.cell;have He:=hres.free;go_wp2_with fail
  refine bX rfl rfl bq Tryz.underlying38 rfl zk ?_;exact ⟨rfl,aI⟩
 ·rw [if_neg zo];go_enter Tryz.func121,Tryz.ntmps121
  go_wp2_with fail
  obtain ⟨vk,EW,hz,X1,X2⟩:=Ud w #[ak bn,ah pn ln cn,ak bd,ah pd ld cd] 181 #[O ⟨#[]⟩,O ⟨#[]⟩] 38;rw [EW];have hk2:=Bt (Below.refl _ _) hz;clear EW hz;refine (H1.out _ hk2).mono ?_;rintro e um ⟨rfl,hb3⟩;replace X1:=X1.bl hb3;replace X2:=X2.bl hb3;have hk5:=Bt hk2 hb3;clear hk2;clear hb3;obtain ⟨qx,qo,sS⟩:=X1.clf;go_wp2_with fail
  clear qx qo sS;refine (H2.out _ hk5).mono ?_;rintro e Ij ⟨rfl,hb6⟩;replace X1:=X1.bl hb6;replace X2:=X2.bl hb6;have Oa:=Bt hk5 hb6;clear hk5;clear hb6;obtain ⟨Cz,Cr,IZ⟩:=X2.clf;have hres:=X2.out;have Ho:=hres.cell;have He:=hres.free;go_wp2_with fail
  refine bX rfl rfl bq Tryz.underlying38 rfl zk ?_;exact ⟨rfl,aI⟩
 ·rw [if_neg zo];go_enter Tryz.func121,Tryz.ntmps121
  go_wp2_with fail
  obtain ⟨vk,EW,hz,X1,X2⟩:=Ud w #[ak bn,ah pn ln cn,ak bd,ah pd ld cd] 181 #[O ⟨#[]⟩,O ⟨#[]⟩] 38;rw [EW];have hk2:=Bt (Below.refl _ _) hz;clear EW hz;refine (H1.out _ hk2).mono ?_;rintro e um ⟨rfl,hb3⟩;replace X1:=X1.bl hb3;replace X2:=X2.bl hb3;have hk5:=Bt hk2 hb3;clear hk2;clear hb3;obtain ⟨qx,qo,sS⟩:=X1.clf;go_wp2_with fail
  clear qx qo sS;refine (H2.out _ hk5).mono ?_;rintro e Ij ⟨rfl,hb6⟩;replace X1:=X1.bl hb6;replace X2:=X2.bl hb6;have Oa:=Bt hk5 hb6;clear hk5;clear hb6;obtain ⟨Cz,Cr,IZ⟩:=X2.clf;have hres:=X2.out;have Ho:=hres.cell;have He:=hres.free;go_wp2_with fail
  refine bX rfl rfl bq Tryz.underlying38 rfl zk ?_;exact ⟨rfl,aI⟩
theorem VP {n d:Int} (hd:d≠0):((n:Rat) / (d:Rat)).num.natAbs≤n.natAbs∧((n:Rat) / (d:Rat)).den≤d.natAbs:=by
 have key:∀ n d:Int,0<d→((n:Rat) / (d:Rat)).num.natAbs≤n.natAbs∧((n:Rat) / (d:Rat)).den≤d.natAbs:=fun n d hd=>by
  obtain ⟨e1,e2⟩:=Bl (n:=n) hd;have g1:=Nat.gcd_dvd_left n.natAbs d.natAbs;have g2:=Nat.gcd_dvd_right n.natAbs d.natAbs;have g0:0<Nat.gcd n.natAbs d.natAbs:=Nat.gcd_pos_of_pos_right _ zo;generalize Nat.gcd n.natAbs d.natAbs=g at *;generalize ((n:Rat) / (d:Rat))=q at *;obtain ⟨a,ha⟩:=g1;obtain ⟨b,hb⟩:=g2
  have h1:n=(g:Int)*(if 0≤n then (a:Int) else -(a:Int)):=by
   have:=congrArg (fun x:Nat=>(x:Int)) ha;simp only [Int.natCast_mul] at this;split
   ·omega
   ·rw [Int.mul_neg];omega
  have h2:d=(g:Int)*(b:Int):=by
   have:=congrArg (fun x:Nat=>(x:Int)) hb;simp only [Int.natCast_mul] at this;omega
  have h3:n / (g:Int)=(if 0≤n then (a:Int) else -(a:Int)):=by
   conv=>lhs;rw [h1]
   exact Int.mul_ediv_cancel_left _ zo
  have h4:d / (g:Int)=(b:Int):=by
   rw [h2];exact Int.mul_ediv_cancel_left _ zo
  rw [h3] at e1;rw [h4] at e2;have k1:a≤g*a:=Nat.le_mul_of_pos_left _ g0;have k2:b≤g*b:=Nat.le_mul_of_pos_left _ g0;refine ⟨?_,?_⟩
  ·rw [e1,ha];split<;>simp<;>exact k1
  ·rw [hb];have:q.den=b:=by exact_mod_cast e2
   omega
 by_cases h:0<d
 ·exact key n d h
 ·have:=key (-n) (-d) zo;rw [show ((-n:Int):Rat) / ((-d:Int):Rat)=(n:Rat) / (d:Rat) by rw [Rat.intCast_neg,Rat.intCast_neg,Rat.div_def,Rat.div_def];grind,Int.natAbs_neg,Int.natAbs_neg] at this;exact this
theorem Jt {n:Int} (h1: -9223372036854775808≤n) (h2:n≤9223372036854775807):sz 10000 n.natAbs≤5 :=
 dF zo 5 _ zo
theorem Nw (n d:Int) (h1: -9223372036854775808≤n) (h2:n≤9223372036854775807) (h3: -9223372036854775808≤d) (h4:d≤9223372036854775807) (hd:d≠0) (w:World) :
  Calls Tryz.prog 185 #[Z I n,Z I d] w (pU w ((n:Rat) / (d:Rat))):=by
 have H1:=zh (fun W=>Gu n W h1 h2);have H2:=zh (fun W=>Gu d W h3 h4);have H3:=zh (fun x y W hx hy=>xO x y n d W hx hy (au (Jt h1 h2) zo) (au (Jt h3 h4) zo) hd);generalize (n:Rat) / (d:Rat)=q at *;clear h1 h2 h3 h4 hd;go_enter Tryz.func185,Tryz.ntmps185
 go_wp2_with fail
 obtain ⟨vk,EW,hz,X1⟩:=Gc w #[ak false,ah none 0 0,ak false,ah none 0 0] 181;rw [EW];have hk2:=Bt (Below.refl _ _) hz;clear EW hz;refine (H1.out _).mono ?_;rintro e um ⟨v,rfl,hb3,hv4⟩;obtain ⟨bA,oV,lA,pJ,rfl⟩:=hv4.agg;replace X1:=X1.bl hb3;have hk5:=Bt hk2 hb3;clear hk2;have NA:=zh hv4;clear hb3 hv4;go_wp2_with fail
 refine (H2.out _).mono ?_;rintro e Ij ⟨v,rfl,hb6,hv7⟩;obtain ⟨bB,qZ,lB,q8,rfl⟩:=hv7.agg;replace X1:=X1.bl hb6;replace NA:=zh (NA.out.later hb6);have Oa:=Bt hk5 hb6;clear hk5;have NB:=zh hv7;clear hb6 hv7;go_wp2_with fail
 refine (H3.out _ _ _ NA.out NB.out).mono ?_;rintro e wc9 ⟨_,rfl,rJ,bn,pn,ln,cn,bd,pd,ld,cd,rfl,hn,hd⟩;replace X1:=X1.bl rJ;replace NA:=zh (NA.out.later rJ);replace NB:=zh (NB.out.later rJ);have bi8:=Bt Oa rJ;clear Oa;have NX:=zh hn;have NY:=zh hd;clear rJ hd hn;obtain ⟨qx,qo,sS⟩:=X1.clf;have hres:=X1.out;have Ho:=hres.cell;have He:=hres.free;go_wp2_with fail
 refine gG rfl rfl bq Tryz.underlying181 rfl zk ?_;have hx:=Pl.Sg NX.out hres zd (ak bn) (ah pn ln cn) (ak bd) (ah pd ld cd);have hy:=Pl.Sg NY.out hres zd (ak bn) (ah pn ln cn) (ak bd) (ah pd ld cd);exact ⟨_,rfl,aI,_,_,_,_,_,_,_,_,rfl,hx,hy⟩
end Go.Proofs.aS
namespace Go.fG
open Go Go.Num Go.Proofs
def Hq (k:Nat) (q:Rat):Prop:=∃ n d:Int,0<d∧d.natAbs≤kL k∧n.natAbs≤kL k∧q=(n:Rat) / (d:Rat)
theorem Lg (k:Nat):0<kL k:=Nat.pow_pos zo
theorem zy (a b:Nat):kL (a+b)=kL a*kL b:=gy _ _ _
theorem R5 {a b:Nat} (h:a≤b):kL a≤kL b:=bW zo h
theorem YH {a b:Nat} (h:a<b):kL a<kL b:=Nat.pow_lt_pow_right zo h
theorem Hq.mono {a b:Nat} {q:Rat} (h:Hq a q) (k:a≤b):Hq b q:=by
 obtain ⟨n,d,h1,h2,h3,h4⟩:=h;have:=R5 k;exact ⟨n,d,h1,by omega,by omega,h4⟩
theorem Hq.ok {a:Nat} {q:Rat} (h:Hq a q) (k:a<600):jk q=true:=by
 obtain ⟨n,d,h1,h2,h3,rfl⟩:=h;obtain ⟨l1,l2⟩:=aS.VP (n:=n) (d:=d) zo;have:=YH k;unfold jk ou;generalize kL 600=X at *;rw [aF];exact ⟨decide_eq_true zo,decide_eq_true zo⟩
theorem qV {d:Int} (h:0<d):(d:Rat)≠0:=fun e=>by
 have:d=0:=by exact_mod_cast e
 omega
theorem Hq.mul {a b:Nat} {p q:Rat} (h:Hq a p) (k:Hq b q):Hq (a+b) (p*q):=by
 obtain ⟨n,d,h1,h2,h3,rfl⟩:=h;obtain ⟨n',d',k1,k2,k3,rfl⟩:=k;refine ⟨n*n',d*d',Int.mul_pos h1 k1,?_,?_,?_⟩
 ·rw [zy,Int.natAbs_mul];exact fq h2 k2
 ·rw [zy,Int.natAbs_mul];exact fq h3 k3
 ·have e1:=qV h1;have e2:=qV k1;rw [Rat.intCast_mul,Rat.intCast_mul]
  grind
theorem Hq.add {a b:Nat} {p q:Rat} (h:Hq a p) (k:Hq b q):Hq (a+b+1) (p+q):=by
 obtain ⟨n,d,h1,h2,h3,rfl⟩:=h;obtain ⟨n',d',k1,k2,k3,rfl⟩:=k;have t:kL (a+b+1)=10*(kL a*kL b):=by rw [zy,zy];show _*10=_;omega
 refine ⟨n*d'+n'*d,d*d',Int.mul_pos h1 k1,?_,?_,?_⟩
 ·have:=fq h2 k2;rw [t,Int.natAbs_mul];omega
 ·have x1:=fq h3 k2;have x2:=fq k3 h2;rw [aJ (kL b)] at x2;have x3:=Int.natAbs_add_le (n*d') (n'*d);rw [Int.natAbs_mul,Int.natAbs_mul] at x3;rw [t];omega
 ·have e1:=qV h1;have e2:=qV k1;rw [Rat.intCast_add,Rat.intCast_mul,Rat.intCast_mul,Rat.intCast_mul]
  grind
theorem Hq.neg {a:Nat} {p:Rat} (h:Hq a p):Hq a (-p):=by
 obtain ⟨n,d,h1,h2,h3,rfl⟩:=h;exact ⟨-n,d,h1,h2,by rw [Int.natAbs_neg];exact h3,by rw [Rat.intCast_neg];grind⟩
theorem Hq.sub {a b:Nat} {p q:Rat} (h:Hq a p) (k:Hq b q):Hq (a+b+1) (p - q):=by
 rw [Rat.sub_eq_add_neg];exact h.add k.neg
theorem Hq.zero:Hq 0 0:=⟨0,1,by omega,by decide,by decide,by decide+kernel⟩
theorem Hq.one:Hq 0 1:=⟨1,1,by omega,by decide,by decide,by decide+kernel⟩
theorem Hq.inv {a:Nat} {p:Rat} (h:Hq a p):Hq a (p⁻¹):=by
 obtain ⟨n,d,h1,h2,h3,rfl⟩:=h;have e1:=qV h1
 rcases Int.lt_trichotomy n 0 with h|rfl|h
 ·have e2:((-n:Int):Rat)≠0:=qV zo;rw [Rat.intCast_neg] at e2;refine ⟨-d, -n,by omega,by omega,by omega,?_⟩;rw [Rat.intCast_neg,Rat.intCast_neg]
  grind
 ·exact ⟨0,1,by omega,by have:=Lg a;omega,by have:=Lg a;omega,by simp [Rat.div_def]⟩
 ·have e2:=qV h;exact ⟨d,n,h,h3,h2,by grind⟩
theorem Hq.div {a b:Nat} {p q:Rat} (h:Hq a p) (k:Hq b q):Hq (a+b) (p / q):=by
 rw [Rat.div_def];exact h.mul k.inv
end Go.fG
namespace Go.Proofs
open Go Go.RowKit Go.SW Go.Num Go.Mem Go.fG
theorem aM0 {s t s' t' y y':ByteArray} {k:Int} (hx:wS ⟨s,t⟩ ⟨s',t'⟩=(⟨y,y'⟩,k)) (w:World) (ht:ko.Pow w):Calls Tryz.prog 140 #[aB #[O s,O t],aB #[O s',O t']] w (fun e w'=>e= aj (aD #[aB #[O y,O y'],Z I k])∧Bw w w'):=by
 have h:=dZ.wZ ⟨s,t⟩ ⟨s',t'⟩ w ht;rw [hx] at h;exact h
theorem aL7 {s t s' t' y y':ByteArray} {k:Int} (hx:yE ⟨s,t⟩ ⟨s',t'⟩=(⟨y,y'⟩,k)) (w:World) (ht:ko.Pow w):Calls Tryz.prog 141 #[aB #[O s,O t],aB #[O s',O t']] w (fun e w'=>e= aj (aD #[aB #[O y,O y'],Z I k])∧Bw w w'):=by
 have h:=dZ.BF ⟨s,t⟩ ⟨s',t'⟩ w ht;rw [hx] at h;exact h
theorem CB {s t s' t' y y':ByteArray} {k:Int} (hx:pO ⟨s,t⟩ ⟨s',t'⟩=(⟨y,y'⟩,k)) (w:World) (ht:ko.Pow w):Calls Tryz.prog 14 #[aB #[O s,O t],aB #[O s',O t']] w (fun e w'=>e= aj (aD #[aB #[O y,O y'],Z I k])∧Bw w w'):=by
 have h:=dZ.oK ⟨s,t⟩ ⟨s',t'⟩ w ht;rw [hx] at h;exact h
theorem Xq {s t s' t' y y':ByteArray} {k:Int} (hx:nP ⟨s,t⟩ ⟨s',t'⟩=(⟨y,y'⟩,k)) (w:World) (ht:ko.Pow w):Calls Tryz.prog 78 #[aB #[O s,O t],aB #[O s',O t']] w (fun e w'=>e= aj (aD #[aB #[O y,O y'],Z I k])∧Bw w w'):=by
 have h:=dZ.qX ⟨s,t⟩ ⟨s',t'⟩ w ht;rw [hx] at h;exact h
theorem ab5 {s t s' t':ByteArray} {v k:Int} (hx:tQ ⟨s,t⟩ ⟨s',t'⟩=(v,k)) (w:World):Calls Tryz.prog 36 #[aB #[O s,O t],aB #[O s',O t']] w (fun e w'=>e= aj (aD #[Z I v,Z I k])∧Bw w w'):=by
 have h:=dZ.KX ⟨s,t⟩ ⟨s',t'⟩ w;rw [hx] at h;exact h
theorem Rq {s t:ByteArray} {v k:Int} (hx:jQ ⟨s,t⟩=(v,k)) (w:World):Calls Tryz.prog 75 #[aB #[O s,O t]] w (fun e w'=>e= aj (aD #[Z I v,Z I k])∧Bw w w'):=by
 have h:=dZ.qy ⟨s,t⟩ w;rw [hx] at h;exact h
theorem cOf {n d:Int} {y y':ByteArray} {k:Int} (hx:lI n d=(⟨y,y'⟩,k)) (w:World) (ht:ko.Pow w) (n0: -9223372036854775808≤n:=by omega) (n1:n≤9223372036854775807:=by omega) (d0: -9223372036854775808≤d:=by omega) (d1:d≤9223372036854775807:=by omega) :
  Calls Tryz.prog 35 #[.int .i64 n,.int .i64 d] w (fun e w'=>e= .returned (.tuple #[.agg #[.string y,.string y'],.int .i64 k])∧Bw w w'):=by
 have h:=dZ.uf n d n0 n1 d0 d1 w ht;rw [hx] at h;exact h
theorem ab6 {s t:ByteArray} {x y k:Int} (hx:fB.jI ⟨s,t⟩=((x,y),k)) (w:World) (ht:ko.Pow w) (he:whole.Er w):Calls Tryz.prog 113 #[aB #[O s,O t]] w (fun e w'=>e= aj (aD #[aB #[Z I x,Z I y],Z I k])∧Bw w w'):=by
 have h:=fB.TY ⟨s,t⟩ w ht he;rw [hx] at h;exact h
theorem ag9 {lo hi q x y k:Int} (hx:power.Da lo hi 1 q=((x,y),k)) (w:World) (ht:ko.Pow w) (he:whole.Er w):Calls Tryz.prog 83 #[aB #[Z I lo,Z I hi],Z I q] w (fun e w'=>e= aj (aD #[aB #[Z I x,Z I y],Z I k])∧Bw w w'):=by
 have h:=power.KJ lo hi q w ht he;rw [hx] at h;exact h
theorem ay2 {lo hi p q x y k:Int} (hx:power.Da lo hi p q=((x,y),k)) (w:World) (ht:ko.Pow w) (he:whole.Er w):Calls Tryz.prog 24 #[aB #[Z I lo,Z I hi],Z I p,Z I q] w (fun e w'=>e= aj (aD #[aB #[Z I x,Z I y],Z I k])∧Bw w w'):=by
 have h:=power.Ny lo hi p q w ht he;rw [hx] at h;exact h
theorem Xr {x y x' y' u v k:Int} (hx:fB.nG (x,y) (x',y')=((u,v),k)) (w:World):Calls Tryz.prog 98 #[aB #[Z I x,Z I y],aB #[Z I x',Z I y']] w (fun e w'=>e= aj (aD #[aB #[Z I u,Z I v],Z I k])∧Bw w w'):=by
 have h:=fB.wZ x y x' y' w;rw [hx] at h;exact h
theorem Rs {x y x' y' u v k:Int} (hx:fB.qm (x,y) (x',y')=((u,v),k)) (w:World):Calls Tryz.prog 25 #[aB #[Z I x,Z I y],aB #[Z I x',Z I y']] w (fun e w'=>e= aj (aD #[aB #[Z I u,Z I v],Z I k])∧Bw w w'):=by
 have h:=fB.oK x y x' y' w;rw [hx] at h;exact h
theorem aL9 {x y x' y' u v k:Int} (hx:fB.MO (x,y) (x',y')=((u,v),k)) (w:World):Calls Tryz.prog 59 #[aB #[Z I x,Z I y],aB #[Z I x',Z I y']] w (fun e w'=>e= aj (aD #[aB #[Z I u,Z I v],Z I k])∧Bw w w'):=by
 have h:=fB.qX x y x' y' w;rw [hx] at h;exact h
theorem Km {x y n d u v k:Int} (hx:fB.vQ (x,y) n d=((u,v),k)) (w:World):Calls Tryz.prog 43 #[aB #[Z I x,Z I y],Z I n,Z I d] w (fun e w'=>e= aj (aD #[aB #[Z I u,Z I v],Z I k])∧Bw w w'):=by
 have h:=fB.Xz x y n d w;rw [hx] at h;exact h
theorem ay3 {n u v k:Int} (hx:fB.ptE n=((u,v),k)) (w:World):Calls Tryz.prog 58 #[Z I n] w (fun e w'=>e= aj (aD #[aB #[Z I u,Z I v],Z I k])∧Bw w w'):=by
 have h:=fB.XB n w;rw [hx] at h;exact h
def fB.ofE (lo hi:Int):(Int × Int) × Int:=if fB.jl lo hi then ((lo,hi),0) else ((0,0),30)
theorem aY5 {lo hi u v k:Int} (hx:fB.ofE lo hi=((u,v),k)) (w:World):Calls Tryz.prog 26 #[Z I lo,Z I hi] w (fun e w'=>e= aj (aD #[aB #[Z I u,Z I v],Z I k])∧Bw w w'):=by
 have h:=fB.uf lo hi w;unfold fB.ofE at hx
 revert h
 cases hb:fB.jl lo hi<;>rw [hb] at hx<;>(try rw [if_pos rfl] at hx)<;>(try rw [if_neg zd] at hx)<;>cases hx<;>exact fun h=>h
def JI (a:Fr) (n:Nat):Fr × Int:=match rd a with
 | some p=>wr (p^n)
 | none=>(Fr.no,20)
theorem aL8 {s t y y':ByteArray} {n:Nat} {k:Int} (hx:JI ⟨s,t⟩ n=(⟨y,y'⟩,k)) (w:World) (ht:ko.Pow w) (h:∃ p,rd ⟨s,t⟩=some p∧0≤p) (n40:n≤40:=by omega):Calls Tryz.prog 145 #[.agg #[.string s,.string t],.int .i64 (n:Int)] w (fun e w'=>e= .returned (.tuple #[.agg #[.string y,.string y'],.int .i64 k])∧Bw w w'):=by
 obtain ⟨p,hp,h0⟩:=h;obtain ⟨e,ok⟩:=ow hp;have h:=dZ.BG p n ok h0 n40 w ht;unfold JI at hx;rw [hp] at hx;replace hx:wr (p^n)=(⟨y,y'⟩,k):=hx;rw [hx,← e] at h;exact h
end Go.Proofs
namespace Go.Proofs.fB
open Go Go.RowKit Go.SW Go.Num Go.Mem Go.Proofs Go.fG Go.Proofs.matrix Go.Proofs.fE Go.Proofs.aS
theorem yc {a b c:Rat} (h:a≤b) (hc:c≤0):b*c≤a*c:=by
 have h1:0≤ -c:=by grind
 have h2:=Rat.mul_le_mul_of_nonneg_right h h1
 grind
theorem seg {c x d:Rat} (y:Rat) (h1:c≤x) (h2:x≤d):(c*y≤x*y∨d*y≤x*y)∧(x*y≤c*y∨x*y≤d*y):=by
 rcases Rat.le_total (a:=0) (b:=y) with hy|hy
 ·exact ⟨.inl (Rat.mul_le_mul_of_nonneg_right h1 hy),.inr (Rat.mul_le_mul_of_nonneg_right h2 hy)⟩
 ·exact ⟨.inr (yc h2 hy),.inl (yc h1 hy)⟩
theorem U0 {a b x c d y:Rat} (h1:a≤x) (h2:x≤b) (k1:c≤y) (k2:y≤d) :
  (a*c≤x*y∨a*d≤x*y∨b*c≤x*y∨b*d≤x*y)∧(x*y≤a*c∨x*y≤a*d∨x*y≤b*c∨x*y≤b*d):=by
 have s:=seg y h1 h2;have ta:=seg a k1 k2;have tb:=seg b k1 k2;rw [Rat.mul_comm c a,Rat.mul_comm d a,Rat.mul_comm y a] at ta;rw [Rat.mul_comm c b,Rat.mul_comm d b,Rat.mul_comm y b] at tb
 constructor
 ·rcases s.1 with h|h
  ·rcases ta.1 with g|g
   ·exact .inl (Rat.le_trans g h)
   ·exact .inr (.inl (Rat.le_trans g h))
  ·rcases tb.1 with g|g
   ·exact .inr (.inr (.inl (Rat.le_trans g h)))
   ·exact .inr (.inr (.inr (Rat.le_trans g h)))
 ·rcases s.2 with h|h
  ·rcases ta.2 with g|g
   ·exact .inl (Rat.le_trans h g)
   ·exact .inr (.inl (Rat.le_trans h g))
  ·rcases tb.2 with g|g
   ·exact .inr (.inr (.inl (Rat.le_trans h g)))
   ·exact .inr (.inr (.inr (Rat.le_trans h g)))
def Wi (M:Int) (v:Rat):Prop:=un (-M)≤v∧v≤un M
theorem an2 (n:Int):un (-n)= -un n:=by unfold un;rw [Rat.intCast_neg,tC]
theorem _root_.Go.Proofs.matrix.In.lo {b:Int × Int} {q:Rat} {M:Int} (h:In b q M):un b.1≤q:=h.1
theorem _root_.Go.Proofs.matrix.In.hi {b:Int × Int} {q:Rat} {M:Int} (h:In b q M):q≤un b.2:=h.2.1
theorem _root_.Go.Proofs.matrix.In.mono {b:Int × Int} {q:Rat} {M N:Int} (h:In b q M) (k:M≤N):In b q N:=⟨h.1,h.2.1,by have:=h.2.2.1;omega,by have:=h.2.2.2;omega⟩
theorem Zb {s t:Int × Int} (h:jl s.1 s.2=true) (k:jl t.1 t.2=true):okB [s,t]=true:=by
 unfold okB;simp only [gD,List.all_nil,Bool.and_true,h,k]
theorem aS3 {s:Int × Int} (h:jl s.1 s.2=true):okB [s]=true:=by
 unfold okB;simp only [gD,List.all_nil,Bool.and_true,h]
theorem Wi.of {n d M:Int} (hd:0<d) (h1: -(M*d)≤n*1000000000000) (h2:n*1000000000000≤M*d):Wi M ((n:Rat) / (d:Rat)):=by
 have hd':(0:Rat)<(d:Rat):=Rat.intCast_pos.2 hd;have hd0:(d:Rat)≠0:=fun e=>by rw [e] at hd';exact absurd hd' zd
 have key:∀ a b:Int,a*d≤b*1000000000000→un a≤(b:Rat) / (d:Rat):=fun a b h=>by
  rw [AX];refine Rat.le_of_mul_le_mul_right (c:=(d:Rat)) ?_ hd';have e:(b:Rat) / (d:Rat)*((1000000000000:Int):Rat)*(d:Rat)=(b:Rat)*((1000000000000:Int):Rat):=by grind
  rw [e];have h2:((a*d:Int):Rat)≤((b*1000000000000:Int):Rat):=Rat.intCast_le_intCast.2 h;rw [Rat.intCast_mul,Rat.intCast_mul] at h2;exact h2
 refine ⟨key _ _ (by rw [Int.neg_mul];exact h1),?_⟩;have:=key (-M) (-n) (by rw [Int.neg_mul,Int.neg_mul];omega);rw [an2,Rat.intCast_neg,← tC] at this
 grind
end Go.Proofs.fB
namespace Go.Proofs
theorem gL {α β:Type} {z:β} {x:α × Int} {f:α→β × Int} {v:β} (h:bO z x f=(v,0)):∃ y,x=(y,0)∧f y=(v,0):=by
 obtain ⟨y,k⟩:=x
 by_cases hk:k=0
 ·subst hk;exact ⟨y,rfl,h⟩
 ·rw [Rw hk] at h;cases h
  exact absurd rfl hk
theorem CY {α:Type} {x v:α} (h:qg x=(v,0)):x=v:=congrArg Prod.fst h
end Go.Proofs
namespace Go.Proofs.power
open Go Go.Num Go.fG Go.Proofs.fB
theorem ap3 {a b:Int × Int} {x y:Int} (ha:0≤a.1) (h:JK a b=((x,y),0)):jl x y=true∧0≤x:=by
 unfold JK at h;split at h
 ·rename_i h0;exact absurd (congrArg Prod.snd h) h0
 ·split at h
  ·rename_i h0;exact absurd (congrArg Prod.snd h) h0
  ·split at h
   ·rename_i h0;cases h;exact ⟨h0,ha⟩
   ·cases h
theorem aa2 (n p q:Nat) (up:Bool):0≤(yR n p q up).1:=by
 unfold yR;split
 ·exact Int.natCast_nonneg _
 ·exact Int.le_refl _
theorem ae9 {lo hi p q x y:Int} (h:Da lo hi p q=((x,y),0)):jl x y=true∧0≤x:=by
 unfold Da at h;split at h
 ·cases h
 ·split at h
  ·cases h
  ·exact ap3 (aa2 _ _ _ _) h
end Go.Proofs.power
namespace Go.Proofs.fB
open Go Go.RowKit Go.Num Go.Mem Go.Proofs Go.fG Go.Proofs.matrix Go.Proofs.fE Go.Proofs.aS
theorem Me {lo hi:Int} {b:Int × Int} (h:jK lo hi=(b,0)):b=(lo,hi):=by
 unfold jK at h;split at h
 ·exact (congrArg Prod.fst h).symm
 ·exact absurd (show (6:Int)=0 from congrArg Prod.snd h) zd
structure Sb (a A:Int × Int):Prop where
 lo:A.1≤a.1
 le:a.1≤a.2
 hi:a.2≤A.2
theorem Sb.refl {a:Int × Int} (h:a.1≤a.2):Sb a a:=⟨Int.le_refl _,h,Int.le_refl _⟩
theorem Sb.trans {a b c:Int × Int} (h:Sb a b) (k:Sb b c):Sb a c:=⟨Int.le_trans k.lo h.lo,h.le,Int.le_trans h.hi k.hi⟩
theorem Sb.jl {a A:Int × Int} (h:Sb a A) (k:jl A.1 A.2=true):jl a.1 a.2=true:=by
 obtain ⟨n1,n2,n3⟩:=JO k;obtain ⟨h1,h2,h3⟩:=h;exact mP zo h2 zo
theorem Mf {x y X Y:Int} {C:Int × Int} (h1:X≤x) (h2:x≤y) (h3:y≤Y) (e:jK X Y=(C,0)):∃ c,jK x y=(c,0)∧Sb c C:=by
 have hC:=Me e;subst hC
 have hb:jl X Y=true:=by
  unfold jK at e;split at e
  ·assumption
  ·exact absurd (show (6:Int)=0 from congrArg Prod.snd e) zd
 refine ⟨(x,y),?_,h1,h2,h3⟩;unfold jK;rw [if_pos (Sb.jl (a:=(x,y)) (A:=(X,Y)) ⟨h1,h2,h3⟩ hb)]
theorem LX {c:Prop} [Decidable c] {r:(Int × Int) × Int} {C:Int × Int} {k:Int} (hk:k≠0) (h:(if c then r else ((0,0),k))=(C,0)):c∧r=(C,0):=by
 split at h
 ·exact ⟨by assumption,h⟩
 ·exact absurd (congrArg Prod.snd h) hk
theorem QM {a b:Int × Int} (h:okB [a,b]=true):jl a.1 a.2=true∧jl b.1 b.2=true:=by
 unfold okB at h
 simpa only [gD,List.all_nil,Bool.and_true,aF] using h
theorem Za {a:Int × Int} (h:okB [a]=true):jl a.1 a.2=true:=by
 unfold okB at h
 simpa only [gD,List.all_nil,Bool.and_true] using h
section
variable {a b A B C:Int × Int}
theorem JW (ha:Sb a A) (hb:Sb b B) (e:nG A B=(C,0)):∃ c,nG a b=(c,0)∧Sb c C:=by
 obtain ⟨h1,h2⟩:=LX zd e;obtain ⟨k1,k2⟩:=QM h1;obtain ⟨c,h3,h4⟩:=Mf (x:=a.1+b.1) (y:=a.2+b.2) (by have:=ha.lo;have:=hb.lo;omega) (by have:=ha.le;have:=hb.le;omega) (by have:=ha.hi;have:=hb.hi;omega) h2;refine ⟨c,?_,h4⟩;unfold nG;rw [if_pos (Zb (ha.jl k1) (hb.jl k2))];exact h3
theorem Il {lo hi LO HI:Rat} (h1:LO≤lo) (h2:lo≤hi) (h3:hi≤HI) (e:iM LO HI=(C,0)):∃ c,iM lo hi=(c,0)∧Sb c C:=by
 unfold iM at *;refine Mf ?_ ?_ ?_ e
 ·rw [kE,kE];exact Rat.le_floor_iff.2 (Rat.le_trans (Rat.floor_le _) (Rat.mul_le_mul_of_nonneg_right h1 (Rat.le_of_lt uh)))
 ·rw [kE,kE];have x1:=Rat.floor_le (lo*((1000000000000:Int):Rat));have x2:=Rat.floor_le (-(hi*((1000000000000:Int):Rat)));have x3:=Rat.mul_le_mul_of_nonneg_right h2 (Rat.le_of_lt uh)
  have x4:((lo*((1000000000000:Int):Rat)).floor:Rat)≤((-(-(hi*((1000000000000:Int):Rat))).floor:Int):Rat):=by
   rw [Rat.intCast_neg];generalize lo*((1000000000000:Int):Rat)=x at *;generalize hi*((1000000000000:Int):Rat)=y at *;generalize ((x.floor:Int):Rat)=u at *;generalize (((-y).floor:Int):Rat)=v at *
   grind
  exact Rat.intCast_le_intCast.1 x4
 ·rw [kE,kE];have:(-(HI*((1000000000000:Int):Rat))).floor≤(-(hi*((1000000000000:Int):Rat))).floor:=Rat.le_floor_iff.2 (Rat.le_trans (Rat.floor_le _) (Rat.neg_le_neg (Rat.mul_le_mul_of_nonneg_right h3 (Rat.le_of_lt uh))));omega
def Bt4 (P0 P1 P2 P3 q:Rat):Prop:=(P0≤q∨P1≤q∨P2≤q∨P3≤q)∧(q≤P0∨q≤P1∨q≤P2∨q≤P3)
theorem MJ {p0 p1 p2 p3 P0 P1 P2 P3:Rat} (l0:Bt4 P0 P1 P2 P3 p0) (l1:Bt4 P0 P1 P2 P3 p1) (l2:Bt4 P0 P1 P2 P3 p2) (l3:Bt4 P0 P1 P2 P3 p3) (e:iM (jf P0 [P1,P2,P3]) (fU P0 [P1,P2,P3])=(C,0)) :
  ∃ c,iM (jf p0 [p1,p2,p3]) (fU p0 [p1,p2,p3])=(c,0)∧Sb c C:=by
 obtain ⟨M1,M2,M3,M4,M5⟩:=VQ P0 P1 P2 P3;obtain ⟨K1,K2,K3,K4,K5⟩:=MB P0 P1 P2 P3;obtain ⟨m1,m2,m3,m4,m5⟩:=VQ p0 p1 p2 p3;obtain ⟨k1,k2,k3,k4,k5⟩:=MB p0 p1 p2 p3
 have lo:∀ q,Bt4 P0 P1 P2 P3 q→jf P0 [P1,P2,P3]≤q:=fun q h=>by
  rcases h.1 with h|h|h|h
  ·exact Rat.le_trans M2 h
  ·exact Rat.le_trans M3 h
  ·exact Rat.le_trans M4 h
  ·exact Rat.le_trans M5 h
 have hi:∀ q,Bt4 P0 P1 P2 P3 q→q≤fU P0 [P1,P2,P3]:=fun q h=>by
  rcases h.2 with h|h|h|h
  ·exact Rat.le_trans h K2
  ·exact Rat.le_trans h K3
  ·exact Rat.le_trans h K4
  ·exact Rat.le_trans h K5
 refine Il ?_ (Rat.le_trans m2 k2) ?_ e
 ·rcases m1 with h|h|h|h<;>rw [h]
  ·exact lo _ l0
  ·exact lo _ l1
  ·exact lo _ l2
  ·exact lo _ l3
 ·rcases k1 with h|h|h|h<;>rw [h]
  ·exact hi _ l0
  ·exact hi _ l1
  ·exact hi _ l2
  ·exact hi _ l3
theorem Sb.ends (h:Sb a A):un A.1≤un a.1∧un a.1≤un A.2∧un A.1≤un a.2∧un a.2≤un A.2:=by
 obtain ⟨h1,h2,h3⟩:=h;exact ⟨BM.2 h1,BM.2 zo,BM.2 zo,BM.2 h3⟩
theorem Bh (h:okB [a,b]=true):qm a b=iM (jf (un a.1*un b.1) [un a.1*un b.2,un a.2*un b.1,un a.2*un b.2]) (fU (un a.1*un b.1) [un a.1*un b.2,un a.2*un b.1,un a.2*un b.2]):=by
 rw [RZ a b];unfold qm;rw [if_pos h]
theorem uN (ha:Sb a A) (hb:Sb b B) (e:qm A B=(C,0)):∃ c,qm a b=(c,0)∧Sb c C:=by
 have e0:=e;unfold qm at e0;obtain ⟨h1, -⟩:=LX zd e0;obtain ⟨k1,k2⟩:=QM h1;rw [Bh h1] at e;rw [Bh (Zb (ha.jl k1) (hb.jl k2))];obtain ⟨x1,x2,x3,x4⟩:=ha.ends;obtain ⟨y1,y2,y3,y4⟩:=hb.ends;exact MJ (U0 x1 x2 y1 y2) (U0 x1 x2 y3 y4) (U0 x3 x4 y1 y2) (U0 x3 x4 y3 y4) e
theorem Bn {x y:Rat} (hx:0<x) (hxy:x≤y):y⁻¹≤x⁻¹:=by
 have hy:0<y:=Std.lt_of_lt_of_le hx hxy;have ix:=Rat.inv_pos.2 hx;have iy:=Rat.inv_pos.2 hy;have h5:=Rat.mul_le_mul_of_nonneg_right hxy (Rat.le_of_lt (Rat.mul_pos ix iy));have nx:x≠0:=fun e=>by rw [e] at hx;exact absurd hx Rat.lt_irrefl
 have ny:y≠0:=fun e=>by rw [e] at hy;exact absurd hy Rat.lt_irrefl
 have e1:x*(x⁻¹*y⁻¹)=y⁻¹:=by rw [← Rat.mul_assoc,Rat.mul_inv_cancel _ nx,Rat.one_mul]
 have e2:y*(x⁻¹*y⁻¹)=x⁻¹:=by rw [Rat.mul_comm x⁻¹,← Rat.mul_assoc,Rat.mul_inv_cancel _ ny,Rat.one_mul]
 rwa [e1,e2] at h5
theorem Tq (h:okB [a,b]=true) (hb:0<b.1) (hb2:b.1≤b.2):MO a b=iM (jf (un a.1 / un b.1) [un a.1 / un b.2,un a.2 / un b.1,un a.2 / un b.2]) (fU (un a.1 / un b.1) [un a.1 / un b.2,un a.2 / un b.1,un a.2 / un b.2]):=by
 rw [R3 a b zo zo];unfold MO aa7;rw [if_pos h,if_neg zo]
theorem Bc {n d:Int} (h:jl a.1 a.2=true) (hn:¬ (n< -1000000000000∨1000000000000<n∨d<1∨1000000000000<d)):vQ a n d=iM (jf (un a.1*((n:Rat) / (d:Rat))) [un a.2*((n:Rat) / (d:Rat)),un a.2*((n:Rat) / (d:Rat)),un a.2*((n:Rat) / (d:Rat))]) (fU (un a.1*((n:Rat) / (d:Rat))) [un a.2*((n:Rat) / (d:Rat)),un a.2*((n:Rat) / (d:Rat)),un a.2*((n:Rat) / (d:Rat))]):=by
 have g1:∀ p q:Rat,jf p [q,q,q]=jf p [q]:=fun p q=>by unfold jf jf jf jf;grind
 have g2:∀ p q:Rat,fU p [q,q,q]=fU p [q]:=fun p q=>by unfold fU fU fU fU;grind
 rw [g1,g2,RY a n d zo];unfold vQ U3;rw [if_pos (aS3 h),if_neg hn]
theorem QY {n d:Int} (ha:Sb a A) (e:vQ A n d=(C,0)):∃ c,vQ a n d=(c,0)∧Sb c C:=by
 have e0:=e;unfold vQ at e0;obtain ⟨h1,h2⟩:=LX zd e0
 have hn:¬ (n< -1000000000000∨1000000000000<n∨d<1∨1000000000000<d):=fun hn=>by
  unfold U3 at h2;rw [if_pos hn] at h2;exact absurd (show (2:Int)=0 from congrArg Prod.snd h2) zd
 have k1:=Za h1;rw [Bc k1 hn] at e;rw [Bc (ha.jl k1) hn];obtain ⟨x1,x2,x3,x4⟩:=ha.ends;have bt:∀ {x y q:Rat},(x≤q∨y≤q)∧(q≤x∨q≤y)→Bt4 x y y y q:=fun h=>⟨h.1.imp id .inl,h.2.imp id .inl⟩
 have s1:=bt (seg ((n:Rat) / (d:Rat)) x1 x2);have s2:=bt (seg ((n:Rat) / (d:Rat)) x3 x4);exact MJ s1 s2 s2 s2 e
theorem SE {x y:Int × Int} (e:power.JK x y=(C,0)):x.2=0∧y.2=0∧C=(x.1,y.1)∧jl x.1 y.1=true:=by
 unfold power.JK at e;split at e
 ·rename_i h;exact absurd (congrArg Prod.snd e) h
 ·split at e
  ·rename_i h;exact absurd (congrArg Prod.snd e) h
  ·rename_i h1 h2;obtain ⟨h3,h4⟩:=LX zd e;exact ⟨by omega,by omega,(congrArg Prod.fst h4).symm,h3⟩
end
theorem JJ {m n p q:Nat} (hq:0<q) (h:m≤n):nT m p q≤nT n p q:=JU hq (au (vY hq m p).1 (aU _ (Nat.pow_le_pow_left h p)))
theorem Y4 {m n p q:Nat} (hq:0<q) (h:m≤n):phi m p q≤phi n p q:=OB hq (au (aU _ (Nat.pow_le_pow_left h p)) (LP hq n p))
theorem JV {a A C:Int × Int} {P Q:Int} (ha:Sb a A) (e:power.Da A.1 A.2 P Q=(C,0)):∃ c,power.Da a.1 a.2 P Q=(c,0)∧Sb c C:=by
 obtain ⟨x1,x2,x3⟩:=ha;unfold power.Da at *;split at e
 ·exact absurd (show (30:Int)=0 from congrArg Prod.snd e) zd
 ·rename_i g1;split at e
  ·exact absurd (show (2:Int)=0 from congrArg Prod.snd e) zd
  ·rename_i g2;have hA:jl A.1 A.2=true:=by simpa using g1
   have ha:jl a.1 a.2=true:=Sb.jl ⟨x1,x2,x3⟩ hA
   have hk:power.eok P Q=true:=by
    cases h:power.eok P Q with
    | true=>rfl
    | false=>exact absurd (Or.inl h) g2
   have hQ:0<Q.toNat:=by
    unfold power.eok at hk;simp only [aF,decide_eq_true_eq] at hk;omega
   rw [if_neg (by rw [ha];decide),if_neg (fun h=>g2 (h.imp id (fun h=>by omega)))];generalize P.toNat=p at *;generalize Q.toNat=q at *;obtain ⟨e1,e2,rfl,e4⟩:=SE e;have a1:nT A.1.toNat p q≤nT a.1.toNat p q:=JJ hQ zo;have a2:nT a.1.toNat p q≤nT a.2.toNat p q:=JJ hQ zo;have a3:nT a.2.toNat p q≤nT A.2.toNat p q:=JJ hQ zo;have a4:phi a.2.toNat p q≤phi A.2.toNat p q:=Y4 hQ zo;have a5:=(yL a.2.toNat p q).1;unfold yR at *
   have c2:nT A.2.toNat p q≤10^18:=by
    refine Nat.not_lt.1 fun h=>?_;rw [if_neg zo] at e2;exact absurd e2 zd
   have c1:nT A.1.toNat p q≤10^18:=by omega
   simp only [if_pos c1,if_pos c2,cK,if_false,if_true] at e4 ⊢;rw [if_pos (show nT a.1.toNat p q≤10^18 by omega),if_pos (show nT a.2.toNat p q≤10^18 by omega)];have s:Sb (((nT a.1.toNat p q:Nat):Int),((phi a.2.toNat p q:Nat):Int)) (((nT A.1.toNat p q:Nat):Int),((phi A.2.toNat p q:Nat):Int)):=⟨by simp only;omega,by simp only;omega,by simp only;omega⟩;refine ⟨_,?_,s⟩;unfold power.JK;simp only [ne_eq,not_true_eq_false,if_false,s.jl e4,if_true]
def Ct (b:Int × Int) (q:Rat):Prop:=un b.1≤q∧q≤un b.2
section
variable {a b c:Int × Int} {p q:Rat}
theorem Ct.le (h:Ct b q):b.1≤b.2:=BM.1 (Rat.le_trans h.1 h.2)
theorem Uv {lo hi:Rat} (h1:lo≤q) (h2:q≤hi) (e:iM lo hi=(c,0)):Ct c q:=by
 unfold iM at e;rw [Me e];refine ⟨?_,?_⟩
 ·rw [AX,kE];exact Rat.le_trans (Rat.floor_le _) (Rat.mul_le_mul_of_nonneg_right h1 (Rat.le_of_lt uh))
 ·rw [SS,Rat.intCast_neg];have:=Rat.floor_le (-(hi*((1000000000000:Int):Rat)));rw [← kE] at this;have h5:=Rat.neg_le_neg this;rw [Rat.neg_neg] at h5;exact Rat.le_trans (Rat.mul_le_mul_of_nonneg_right h2 (Rat.le_of_lt uh)) h5
theorem Z7 {P0 P1 P2 P3:Rat} (h:Bt4 P0 P1 P2 P3 q) (e:iM (jf P0 [P1,P2,P3]) (fU P0 [P1,P2,P3])=(c,0)):Ct c q:=by
 obtain ⟨M1,M2,M3,M4,M5⟩:=VQ P0 P1 P2 P3;obtain ⟨K1,K2,K3,K4,K5⟩:=MB P0 P1 P2 P3;refine Uv ?_ ?_ e
 ·rcases h.1 with h|h|h|h
  ·exact Rat.le_trans M2 h
  ·exact Rat.le_trans M3 h
  ·exact Rat.le_trans M4 h
  ·exact Rat.le_trans M5 h
 ·rcases h.2 with h|h|h|h
  ·exact Rat.le_trans h K2
  ·exact Rat.le_trans h K3
  ·exact Rat.le_trans h K4
  ·exact Rat.le_trans h K5
end
end Go.Proofs.fB
namespace Go.Proofs.view
open Go Go.RowKit Go.Num Go.Mem Go.Proofs Go.fG Go.Proofs.fB Go.Proofs.matrix Go.Proofs.fE Go.Proofs.aS
def pt (z:Int):Int × Int:=(z,z)
def GU (a b:Int × Int):(Int × Int) × Int:=bO (0,0) (nG a b) qg
def DJ (a b c:Int × Int):(Int × Int) × Int:=bO (0,0) (nG a b) fun s=>bO (0,0) (nG s c) qg
def LC (p:Int):(Int × Int) × Int :=
 bO (0,0) (ptE p) fun b =>
 bO (0,0) (vQ b 400 1) fun n =>
 bO (0,0) (lI 2713 100) fun k =>
 bO (0,0) (jI k) fun k =>
 bO (0,0) (GU b k) fun s =>
 bO (0,0) (MO n s) qg
def MX (b:Int × Int):Int:=if jl b.1 b.2=true then 0 else 30
def Hw (fl x:Int × Int):(Int × Int) × Int :=
 bO (0,0) (pW (MX fl)) fun _=>bO (0,0) (pW (MX x)) fun _ =>
 if fl.1<0 then bO (0,0) (pW 2) fun _=>qg (0,0) else if x.1<0 then bO (0,0) (pW 2) fun _=>qg (0,0) else
 bO (0,0) (qm fl x) fun m =>
 bO (0,0) (power.Da m.1 m.2 5 12) fun u =>
 bO (0,0) (LC u.1) fun r =>
 bO (0,0) (LC u.2) fun s =>
 bO (0,0) (ofE r.1 s.2) qg
theorem rP {b:Int × Int} (h:jl b.1 b.2=true):pW (MX b)=((),0):=by unfold pW MX;rw [if_pos h]
def Ow (p:Int):Int:=400*p*1000000000000 / (p+27130000000000)
def Lx (p:Int):Int:= -(-(400*p*1000000000000) / (p+27130000000000))
theorem aw3 {n s:Int} (hn:n.natAbs≤1000000000000000000) (hs:0<s) (hs2:s≤1000000000000000000) (hq:n.natAbs*1000000000000≤1000000000000000000*s.natAbs):MO (pt n) (pt s)=((n*1000000000000 / s, -(-(n*1000000000000) / s)),0):=by
 have hb:okB [pt n,pt s]=true:=Zb (mP (by show -1000000000000000000≤n;omega) (Int.le_refl _) (by show n≤1000000000000000000;omega)) (mP (by show -1000000000000000000≤s;omega) (Int.le_refl _) hs2);rw [Tq hb hs (Int.le_refl _)]
 show iM (jf (un n / un s) [un n / un s,un n / un s,un n / un s]) (fU (un n / un s) [un n / un s,un n / un s,un n / un s])=_
 have g1:∀ q:Rat,jf q [q,q,q]=q:=fun q=>by unfold jf jf jf jf;grind
 have g2:∀ q:Rat,fU q [q,q,q]=q:=fun q=>by unfold fU fU fU fU;grind
 rw [g1,g2];have hs':(0:Rat)<(s:Rat):=Rat.intCast_pos.2 hs;have hs0:(s:Rat)≠0:=fun e=>by rw [e] at hs';exact absurd hs' Rat.lt_irrefl
 have e:un n / un s*((1000000000000:Int):Rat)=((n*1000000000000:Int):Rat) / (s:Rat):=by
  unfold un;rw [Rat.intCast_mul];have:=ae0;generalize ((1000000000000:Int):Rat)=E at *
  grind
 unfold iM;rw [e,kE,kE];have f2: -(((n*1000000000000:Int):Rat) / (s:Rat))=((-(n*1000000000000):Int):Rat) / (s:Rat):=by rw [tC,Rat.intCast_neg]
 rw [f2,nJ _ hs,nJ _ hs];obtain ⟨y,hy⟩:∃ y,n*1000000000000=y:=⟨_,rfl⟩;have by1: -(1000000000000000000*s)≤y∧y≤1000000000000000000*s:=by omega
 rw [hy];have d1: -1000000000000000000≤y / s:=(Int.le_ediv_iff_mul_le hs).2 (by rw [Int.neg_mul];exact by1.1);have d2: -1000000000000000000≤ -y / s:=(Int.le_ediv_iff_mul_le hs).2 (by rw [Int.neg_mul];omega)
 have d3:y / s≤ -(-y / s):=by
  have h1:=Int.ediv_mul_le y (show s≠0 by omega);have h2:=Int.ediv_mul_le (-y) (show s≠0 by omega);have h3:(y / s+ -y / s)*s≤0:=by rw [Int.add_mul];omega
  have h4:y / s+ -y / s≤0:=by
   refine Int.not_lt.1 fun h=>?_;have:=Int.mul_pos h hs;omega
  omega
 unfold jK;rw [if_pos (mP d1 d3 zo)]
theorem an8 {p:Int} (hp:p.natAbs≤1000000000000000):vQ (pt p) 400 1=(pt (400*p),0):=by
 rw [Bc (mP (by show -1000000000000000000≤p;omega) (Int.le_refl _) (by show p≤1000000000000000000;omega)) zd]
 have e:un p*(((400:Int):Rat) / ((1:Int):Rat))=un (400*p):=by
  unfold un;rw [Rat.intCast_mul];have h1:((1:Int):Rat)=1:=rfl;rw [h1]
  grind
 show iM (jf (un p*_) [un p*_,un p*_,un p*_]) (fU (un p*_) [un p*_,un p*_,un p*_])=_
 rw [e];have g1:∀ q:Rat,jf q [q,q,q]=q:=fun q=>by unfold jf jf jf jf;grind
 have g2:∀ q:Rat,fU q [q,q,q]=q:=fun q=>by unfold fU fU fU fU;grind
 rw [g1,g2];unfold iM;rw [Cm,kE,kE,← Rat.intCast_neg,Rat.floor_intCast,Rat.floor_intCast,Int.neg_neg];unfold jK pt;rw [if_pos (mP zo (Int.le_refl _) zo)]
theorem Va {p:Int} (h0:0≤p) (h1:p≤1000000000000000):LC p=((Ow p,Lx p),0):=by
 have e1:ptE p=(pt p,0):=by
  unfold ptE pt;rw [if_pos (mP zo (Int.le_refl _) zo)]
 have e2:nG (pt p) (pt 27130000000000)=(pt (p+27130000000000),0):=by
  unfold nG jK;rw [if_pos (Zb (mP (by show -1000000000000000000≤p;omega) (Int.le_refl _) (by show p≤1000000000000000000;omega)) zd),if_pos (show jl ((pt p).1+(pt 27130000000000).1) ((pt p).2+(pt 27130000000000).2)=true from mP (by show -1000000000000000000≤p+27130000000000;omega) (Int.le_refl _) (by show p+27130000000000≤1000000000000000000;omega))];rfl
 unfold LC;rw [aQ e1,aQ (an8 zo),aQ (show lI 2713 100=(Fr.of ((2713:Rat) / 100),0) by decide+kernel),aQ (show jI (Fr.of ((2713:Rat) / 100))=(pt 27130000000000,0) by decide+kernel),aQ (show GU (pt p) (pt 27130000000000)=_ by unfold GU;rw [aQ e2];rfl),aQ (aw3 zo zo zo zo)];rfl
theorem Vb {a b c d:Int} (hb:0<b) (hd:0<d) (h:a*d≤c*b):a / b≤c / d:=by
 refine (Int.le_ediv_iff_mul_le hd).2 ?_;have h1:=Int.ediv_mul_le a (show b≠0 by omega);refine Int.not_lt.1 fun hl=>?_;have h2:c*b<a / b*d*b:=Int.mul_lt_mul_of_pos_right hl hb;have h3:a / b*b*d≤a*d:=Int.mul_le_mul_of_nonneg_right h1 zo;have h4:a / b*d*b=a / b*b*d:=by grind
 omega
theorem cross {x y:Int} (h0:0≤x) (h:x≤y):400*x*1000000000000*(y+27130000000000)≤400*y*1000000000000*(x+27130000000000):=by
 have e1:400*x*1000000000000*(y+27130000000000)=400000000000000*(x*y)+400000000000000*27130000000000*x:=by grind
 have e2:400*y*1000000000000*(x+27130000000000)=400000000000000*(x*y)+400000000000000*27130000000000*y:=by grind
 omega
theorem vT {x y:Int} (h0:0≤x) (h:x≤y):Ow x≤Ow y:=Vb zo zo (cross h0 h)
theorem JA {x y:Int} (h0:0≤x) (h:x≤y):Lx x≤Lx y:=by
 have:=Vb (a:= -(400*y*1000000000000)) (b:=y+27130000000000) (c:= -(400*x*1000000000000)) (d:=x+27130000000000) zo zo (by
  have:=cross h0 h;rw [Int.neg_mul,Int.neg_mul];omega)
 unfold Lx;omega
theorem zF {x:Int} (h0:0≤x):Ow x≤Lx x:=by
 unfold Ow Lx;obtain ⟨y,hy⟩:∃ y,400*x*1000000000000=y:=⟨_,rfl⟩;obtain ⟨s,hs⟩:∃ s,x+27130000000000=s:=⟨_,rfl⟩;rw [hy,hs];have hs0:0<s:=by omega
 have h1:=Int.ediv_mul_le y (show s≠0 by omega);have h2:=Int.ediv_mul_le (-y) (show s≠0 by omega);have h3:(y / s+ -y / s)*s≤0:=by rw [Int.add_mul];omega
 have h4:y / s+ -y / s≤0:=by
  refine Int.not_lt.1 fun h=>?_;have:=Int.mul_pos h hs0;omega
 omega
theorem U4 {x:Int} (h0:0≤x):0≤Ow x:=Int.ediv_nonneg zo zo
theorem Qx {x:Int} (h0:0≤x) (h1:x≤100000000000000):Lx x<400000000000000:=by
 have:=JA h0 h1;have e:Lx 100000000000000<400000000000000:=by decide+kernel
 omega
theorem aE0 {x y P Q:Int} {p q A B:Nat} (hp:P.toNat=p) (hq:Q.toNat=q) (b:jl x y=true) (h0:0≤x) (hk:power.eok P Q=true) (hA:nT x.toNat p q=A) (hB:phi y.toNat p q=B) (c1:A≤1000000000000000000) (c2:nT y.toNat p q≤1000000000000000000) (c3:B≤1000000000000000000) (c4:A≤B):power.Da x y P Q=(((A:Int),(B:Int)),0):=by
 unfold power.Da power.JK yR;rw [b,if_neg zd,if_neg (by rw [not_or];exact ⟨by rw [hk];decide,by omega⟩)];simp only [hp,hq,hA,hB];have t:(10:Nat)^18=1000000000000000000:=by decide
 rw [t,if_pos c1,if_pos c2];simp only [ne_eq,not_true_eq_false,if_false,if_true,cK];rw [if_pos (mP zo zo zo)]
theorem QC {x y:Int} (h0:0≤x) (h1:x≤y) (h2:y≤100000000000000):(bO (0,0) (LC x) fun r=>bO (0,0) (LC y) fun s=>bO (0,0) (ofE r.1 s.2) qg)=((Ow x,Lx y),0):=by
 have l1:=vT h0 h1;have l2:=zF (show 0≤y by omega);have l3:=U4 h0;have l4:=Qx (show 0≤y by omega) h2
 have e:ofE (Ow x) (Lx y)=((Ow x,Lx y),0):=by
  unfold ofE;rw [if_pos (mP zo zo zo)]
 rw [aQ (Va h0 (show x≤1000000000000000 by omega)),aQ (Va (show 0≤y by omega) (show y≤1000000000000000 by omega))]
 show bO (0,0) (ofE (Ow x) (Lx y)) qg=_
 rw [aQ e];unfold qg;exact Eq.refl _
theorem VI {F p1 p2 x:Int} {m:Int × Int} (h1:p1≤x) (h2:x≤p2) (e:qm (pt F) (p1,p2)=(m,0)):m.1*1000000000000≤F*x∧F*x≤m.2*1000000000000:=by
 have e0:=e;unfold qm at e0;obtain ⟨k1, -⟩:=LX zd e0;rw [Bh k1] at e;have b:Bt4 (un F*un p1) (un F*un p2) (un F*un p1) (un F*un p2) (un F*un x):=U0 Rat.le_refl Rat.le_refl (BM.2 h1) (BM.2 h2);have c:=Z7 b e
 have e1:un F*un x*((1000000000000:Int):Rat)*((1000000000000:Int):Rat)=((F*x:Int):Rat):=by
  rw [Rat.intCast_mul,← Cm F,← Cm x]
  grind
 have e2:∀ z:Int,un z*((1000000000000:Int):Rat)*((1000000000000:Int):Rat)=((z*1000000000000:Int):Rat):=fun z=>by rw [Cm,Rat.intCast_mul]
 have mul:∀ {y z:Rat},y≤z→y*((1000000000000:Int):Rat)*((1000000000000:Int):Rat)≤z*((1000000000000:Int):Rat)*((1000000000000:Int):Rat):=fun h=>Rat.mul_le_mul_of_nonneg_right (Rat.mul_le_mul_of_nonneg_right h (Rat.le_of_lt uh)) (Rat.le_of_lt uh)
 have k2:=mul c.1;have k3:=mul c.2;rw [e1,e2] at k2 k3;exact ⟨Rat.intCast_le_intCast.1 k2,Rat.intCast_le_intCast.1 k3⟩
theorem aE1 {m:Nat} (h:m≤3870000000000000):phi m 5 12≤32000000000000:=by
 have k:3870000000000000^5*10^(12*12)≤32000000000000^12*10^(12*5):=by decide+kernel
 have k2:m^5≤3870000000000000^5:=Nat.pow_le_pow_left h 5;obtain ⟨X,hX⟩:∃ X,3870000000000000^5=X:=⟨_,rfl⟩;rw [hX] at k k2;exact OB zo (au (aU _ k2) k)
theorem Pv {F p1 p2:Int} (hF:0≤F) (hF2:F≤4300000000000) (h0:0≤p1) (h1:p1≤p2) (h2:p2≤900000000000000):∃ m,qm (pt F) (p1,p2)=(m,0)∧0≤m.1∧m.1≤m.2∧phi m.2.toNat 5 12≤32000000000000∧nT m.1.toNat 5 12≤phi m.2.toNat 5 12∧Hw (pt F) (p1,p2)=((Ow ((nT m.1.toNat 5 12:Nat):Int),Lx ((phi m.2.toNat 5 12:Nat):Int)),0):=by
 have sF:Sb (pt F) (0,4300000000000):=⟨hF,Int.le_refl _,hF2⟩;have sp:Sb (p1,p2) (0,900000000000000):=⟨h0,h1,h2⟩;obtain ⟨m,e1,hm⟩:=uN sF sp (C:=(0,3870000000000000)) (by decide+kernel);obtain ⟨m0,m1,m2⟩:=hm;simp only at m0 m2;have k1:phi m.2.toNat 5 12≤32000000000000:=aE1 zo;have k2:nT m.1.toNat 5 12≤nT m.2.toNat 5 12:=JU zo (au (vY zo _ _).1 (aU _ (Nat.pow_le_pow_left (show m.1.toNat≤m.2.toNat by omega) 5)));have k3:=(yL m.2.toNat 5 12).1;refine ⟨m,e1,m0,m1,k1,by omega,?_⟩;have bm:jl m.1 m.2=true:=mP zo m1 zo;have e2:power.Da m.1 m.2 5 12=((((nT m.1.toNat 5 12:Nat):Int),((phi m.2.toNat 5 12:Nat):Int)),0):=aE0 (p:=5) (q:=12) rfl rfl bm m0 zd rfl rfl zo zo zo zo;generalize nT m.1.toNat 5 12=A at *;generalize phi m.2.toNat 5 12=B at *;unfold Hw
 rw [aQ (rP (show jl (pt F).1 (pt F).2=true from sF.jl zd)),aQ (rP (show jl (p1,p2).1 (p1,p2).2=true from sp.jl zd)),if_neg (show ¬ (pt F).1<0 by show ¬ F<0;omega),if_neg (show ¬ (p1,p2).1<0 by show ¬ p1<0;omega),aQ e1,aQ e2];exact QC zo zo zo
theorem compressed {F p1 p2 q1 q2:Int} (hF:0≤F) (hF2:F≤4300000000000) (h0:0≤p1) (h1:p1≤p2) (h2:p2≤q1) (h3:q1≤q2) (h4:q2≤900000000000000) :
  ∃ a b c,Hw (pt F) (p1,p2)=(a,0)∧Hw (pt F) (q1,q2)=(b,0)∧Hw (pt F) (p1,q2)=(c,0)∧0≤a.1∧b.2<400000000000000∧a.1≤b.2∧c.1≤a.1∧b.2≤c.2∧c.1≤b.1∧a.2≤c.2∧a.1≤a.2∧b.1≤b.2:=by
 obtain ⟨m,e1,m0,m1,k1,k2,e2⟩:=Pv hF hF2 h0 h1 (show p2≤900000000000000 by omega);obtain ⟨n,f1,n0,n1,l1,l2,f2⟩:=Pv hF hF2 (show 0≤q1 by omega) h3 h4;obtain ⟨o,g1,o0,o1,j1,j2,g2⟩:=Pv hF hF2 h0 (show p1≤q2 by omega) h4;obtain ⟨m',x1,x2⟩:=uN (a:=pt F) (b:=(p1,p2)) (B:=(p1,q2)) (Sb.refl (Int.le_refl _)) ⟨Int.le_refl _,h1,by show p2≤q2;omega⟩ g1;obtain ⟨n',y1,y2⟩:=uN (a:=pt F) (b:=(q1,q2)) (B:=(p1,q2)) (Sb.refl (Int.le_refl _)) ⟨by show p1≤q1;omega,h3,Int.le_refl _⟩ g1;rw [e1] at x1;cases x1
 rw [f1] at y1;cases y1
 have ml:∀ {x y:Int},0≤x→x≤y→nT x.toNat 5 12≤nT y.toNat 5 12:=fun {x y} h0 h=>JU zo (au (vY zo _ _).1 (aU _ (Nat.pow_le_pow_left (show x.toNat≤y.toNat by omega) 5)))
 have mh:∀ {x y:Int},0≤x→x≤y→phi x.toNat 5 12≤phi y.toNat 5 12:=fun {x y} h0 h=>OB zo (au (aU _ (Nat.pow_le_pow_left (show x.toNat≤y.toNat by omega) 5)) (LP zo _ _))
 have s1:=x2.lo;have s2:=x2.hi;have s3:=y2.lo;have s4:=y2.hi;have a1:=ml o0 s1;have a2:=mh (show 0≤m.2 by omega) s2;have a3:=ml o0 s3;have a4:=mh (show 0≤n.2 by omega) s4
 have pn:nT m.1.toNat 5 12≤phi n.2.toNat 5 12:=by
  have t:m.1≤n.2:=by
   have c1:=(show m.1≤n.2 from by
    have u1:=(VI (Int.le_refl _) h1 e1).1;have u2:=(VI h3 (Int.le_refl _) f1).2;have u3:F*p1≤F*q2:=Int.mul_le_mul_of_nonneg_left zo hF;omega)
   exact c1
  have:=ml m0 t;have:=(yL n.2.toNat 5 12).1;omega
 refine ⟨_,_,_,e2,f2,g2,U4 zo,Qx zo zo,?_,vT zo zo,JA zo zo,vT zo zo,JA zo zo,?_,?_⟩
 ·exact Int.le_trans (vT zo (Int.ofNat_le.2 pn)) (zF zo)
 ·exact Int.le_trans (vT zo (Int.ofNat_le.2 k2)) (zF zo)
 ·exact Int.le_trans (vT zo (Int.ofNat_le.2 l2)) (zF zo)
end Go.Proofs.view
namespace Go.Proofs.view
open Go Go.RowKit Go.Num Go.Mem Go.Proofs Go.fG Go.Proofs.fB
def _root_.Go.Proofs.adapt.WQ (k:Int) (a b:light.ig) (d:Fr):light.ig × Int:=(if adapt.oF k a b d=0 then adapt.dY (adapt.sG k a b d) else adapt.VA,adapt.oF k a b d)
def noT:light.ig:=⟨Fr.no,Fr.no,Fr.no⟩
def PN (f lo hi:Fr):Bool × Int:=bO false (tQ f lo) fun a=>if 0≤a then bO false (tQ f hi) fun b=>qg (decide (b≤0)) else qg false
def zG (t:light.ig):light.ig × Int:=(adapt.dY (adapt.jV 4 t),if adapt.mF (adapt.jV 4 t) then 0 else 6)
def Kn:light.ig × Int:=bO noT (pW 280) fun _=>qg noT
def Aj (W:light.ig) (la yb:Fr) (s:Int):light.ig × Int :=
 bO noT (pW (light.uy W)) fun _=>bO noT (pW (Dk la)) fun _=>bO noT (pW (Dk yb)) fun _ =>
 bO noT (zG W) fun r =>
 bO noT (jQ r.x) fun a=>if a≤0 then Kn else bO noT (jQ r.y) fun a=>if a≤0 then Kn else bO noT (jQ r.z) fun a=>if a≤0 then Kn else
 bO noT (lI 1 1) fun lo=>bO noT (lI 2000 1) fun hi=>bO noT (PN la lo hi) fun b=>if b=false then Kn else
 bO noT (jQ yb) fun a=>if a≤0 then Kn else bO noT (tQ yb W.y) fun b=>if 0<b then Kn else
 if s<1 then Kn else if 3<s then Kn else qg r
def Xf (la f:Fr):Fr × Int :=
 bO Fr.no (lI 1 1) fun one=>bO Fr.no (lI 92 1) fun h=>bO Fr.no (nP la h) fun q=>bO Fr.no (wS one q) fun n =>
 bO Fr.no (lI 18 1) fun e=>bO Fr.no (pO e n) fun n=>bO Fr.no (lI 5 1) fun v=>bO Fr.no (nP v n) fun n =>
 bO Fr.no (yE one n) fun m=>bO Fr.no (pO f m) qg
def O4 (la:Fr):(Int × Int) × Int :=
 bO (0,0) (lI 1 1) fun one=>bO (0,0) (lI 5 1) fun v=>bO (0,0) (pO v la) fun five =>
 bO (0,0) (wS five one) fun p=>bO (0,0) (nP one p) fun k=>bO (0,0) (JI k 4) fun k4 =>
 bO (0,0) (pO k4 la) fun first=>bO (0,0) (yE one k4) fun s=>bO (0,0) (JI s 2) fun rest =>
 bO (0,0) (lI 1 10) fun t=>bO (0,0) (pO t rest) fun second =>
 bO (0,0) (jI five) fun a=>bO (0,0) (power.Da a.1 a.2 1 3) fun root =>
 bO (0,0) (jI first) fun x=>bO (0,0) (jI second) fun y=>bO (0,0) (qm y root) fun m=>bO (0,0) (GU x m) qg
def cl {α:Type} (z:α) (r:α × Int):α × Int:=if r.2=0 then r else (z,r.2)
def Py (fl x:Int × Int):(Int × Int) × Int:=cl (0,0) (Hw fl x)
def Xx (nbb r g b:Int × Int):(Int × Int) × Int :=
 bO (0,0) (pW (MX nbb)) fun _=>bO (0,0) (pW (MX r)) fun _=>bO (0,0) (pW (MX g)) fun _=>bO (0,0) (pW (MX b)) fun _ =>
 bO (0,0) (vQ r 2 1) fun r=>bO (0,0) (vQ b 1 20) fun b=>bO (0,0) (DJ r g b) fun s=>bO (0,0) (qm s nbb) qg
def TK (nbb r g b:Int × Int):(Int × Int) × Int:=cl (0,0) (Xx nbb r g b)
abbrev Drv:=(Fr × Fr × Fr × Fr × Fr) × (Int × Int) × light.ig × (Int × Int) × (Int × Int) × (Int × Int)
def Dc:Drv:=((Fr.no,Fr.no,Fr.no,Fr.no,Fr.no),(0,0),noT,(0,0),(0,0),(0,0))
def Ar (r g:Fr) (fl:Int × Int):(Int × Int) × Int:=bO (0,0) (pO r g) fun a=>bO (0,0) (jI a) fun b=>bO (0,0) (Py fl b) qg
def Tw (f nc c num den:Int) (W:light.ig) (la yb:Fr) (r:light.ig):Drv × Int :=
 bO Dc (lI f 1000) fun F=>bO Dc (lI nc 1000) fun N=>bO Dc (lI c 1000) fun C=>bO Dc (nP yb W.y) fun n =>
 bO Dc (Xf la F) fun D=>bO Dc (adapt.WQ 4 W ⟨W.y,W.y,W.y⟩ D) fun G=>bO Dc (O4 la) fun fl =>
 bO Dc (lI 1 1) fun one=>bO Dc (nP one n) fun q=>bO Dc (jI q) fun q=>bO Dc (power.Da q.1 q.2 1 5) fun root =>
 bO Dc (lI 725 1000) fun m=>bO Dc (jI m) fun m=>bO Dc (qm m root) fun nbb =>
 bO Dc (Ar r.x G.x fl) fun x=>bO Dc (Ar r.y G.y fl) fun y=>bO Dc (Ar r.z G.z fl) fun z =>
 bO Dc (TK nbb x y z) fun aw=>qg ((F,N,C,n,D),(num,den),G,fl,nbb,aw)
def oo (s:Int):Int × Int × Int × Int × Int:=if s=1 then (1000,1000,690,4,3) else if s=2 then (900,950,590,7,6) else (800,800,525,1,1)
def Bu (W:light.ig) (la yb:Fr) (s:Int):Drv × Int :=
 bO Dc (Aj W la yb s) fun r=>bO Dc (Tw (oo s).1 (oo s).2.1 (oo s).2.2.1 (oo s).2.2.2.1 (oo s).2.2.2.2 W la yb r) qg
def Tt (W:light.ig) (la yb:Fr) (s:Int):Drv × Int:=cl Dc (Bu W la yb s)
end Go.Proofs.view
namespace Go.Proofs.view
open Go Go.RowKit Go.SW Go.Num Go.Mem Go.Proofs Go.fG Go.Fx
def thrown (er:Int):Ending:=.panicked [{ v:=.iface 101 (aB #[Z I er]),recovered:=false }]
abbrev Try:=KH thrown
theorem iN (k:Int):∃ c,thrown k= .panicked c:=⟨_,rfl⟩
theorem kN (w:World):Calls Tryz.prog 21 #[Z I 0] w (fun e w'=>e= aj (aD #[])∧w'=w):=by
 go_enter Tryz.func21,Tryz.ntmps21
 go_wp2_with fail
 first|go_end0|refine bodyPost_ret (results_none rfl _ _ _) rfl ?_
 exact ⟨rfl,rfl⟩
theorem iO (er:Int) (h:er≠0) (w:World):Calls Tryz.prog 21 #[Z I er] w (fun e w'=>e=thrown er∧w'=w):=by
 have b1:(er != 0)=true:=by simp [h]
 clear h;go_enter Tryz.func21,Tryz.ntmps21
 go_wp2_with fail
 exact ⟨rfl,rfl,rfl⟩
theorem kP {c k:Int} {u:Unit} (hx:iD (pW c) u k) (w:World):Calls Tryz.prog 21 #[Z I c] w (Try w (aD #[]) k):=by
 obtain rfl:c=k:=hx.1
 by_cases h:c=0
 ·subst h;exact (kN w).mono fun _ _ ⟨e,h⟩=>by subst h;exact ⟨Below.refl _ _,.inl ⟨rfl,e⟩⟩
 ·exact (iO c h w).mono fun _ _ ⟨e,h2⟩=>by subst h2;exact ⟨Below.refl _ _,.inr ⟨h,e⟩⟩
theorem iV {s t:ByteArray} {k:Int} (w:World):Calls Tryz.prog 77 #[aB #[O s,O t],Z I k] w (Try w (aB #[O s,O t]) k):=by
 by_cases h:k=0
 ·subst h;go_enter Tryz.func77,Tryz.ntmps77
  go_wp2_with fail
  refine (kN _).mono ?_;rintro e w1 ⟨rfl,rfl⟩;go_wp2_with fail
  refine gG rfl rfl bq Tryz.underlying38 rfl zk ?_;exact ⟨aI,.inl ⟨rfl,rfl⟩⟩
 ·have H:=zh h;clear h;go_enter Tryz.func77,Tryz.ntmps77
  go_wp2_with fail
  refine (iO k H.out _).mono ?_;rintro e w1 ⟨rfl,rfl⟩;exact ⟨rfl,aI,.inr ⟨H.out,rfl⟩⟩
theorem iK {x y:Int} {k:Int} (w:World):Calls Tryz.prog 23 #[aB #[Z I x,Z I y],Z I k] w (Try w (aB #[Z I x,Z I y]) k):=by
 by_cases h:k=0
 ·subst h;go_enter Tryz.func23,Tryz.ntmps23
  go_wp2_with fail
  refine (kN _).mono ?_;rintro e w1 ⟨rfl,rfl⟩;go_wp2_with fail
  refine gG rfl rfl bq Tryz.underlying26 rfl zk ?_;exact ⟨aI,.inl ⟨rfl,rfl⟩⟩
 ·have H:=zh h;clear h;go_enter Tryz.func23,Tryz.ntmps23
  go_wp2_with fail
  refine (iO k H.out _).mono ?_;rintro e w1 ⟨rfl,rfl⟩;exact ⟨rfl,aI,.inr ⟨H.out,rfl⟩⟩
theorem uL {v k:Int} (w:World):Calls Tryz.prog 74 #[Z I v,Z I k] w (Try w (Z I v) k):=by
 by_cases h:k=0
 ·subst h;go_enter Tryz.func74,Tryz.ntmps74
  go_wp2_with fail
  refine (kN _).mono ?_;rintro e w1 ⟨rfl,rfl⟩;go_wp2_with fail
  go_ret
  exact ⟨Below.refl _ _,.inl ⟨rfl,rfl⟩⟩
 ·have H:=zh h;clear h;go_enter Tryz.func74,Tryz.ntmps74
  go_wp2_with fail
  refine (iO k H.out _).mono ?_;rintro e w1 ⟨rfl,rfl⟩;exact ⟨rfl,Below.refl _ _,.inr ⟨H.out,rfl⟩⟩
theorem Zk {a b c d e f:ByteArray} {k:Int} (w:World):Calls Tryz.prog 80 #[aB #[O a,O b,O c,O d,O e,O f],Z I k] w (Try w (aB #[O a,O b,O c,O d,O e,O f]) k):=by
 by_cases h:k=0
 ·subst h;go_enter Tryz.func80,Tryz.ntmps80
  go_wp2_with fail
  refine (kN _).mono ?_;rintro e w1 ⟨rfl,rfl⟩;go_wp2_with fail
  refine gG rfl rfl bq Tryz.underlying39 rfl zk ?_;exact ⟨aI,.inl ⟨rfl,rfl⟩⟩
 ·have H:=zh h;clear h;go_enter Tryz.func80,Tryz.ntmps80
  go_wp2_with fail
  refine (iO k H.out _).mono ?_;rintro e w1 ⟨rfl,rfl⟩;exact ⟨rfl,aI,.inr ⟨H.out,rfl⟩⟩
theorem Zm {a:Option Addr} {n c:Nat} {k:Int} (w:World):Calls Tryz.prog 70 #[ah a n c,Z I k] w (Try w (ah a n c) k):=by
 by_cases h:k=0
 ·subst h;go_enter Tryz.func70,Tryz.ntmps70
  go_wp2_with fail
  refine (kN _).mono ?_;rintro e w1 ⟨rfl,rfl⟩;go_wp2_with fail
  go_ret
  exact ⟨Below.refl _ _,.inl ⟨rfl,rfl⟩⟩
 ·have H:=zh h;clear h;go_enter Tryz.func70,Tryz.ntmps70
  go_wp2_with fail
  refine (iO k H.out _).mono ?_;rintro e w1 ⟨rfl,rfl⟩;exact ⟨rfl,Below.refl _ _,.inr ⟨H.out,rfl⟩⟩
theorem Zo {a:Option Addr} {n c:Nat} {k:Int} (w:World):Calls Tryz.prog 72 #[ah a n c,Z I k] w (Try w (ah a n c) k):=by
 by_cases h:k=0
 ·subst h;go_enter Tryz.func72,Tryz.ntmps72
  go_wp2_with fail
  refine (kN _).mono ?_;rintro e w1 ⟨rfl,rfl⟩;go_wp2_with fail
  go_ret
  exact ⟨Below.refl _ _,.inl ⟨rfl,rfl⟩⟩
 ·have H:=zh h;clear h;go_enter Tryz.func72,Tryz.ntmps72
  go_wp2_with fail
  refine (iO k H.out _).mono ?_;rintro e w1 ⟨rfl,rfl⟩;exact ⟨rfl,Below.refl _ _,.inr ⟨H.out,rfl⟩⟩
theorem jE {n d:Int} {y y':ByteArray} {k:Int} (hx:iD (lI n d) ⟨y,y'⟩ k) (w:World) (ht:ko.Pow w) (n0: -9223372036854775808≤n:=by omega) (n1:n≤9223372036854775807:=by omega) (d0: -9223372036854775808≤d:=by omega) (d1:d≤9223372036854775807:=by omega):Calls Tryz.prog 61 #[.int .i64 n,.int .i64 d] w (Try w (.agg #[.string y,.string y']) k):=by
 refine Fx.door Tryz.func61 rfl (.nil w []) ?_;have HR:=hx;refine Fx.bK [] 4 38 [] [] fun iB=>?_;obtain ⟨⟨s2,t2⟩,k2,EX,HN⟩:=yB HR;refine Fx.call [] 7 [] [] (fun W M=>cOf EX _ (ht.later M.below)) ?_;refine Fx.dD iN [] 10 [] [] (fun W M=>iV (s:=s2) (t:=t2) _) HN fun _ HR=>?_;obtain ⟨hk,hv⟩:=HR;cases hk
 exact Fx.mU (cs:=#[.string s2,.string t2]) 0 iB [3] [(0,#[.string s2,.string t2])] (fun W M=>⟨M.below,.inl ⟨rfl,by cases hv rfl;rfl⟩⟩)
theorem oh {s t:ByteArray} {x y k:Int} (hx:iD (fB.jI ⟨s,t⟩) (x,y) k) (w:World) (ht:ko.Pow w) (he:whole.Er w):Calls Tryz.prog 60 #[aB #[O s,O t]] w (Try w (aB #[Z I x,Z I y]) k):=by
 refine Fx.door Tryz.func60 rfl (.nil w []) ?_;have HR:=hx;refine Fx.new [] 1 #[O s,O t] 38 [] [] fun iB=>?_;refine Fx.bK [] 2 26 [] [] fun jX=>?_;obtain ⟨⟨x3,y3⟩,k3,EX,HN⟩:=yB HR;refine Fx.call [3] 4 [] [] (fun W M=>ab6 EX _ (ht.later M.below) (he.later M.below)) ?_;refine Fx.dD iN [] 7 [] [] (fun W M=>iK (x:=x3) (y:=y3) _) HN fun _ HR=>?_;obtain ⟨hk,hv⟩:=HR;cases hk
 exact Fx.mU (cs:=#[Z I x3,Z I y3]) 1 jX [4] [(1,#[Z I x3,Z I y3])] (fun W M=>⟨M.below,.inl ⟨rfl,by cases hv rfl;rfl⟩⟩)
theorem UE {a b c d x y k:Int} {q:Nat} (hx:iD (GU (a,b) (c,d)) (x,y) k) (w:World) (hq:aA w q #[Z I c,Z I d] 26):Calls Tryz.prog 44 #[aB #[Z I a,Z I b],ah (some ⟨q,0,none⟩) 1 1] w (Try w (aB #[Z I x,Z I y]) k):=by
 unfold GU at hx;refine Fx.door Tryz.func44 rfl (.ro hq (.nil w [])) ?_;have HR:=hx;refine Fx.new [] 2 #[Z I a,Z I b] 26 [] [] fun iB=>?_;refine Fx.bK [] 4 26 [] [] fun jX=>?_;refine Fx.bK [1,3] 6 26 [(8,Z I 1),(9,Z I 0),(12,aB #[Z I c,Z I d])] [] fun jN=>?_;obtain ⟨⟨x4,y4⟩,k4,EX,HN⟩:=aG HR;refine Fx.call [6,4,6] 15 [] [(3,#[Z I c,Z I d])] (fun W M=>Xr EX _) ?_;refine Fx.dD iN [] 18 [] [] (fun W M=>iK (x:=x4) (y:=y4) _) HN fun _ HR=>?_;obtain ⟨hk,hv⟩:=HR;cases hk
 exact Fx.mU (cs:=#[Z I x4,Z I y4]) 2 jX [4,2,4,5] [(1,#[Z I x4,Z I y4]),(2,#[Z I x4,Z I y4])] (fun W M=>⟨M.below,.inl ⟨rfl,by cases hv rfl;rfl⟩⟩)
theorem an5 {a b c d e f x y k:Int} {q:Nat} (hx:iD (DJ (a,b) (c,d) (e,f)) (x,y) k) (w:World) (hq:aA w q #[Z I c,Z I d,Z I e,Z I f] 26):Calls Tryz.prog 44 #[aB #[Z I a,Z I b],ah (some ⟨q,0,none⟩) 2 2] w (Try w (aB #[Z I x,Z I y]) k):=by
 unfold DJ at hx;refine Fx.door Tryz.func44 rfl (.ro hq (.nil w [])) ?_;have HR:=hx;refine Fx.new [] 2 #[Z I a,Z I b] 26 [] [] fun iB=>?_;refine Fx.bK [] 4 26 [] [] fun jX=>?_;refine Fx.bK [1,3] 6 26 [(7,ah (some ⟨q,0,none⟩) 2 2),(8,Z I 2),(9,Z I 0),(12,aB #[Z I c,Z I d])] [] fun jN=>?_;obtain ⟨⟨x4,y4⟩,k4,EX,HN⟩:=aG HR;refine Fx.call [6,4,6] 15 [] [(3,#[Z I c,Z I d])] (fun W M=>Xr EX _) ?_;refine Fx.dD iN [] 18 [] [] (fun W M=>iK (x:=x4) (y:=y4) _) HN fun _ HR=>?_;refine Fx.bK [4,1,3] 6 26 [(9,Z I 1),(12,aB #[Z I e,Z I f])] [(1,#[Z I x4,Z I y4])] fun GJ=>?_;obtain ⟨⟨x7,y7⟩,k7,EX,HN⟩:=aG HR;refine Fx.call [7,4,7] 15 [] [(4,#[Z I e,Z I f])] (fun W M=>Xr EX _) ?_;refine Fx.dD iN [] 18 [] [] (fun W M=>iK (x:=x7) (y:=y7) _) HN fun _ HR=>?_
 obtain ⟨hk,hv⟩:=HR;cases hk
 exact Fx.mU (cs:=#[Z I x7,Z I y7]) 2 jX [4,2,4,5] [(1,#[Z I x7,Z I y7]),(2,#[Z I x7,Z I y7])] (fun W M=>⟨M.below,.inl ⟨rfl,by cases hv rfl;rfl⟩⟩)
theorem TG {s1 s2 l1 l2 h1 h2:ByteArray} {v:Bool} {k:Int} (hx:iD (PN ⟨s1,s2⟩ ⟨l1,l2⟩ ⟨h1,h2⟩) v k) (w:World):Calls Tryz.prog 76 #[aB #[O s1,O s2],aB #[O l1,O l2],aB #[O h1,O h2]] w (Try w (ak v) k):=by
 unfold PN at hx;refine Fx.door Tryz.func76 rfl (.nil w []) ?_;have HR:=hx;refine Fx.new [] 3 #[O s1,O s2] 38 [] [] fun iB=>?_;refine Fx.new [] 4 #[O l1,O l2] 38 [] [] fun jX=>?_;refine Fx.new [] 5 #[O h1,O h2] 38 [] [] fun jN=>?_;obtain ⟨v4,k4,EX,HN⟩:=aG HR;refine Fx.call [3,4] 9 [] [] (fun W M=>ab5 EX _) ?_;refine Fx.dD iN [] 12 [] [] (fun W M=>uL (v:=v4) _) HN fun _ HR=>?_;refine Fx.part 1 [] [(13,ak (decide (0≤v4)))] [] ?_;refine Fx.splitB (fun hf1=>?_) (fun hf1=>?_)
 ·skip
  replace HR:=iD.pos HR (of_decide_eq_true hf1);obtain ⟨v6,k6,EX,HN⟩:=aG HR;refine Fx.call [3,5] 17 [(14,ak true)] [] (fun W M=>ab5 EX _) ?_;refine Fx.dD iN [] 20 [] [] (fun W M=>uL (v:=v6) _) HN fun _ HR=>?_;obtain ⟨hk,hv⟩:=HR;cases hk
  exact Fx.Cn (v:=ak (decide (v6≤0))) [] [] (fun W M=>⟨M.below,.inl ⟨rfl,by cases hv rfl;rfl⟩⟩)
 ·skip
  replace HR:=iD.neg HR (of_decide_eq_false hf1);obtain ⟨hk,hv⟩:=HR;cases hk
  exact Fx.Cn (v:=ak false) [0,0,0,0] [] (fun W M=>⟨M.below,.inl ⟨rfl,by cases hv rfl;rfl⟩⟩)
end Go.Proofs.view
