/- Lemmas for the proof. No condition. -/
import Derived.Test.YtfhappbmgghgdaaGreatDoorWB01
import Derived.Test.YtfhappbmgghgdaaGreatDoorWB02
import Derived.Test.YtfhappbmgghgdaaGreatDoorWB13
import Derived.RegionTactic
import Derived.Deep.Cut
set_option linter.unusedVariables false
set_option linter.unusedSimpArgs false
set_option maxRecDepth 100000
set_option maxHeartbeats 16000000
namespace Go.Proofs.aC
open Go Go.RowKit Go.SW Go.Num Go.Mem Go.Proofs
theorem Qh {P:Program} {fn:Func} {R:Ending→World→Prop} {w:World} {tmps:Array Value} {p q:Tmp} {ty t ty2 t2:TypeId} {g g2:Nat} {cs cs2:Array Value} {d d2:TypeDesc} (h:fn.results=#[.cell p ty,.cell q ty2])
  (hp:tmps.getD p undef= .pointer (some ⟨g,0,none⟩)) (hg:au w g cs t) (hu:P.underlying ty=some d)
  (hd:(match d with| .struct _| .array _ _=>true| _=>false)=true) (hi:(P.info? ty).map (·.size)=some cs.size)
  (hp2:tmps.getD q undef= .pointer (some ⟨g2,0,none⟩)) (hg2:au w g2 cs2 t2) (hu2:P.underlying ty2=some d2)
  (hd2:(match d2 with| .struct _| .array _ _=>true| _=>false)=true) (hi2:(P.info? ty2).map (·.size)=some cs2.size)
  (k:R (.returned (.tuple #[.agg cs,.agg cs2])) w):bodyPost P fn R .ret { tmps:=tmps,defers:=[] } w:=by
 refine bodyPost_ret ?_ rfl k
 have e:(results fn tmps).run P w=((asAddr (tmps.getD p undef)).run P w).andThen fun a w₁=>((loadVar ty a).run P w₁).andThen fun v w₂=>((asAddr (tmps.getD q undef)).run P w₂).andThen fun a w₁=>((loadVar ty2 a).run P w₁).andThen fun v2 w₂=>.ok (.tuple #[v,v2]) w₂:=by
  simp only [results,h];simp [Sem.run_bind,Result.andThen]
 rw [e,hp,hp2];simp only [asAddr,Sem.run_pure,Result.andThen_ok];rw [run_loadVar_row w g t ty cs (0,0) d hg hu hd hi];simp only [Result.andThen_ok,Sem.run_pure];rw [run_loadVar_row w g2 t2 ty2 cs2 (0,0) d2 hg2 hu2 hd2 hi2];rfl
theorem Nm.inj {w:World} {v:Value} {m n:Nat} (h:Nm w v m) (k:Nm w v n):m=n:=by
 obtain ⟨p,c,rfl, -, -, h1⟩:=Gs.read h.gs;obtain ⟨p',c',e, -, -, h2⟩:=Gs.read k.gs;simp only [Value.slice.injEq] at e;obtain ⟨rfl,hl,rfl⟩:=e
 have:bg 10000 m=bg 10000 n:=by
  refine List.ext_getElem hl fun i hi hi2=>?_;obtain ⟨b,o,e, -, hc⟩:=h1 i hi;obtain ⟨b',o',e', -, hc'⟩:=h2 i hi2;rw [e] at e';simp only [Option.some.injEq,Addr.mk.injEq,and_true] at e';obtain ⟨rfl,rfl⟩:=e';rw [hc] at hc';simp only [Option.some.injEq,Value.int.injEq,true_and] at hc';rw [List.getD_eq_getElem?_getD,List.getD_eq_getElem?_getD,List.getElem?_eq_getElem hi,List.getElem?_eq_getElem hi2] at hc'
  simpa using Int.ofNat_inj.mp hc'
 rw [← aM (B:=10000) zo m,this,aM zo]
open Classical in
noncomputable def Zj (w:World) (v:Value):Nat:=if h:∃ n,Nm w v n then h.choose else 0
theorem Lp {w:World} {v:Value} {n:Nat} (h:Nm w v n):Zj w v=n:=by
 unfold Zj;rw [dif_pos ⟨n,h⟩];exact Nm.inj (Exists.choose_spec (⟨n,h⟩:∃ n,Nm w v n)) h
theorem tV (x y:Value) (a b:Int) (w:World) (hx:Pl w x a) (hy:Pl w y b) (ha:sz 10000 a.natAbs≤274877906944) (hb:sz 10000 b.natAbs≤274877906944) :
  Calls Tryz.prog 169 #[x,y] w (A9 w (Nat.gcd a.natAbs b.natAbs)):=by
 obtain ⟨bA,jJ,lA,jN,rfl⟩:=hx.agg;obtain ⟨bB,nu,lB,nC,rfl⟩:=hy.agg;have NA:=zh hx.nm.1;have NB:=zh hy.nm.1;obtain ⟨G,EG⟩:∃ G,Nat.gcd a.natAbs b.natAbs=G:=⟨_,rfl⟩;rw [EG];have HG:=zh EG;have KA:=zh ha;have KB:=zh hb;have h0:Below w.heap.size w (((w.alloc (.cells #[.bool bA,.slice jJ lA jN] 121)).alloc (.cells #[.bool bB,.slice nu lB nC] 121)).alloc (.cells #[.bool false,.slice none 0 0] 121)):=ah;obtain ⟨W,EW⟩:∃ y,((w.alloc (.cells #[.bool bA,.slice jJ lA jN] 121)).alloc (.cells #[.bool bB,.slice nu lB nC] 121)).alloc (.cells #[.bool false,.slice none 0 0] 121)=y:=⟨_,rfl⟩;have hx1:au W w.heap.size #[.bool bA,.slice jJ lA jN] 121:=by rw [← EW];exact aT
 have hx2:au W (w.heap.size+1) #[.bool bB,.slice nu lB nC] 121:=by rw [← EW];exact aT
 have hx3:au W (w.heap.size+1+1) #[.bool false,.slice none 0 0] 121:=by rw [← EW];exact au.at2 _ _ _ _ _
 rw [EW] at h0;have c1:=hx1.cell;have c2:=hx2.cell;have l1:=hx1.lt;have l2:=hx2.lt;have HX3:=zh hx3;clear EG hx hy ha hb hx1 hx2 hx3;go_enter Tryz.func169,Tryz.ntmps169
 go_wp2_with fail
 go_quiet (fail)
 clear EW c1 c2 l1 l2;have hq:Below W.heap.size W (W.drewN nq):=below_drewN (Below.refl _ _) _;obtain ⟨W1,E1⟩:∃ y,W.drewN nq=y:=⟨_,rfl⟩;rw [E1] at hq ⊢;clear E1;replace HX3:=zh (HX3.out.later hq);have h1:=Bt h0 hq;have HA1:=zh (NA.out.later h1);have HB1:=zh (NB.out.later h1);clear hq h0 NA NB;go_wp2_with fail
 go_loopw [5,6,7,8] (fun xv yv _ _ wr=>∃ p q:Nat,Hid (Nm wr xv p)∧Hid (Nm wr yv q)∧Hid (Nat.gcd p q=G)∧Hid (sz 10000 p≤274877906944)∧Hid (sz 10000 q≤274877906944)∧Hid (Below W1.heap.size W1 wr)) (fun _ yv _ _ wr=>Zj wr yv)
 case atStart=>exact ⟨_,_,HA1,HB1,HG,KA,KB,zh (Below.refl _ _)⟩
 case round =>
  clear HA1 HB1;obtain ⟨p,q,HP,HQ,HPG,KP,KQ,HB⟩:=hrel;obtain ⟨pp,lp,cp,rfl⟩:=HP.out.slice;obtain ⟨pq,lq,cq,rfl⟩:=HQ.out.slice
  rcases Nat.eq_zero_or_pos q with h0|h0
  ·subst h0;have hl:=HQ.out.Zq rfl;subst hl;have hpg:Hid (p=G):=zh (by have:=HPG.out;rwa [Nat.gcd_zero_right] at this);have hres:=HX3.out.later HB.out;have cr:=hres.cell;have fr:=hres.free;go_wp2_with fail
   refine dG rfl rfl aT Tryz.underlying121 rfl zk ?_;have hlt:=HX3.out.lt;have hB2:Below w.heap.size w wr:=Bt h1 HB.out;refine ⟨_,rfl,ah,Pl.mk (n:=p) ((HP.out.setOther hres zd 0 _).setOther (hres.set 0 _) zd 1 _) (by rw [hpg.out];rfl) ?_⟩;simp
  ·have hl:=HQ.out.Zp h0;have HPT:=zh (zm _ _ p q wr HP.out HQ.out h0 KP.out KQ.out);have H0:=zh h0;clear h0;go_wp2_with fail
   refine HPT.out.mono ?_;rintro e w2 ⟨qv,rv,rfl,hb2,hq2,hr2⟩;obtain ⟨p3,l3,c3,rfl⟩:=hq2.slice;obtain ⟨p4,l4,c4,rfl⟩:=hr2.slice;have HR2:=zh hr2;have HQ2:=zh (HQ.out.later hb2);have HB2:=zh (Bt HB.out hb2);clear hr2 hq2 hb2 HPT;go_wp2_with fail
   go_roundw
   case rel =>
    refine ⟨q,p%q,HQ2,HR2,zh ?_,KQ,zh ?_,HB2⟩
    ·rw [Nat.gcd_comm,← Nat.gcd_rec,Nat.gcd_comm];exact HPG.out
    ·exact Nat.le_trans (dM zo (Nat.mod_le _ _)) KP.out
   case measure =>
    rw [Lp HR2.out,Lp HQ.out];exact Nat.mod_lt _ H0.out
end Go.Proofs.aC
namespace Go.Proofs.aC
open Go Go.RowKit Go.SW Go.Num Go.Mem Go.Proofs
theorem U4 {a b:Int} (hb:0<b) (h:0≤a∨b ∣ a):gB (a.natAbs / b.natAbs) (decide (a<0))=a / b∧gB (a.natAbs%b.natAbs) (decide (a<0))=a%b∧0≤a%b:=by
 have hm:=Int.emod_nonneg a (show b≠0 by omega)
 rcases h with h|h
 ·have h1:¬ a<0:=by omega
  unfold gB;simp only [h1,decide_false,Bool.false_eq_true,if_false];obtain ⟨x,rfl⟩:=Int.eq_ofNat_of_zero_le h;obtain ⟨y,rfl⟩:=Int.eq_ofNat_of_zero_le (Int.le_of_lt hb);simp only [Int.natAbs_natCast];exact ⟨by rw [Int.natCast_ediv],by rw [Int.natCast_emod],hm⟩
 ·have e1:a%b=0:=Int.emod_eq_zero_of_dvd h;have e2:a.natAbs%b.natAbs=0:=Nat.mod_eq_zero_of_dvd (Int.natAbs_dvd_natAbs.2 h);refine ⟨?_,by rw [e1,e2];unfold gB;simp,hm⟩;obtain ⟨c,rfl⟩:=h;have h2:=yY (z:=b*c) (y:=b) ⟨c,rfl⟩;have h3:¬ b<0:=by omega
  simpa [h3] using h2
def tQ (w:World) (q r:Int) (e:Ending) (w':World):Prop:=∃ x y,e= .returned (.tuple #[x,y])∧Below w.heap.size w w'∧Pl w' x q∧Pl w' y r
theorem qW (x y:Value) (a b:Int) (w:World) (hx:Pl w x a) (hy:Pl w y b) (ha:sz 10000 a.natAbs≤274877906944) (hb:sz 10000 b.natAbs≤274877906944) (hb0:0<b) (hd:0≤a∨b ∣ a) :
  Calls Tryz.prog 185 #[x,y] w (tQ w (a / b) (a%b)):=by
 obtain ⟨bA,jJ,lA,jN,rfl⟩:=hx.agg;obtain ⟨bB,nu,lB,nC,rfl⟩:=hy.agg;obtain ⟨nA,eA⟩:=hx.nm;obtain ⟨nB,eB⟩:=hy.nm;have hbf:bB=false:=by rw [eB];simp;omega
 subst hbf;obtain ⟨s1,s2,s3⟩:=U4 hb0 hd;rw [← eA] at s1 s2;have pY:=zh nA;have vL:=zh nB;have KA:=zh ha;have KB:=zh hb;have H0:Hid (0<b.natAbs):=zh zo;have Yf:=zh s1;have HS2:=zh s2;have HS3:=zh s3;clear hx hy ha hb hb0 hd nA nB eA eB s1 s2 s3;go_enter Tryz.func185,Tryz.ntmps185
 go_wp2_with fail
 obtain ⟨fI,EW,hz,X1,X2,X3,X4⟩:=al4 w #[.bool bA,.slice jJ lA jN] 121 #[.bool false,.slice nu lB nC] 121 #[.bool false,.slice none 0 0] 121 #[.bool false,.slice none 0 0] 121;rw [EW];replace pY:=zh (pY.out.later hz);have hk2:=Bt (Below.refl _ _) hz;clear EW hz;refine (zm _ _ _ _ _ pY.out (vL.out.later hk2) H0.out KA.out KB.out).mono ?_;rintro e kV ⟨q,r,rfl,hb3,hq,hr⟩;obtain ⟨paQ,lQ,caQ,rfl⟩:=hq.slice;obtain ⟨Va,lR,Wv,rfl⟩:=hr.slice;replace pY:=zh (pY.out.later hb3);replace X1:=X1.bl hb3;replace X2:=X2.bl hb3;replace X3:=X3.bl hb3;replace X4:=X4.bl hb3;have hk5:=Bt hk2 hb3;clear hk2;have NQ:=zh hq;have NR:=zh hr;clear hb3 hq hr;have HL4:=zh X4.out.lt;go_wp2_with fail
 obtain ⟨jd,iY,iZ⟩:=X1.clf;obtain ⟨nH,nD,nG⟩:=X2.clf;refine aD [(.pure,0),(.read,1),(.pure,2),(.read,3),(.pure,4),(.pure,5),(.pure,7),(.read,8),(.pure,9),(.ext,6),(.ext,10),(.alloc #[.bool false,.slice none 0 0] 121,11),(.alloc #[.bool false,.slice none 0 0] 121,12),(.fin,13),(.fin,14)] zk zk zR zP ?_;refine zV ?_;refine aG rfl rfl (fun sO hb6 J hJ=>?_);go_simp;have jK:Below kV.heap.size kV sO:=ah;clear hb6;refine (pE _ _ _ _ _ (NQ.out.later jK) Yf.out).mono ?_;rintro e kM ⟨v,rfl,gM,kP⟩;obtain ⟨bU,Gz,lU,Ip,rfl⟩:=kP.agg;refine hJ _ _ gM ?_;clear hJ J;have qN:=Bt jK gM;have NU:=zh kP;clear jK gM kP;refine zV ?_;refine aG rfl rfl (fun uf nU J hJ=>?_);go_simp;have jg:Below kV.heap.size kV uf:=Bt qN ah;replace NU:=zh (NU.out.later (show Below kM.heap.size kM uf from ah));clear nU qN
 refine (pE _ _ _ _ _ (NR.out.later jg) HS2.out).mono ?_;rintro e fV ⟨v,rfl,eO,hv⟩;obtain ⟨bV,Gy,lV,Io,rfl⟩:=hv.agg;have hbv:bV=false:=hv.nm.2.trans (decide_eq_false (by have:=HS3.out;omega));subst hbv;refine hJ _ _ eO ?_;clear hJ J;have jS:=Bt jg eO;replace NU:=zh (NU.out.later eO);have NV:=zh hv;clear jg eO hv;refine zV ?_;refine aX rfl (fun gW aj0 G8 jG uP Al iy=>?_);go_simp;replace iy:au _ _ _ _:=iy;have Ai:w.heap.size≤gW:=(by first|omega|exact Nat.le_trans (Below.size (B:=w.heap.size) ah) jG);refine aX rfl (fun jL aw1 G7 oo D5 Ak pF=>?_);go_simp;replace pF:au _ _ _ _:=pF;have J4:w.heap.size≤jL:=(by first|omega|exact Nat.le_trans (Below.size (B:=w.heap.size) ah) oo);replace iy:=au.later iy G7;have hne:gW≠jL:=fun h=>Ak (by simp [h])
 have hne2:jL≠gW:=fun h=>hne h.symm;refine aL [_,_] rfl (fun UH ZP=>?_);replace NU:=zh (NU.out.later (show Below fV.heap.size fV UH from ah));replace NV:=zh (NV.out.later (show Below fV.heap.size fV UH from ah));have Oc:Below kV.heap.size kV UH:=Bt jS ah;have hq0:=iy.later ZP;have SK:=hq0.cell;have Sd:=hq0.free;have hq1:=pF.later ZP;have Wq:=hq1.cell;have V5:=hq1.free;clear iy pF ZP jS;clear jd iY iZ nH nD nG;go_wp2_with fail
 obtain ⟨UC,EW⟩:∃ y,((((UH.setCell ⟨gW,0,none⟩ (.bool bU)).setCell ⟨gW,1,none⟩ (.slice Gz lU Ip)).setCell ⟨jL,0,none⟩ (.bool false)).setCell ⟨jL,1,none⟩ (.slice Gy lV Io))=y:=⟨_,rfl⟩;have hz:Below kV.heap.size kV UC:=by rw [← EW];exact ((((Oc.setCell jG _).setCell jG _).setCell oo _).setCell oo _)
 have X5:Hid (au UC gW #[.bool bU,.slice Gz lU Ip] 121):=zh (by rw [← EW];exact ((((hq0.set 0 _).set 1 _).setOther _ (by first|exact hne|exact hne2)).setOther _ (by first|exact hne|exact hne2)));have X6:Hid (au UC jL #[.bool false,.slice Gy lV Io] 121):=zh (by rw [← EW];exact ((((hq1.setOther _ (by first|exact hne|exact hne2)).setOther _ (by first|exact hne|exact hne2)).set 0 _).set 1 _));have t:=((((NU.out.setOther hq0 zd 0 (.bool bU)).setOther (hq0.set 0 _) zd 1 (.slice Gz lU Ip)).setOther ((hq1.setOther _ (by first|exact hne|exact hne2)).setOther _ (by first|exact hne|exact hne2)) zd 0 (.bool false)).setOther (((hq1.setOther _ (by first|exact hne|exact hne2)).setOther _ (by first|exact hne|exact hne2)).set 0 _) zd 1 (.slice Gy lV Io));rw [EW] at t;replace NU:=zh t;clear t
 have t:=((((NV.out.setOther hq0 zd 0 (.bool bU)).setOther (hq0.set 0 _) zd 1 (.slice Gz lU Ip)).setOther ((hq1.setOther _ (by first|exact hne|exact hne2)).setOther _ (by first|exact hne|exact hne2)) zd 0 (.bool false)).setOther (((hq1.setOther _ (by first|exact hne|exact hne2)).setOther _ (by first|exact hne|exact hne2)).set 0 _) zd 1 (.slice Gy lV Io));rw [EW] at t;replace NV:=zh t;clear t;rw [EW];clear EW hq0 SK Sd hq1 Wq V5 Oc;clear pY;replace X1:=X1.bl hz;replace X2:=X2.bl hz;replace X3:=X3.bl hz;replace X4:=X4.bl hz;replace NQ:=zh (NQ.out.later hz);replace NR:=zh (NR.out.later hz);have ZM:=Bt hk5 hz;clear hk5;clear hz;clear G8 Al Ak Ai J4 G7;have ZL:=jG;have ZK:=oo;clear jG oo uP D5;have c5:=X5.out.cell;have c6:=X6.out.cell;have c3:=X3.out.cell;have c4:=X4.out.cell;have f3:=X3.out.free;have f4:=X4.out.free
 have hl4:=HL4.out;have n1:jL≠w.heap.size+1+1:=by omega
 have n2:jL≠w.heap.size+1+1+1:=by omega
 have n3:gW≠w.heap.size+1+1:=by omega
 have n4:gW≠w.heap.size+1+1+1:=by omega
 have h3:=X3.out;have h4:=X4.out;clear X1 X2 X5 X6 NQ NR Yf HS2 HS3 H0 KA KB vL hne hne2 hl4 HL4 ZL ZK;go_region
 go_wp2_with fail
 have h4b:=(h4.setOther (a:=⟨w.heap.size+1+1,0,none⟩) (.bool bU) zi).setOther (a:=⟨w.heap.size+1+1,1,none⟩) (.slice Gz lU Ip) zi;have h3b:=(((h3.set 0 (.bool bU)).set 1 (.slice Gz lU Ip)).setOther (a:=⟨w.heap.size+1+1+1,0,none⟩) (.bool false) zi).setOther (a:=⟨w.heap.size+1+1+1,1,none⟩) (.slice Gy lV Io) zi;have hU:=(NU.out.set2 h3 zd 0 1 (.bool bU) (.slice Gz lU Ip)).set2 h4b zd 0 1 (.bool false) (.slice Gy lV Io);have hV:=(NV.out.set2 h3 zd 0 1 (.bool bU) (.slice Gz lU Ip)).set2 h4b zd 0 1 (.bool false) (.slice Gy lV Io);refine Qh rfl rfl (au.drew h3b) Tryz.underlying121 rfl zk rfl (au.drew ((h4b.set 0 (.bool false)).set 1 (.slice Gy lV Io))) Tryz.underlying121 rfl zk ?_;exact ⟨_,_,rfl,ah,hU.later (Below.drew (Below.refl _ _)),hV.later (Below.drew (Below.refl _ _))⟩
end Go.Proofs.aC
namespace Go.Proofs.aC
open Go Go.RowKit Go.SW Go.Num Go.Mem Go.Proofs Go.Dec
theorem V6 (d:Nat) (hd:d<10000) (w:World) :
  Calls Tryz.prog 218 #[.int .i64 (d:Int)] w fun e w'=>e= .returned (.string ⟨(pad 4 d).toArray⟩)∧Below w.heap.size w w':=by
 have hp:pad 4 d=[UInt8.ofNat (48+d / 1000),UInt8.ofNat (48+d / 100%10),UInt8.ofNat (48+d / 10%10),UInt8.ofNat (48+d%10)]:=by
  simp only [pad,List.nil_append,List.cons_append];rw [show d / 10 / 10 / 10%10=d / 1000 by omega,show d / 10 / 10%10=d / 100%10 by omega]
 have hb:∀ x:Nat,x<10→((UInt8.ofNat (48+x)).toNat:Int)=48+(x:Int):=fun x hx=>by
  rw [j6 hx];omega
 have e1:=hb (d / 1000) zo;have e2:=hb (d / 100%10) zo;have e3:=hb (d / 10%10) zo;have e4:=hb (d%10) zo
 have hcv:(convert 172 9 (.slice (some ⟨w.heap.size,0,none⟩) 4 4)).run Tryz.prog (w.alloc (.cells #[.int .u8 (48+(d:Int) / 1000),.int .u8 (48+(d:Int) / 100%10),.int .u8 (48+(d:Int) / 10%10),.int .u8 (48+(d:Int)%10)] 5))
   = .ok (.string ⟨(pad 4 d).toArray⟩) (w.alloc (.cells #[.int .u8 (48+(d:Int) / 1000),.int .u8 (48+(d:Int) / 100%10),.int .u8 (48+(d:Int) / 10%10),.int .u8 (48+(d:Int)%10)] 5)):=by
  have hx:=au.new w #[.int .u8 (48+(d:Int) / 1000),.int .u8 (48+(d:Int) / 100%10),.int .u8 (48+(d:Int) / 10%10),.int .u8 (48+(d:Int)%10)] 5;have hl:=mU 4 d
  have:=run_convert_bytes_back (P:=Tryz.prog) (w.alloc (.cells #[.int .u8 (48+(d:Int) / 1000),.int .u8 (48+(d:Int) / 100%10),.int .u8 (48+(d:Int) / 10%10),.int .u8 (48+(d:Int)%10)] 5)) 172 9 5 ⟨w.heap.size,0,none⟩ 4 (pad 4 d) Tryz.underlying172 Tryz.underlying5 Tryz.underlying9 (fun j hj=>by
   rw [Addr.add_lit,hx.cell,Nat.zero_add];rw [hl] at hj
   match j,hj with
   | 0,_=>simp only [hp,List.getElem_cons_zero,e1];rfl
   | 1,_=>simp only [hp,List.getElem_cons_zero,List.getElem_cons_succ,e2];rfl
   | 2,_=>simp only [hp,List.getElem_cons_zero,List.getElem_cons_succ,e3];rfl
   | 3,_=>simp only [hp,List.getElem_cons_zero,List.getElem_cons_succ,e4];rfl)
  rwa [hl] at this
 obtain ⟨B,EB⟩:∃ B:ByteArray,Hid ((⟨(pad 4 d).toArray⟩:ByteArray)=B):=⟨_,zh rfl⟩;rw [EB.out] at hcv ⊢;clear e1 e2 e3 e4 hb hp EB;go_enter Tryz.func218,Tryz.ntmps218
 go_wp2
 go_ret
 exact ⟨rfl,ah⟩
def txt:List Nat→List UInt8
 | []=>[]
 | d::l=>txt l++pad 4 d
theorem PS {l:List Nat} {i:Nat} (h:i<l.length):txt (l.drop i)=txt (l.drop (i+1))++pad 4 (l.getD i 0):=by
 rw [gJ h];rfl
theorem Dh:∀ {l:List Nat},dz 10000 l→Top l→l≠[]→∃ m,txt l=List.replicate m 48++Lib.decDigits (val 10000 l)
 | [],_,_,h=>absurd rfl h
 | d::l,hd,ht,_=>by
  by_cases hl:l=[]
  ·subst hl;refine ⟨4 - (Lib.decDigits d).length,?_⟩;have h1:=uW 4 d zo (by have:=hd.head;omega)
   show []++pad 4 d=_
   rw [← h1];simp [val]
  ·obtain ⟨m,hm⟩:=Dh hd.tail ht.tail hl;refine ⟨m,?_⟩;have hp:=fD (B:=10000) zo ht.tail hl
   show txt l++pad 4 d=_
   rw [hm,List.append_assoc,← Eo 4 _ d hp (by have:=hd.head;omega)];simp only [val];rw [show val 10000 l*10^4+d=d+10000*val 10000 l by omega]
theorem K7 (l:List Nat):(txt l).length=4*l.length:=by
 induction l with
 | nil=>rfl
 | cons d l ih=>show (txt l++pad 4 d).length=_;rw [List.length_append,ih,mU,List.length_cons];omega
theorem Nc {l:List Nat} {k:Nat} (hd:dz 10000 l) (ht:Top l) (h:∀ i,i<k→(txt l)[i]? =some 48) (hk:k<(txt l).length) (hne:(txt l)[k]? ≠some 48):(txt l).drop k=Lib.decDigits (val 10000 l):=by
 have hl:l≠[]:=fun e=>by subst e;cases hk
 have hp:=fD (B:=10000) zo ht hl;obtain ⟨m,hm⟩:=Dh hd ht hl
 have hkm:k=m:=by
  rcases Nat.lt_trichotomy k m with h1|h1|h1
  ·exfalso
   rw [hm,List.getElem?_append_left (by simpa using h1)] at hne;simp [h1] at hne
  ·exact h1
  ·exfalso
   have h2:=h m h1;rw [hm,List.getElem?_append_right zi] at h2;simp only [List.length_replicate,Nat.sub_self] at h2;have:=uV (n:=val 10000 l) (by rw [List.head?_eq_getElem?];exact h2);omega
 subst hkm;rw [hm,List.drop_append_of_le_length zi,List.drop_of_length_le zi,List.nil_append]
theorem Nf {l:List Nat} (hd:dz 10000 l) (ht:Top l) (h:∀ i,i<(txt l).length→(txt l)[i]? =some 48):val 10000 l=0:=by
 by_cases hl:l=[]
 ·subst hl;rfl
 ·exfalso
  have hp:=fD (B:=10000) zo ht hl;obtain ⟨m,hm⟩:=Dh hd ht hl;have h2:=h m (by rw [hm,List.length_append,List.length_replicate];have:=xD (val 10000 l);omega);rw [hm,List.getElem?_append_right zi] at h2;simp only [List.length_replicate,Nat.sub_self] at h2;have:=uV (n:=val 10000 l) (by rw [List.head?_eq_getElem?];exact h2);omega
theorem ba_eq {a b:ByteArray} (h:a.data.toList=b.data.toList):a=b:=by
 cases a;cases b
 simp only at h;rw [Array.toList_inj.1 h]
theorem uK (z:Int):Lib.itoa z=if z<0 then 45::Lib.decDigits z.natAbs else Lib.decDigits z.natAbs:=by
 unfold Lib.itoa
 by_cases h:z<0
 ·rw [if_pos h,if_pos h]
 ·rw [if_neg h,if_neg h,show z.toNat=z.natAbs by omega]
theorem pG (S:ByteArray) (k:Nat):(S.extract k S.size).data.toList=S.data.toList.drop k:=by
 have h:S.size=S.data.toList.length:=rfl;rw [ByteArray.data_extract,Array.toList_extract];unfold List.extract;rw [List.take_of_length_le (by rw [List.length_drop,h];exact Nat.le_refl _)]
theorem Mq (x:Value) (z:Int) (w:World) (hx:Pl w x z) (hs:sz 10000 z.natAbs≤1073741824) :
  Calls Tryz.prog 168 #[x] w (fun e w'=>e= .returned (.string ⟨(Lib.itoa z).toArray⟩)∧Below w.heap.size w w'):=by
 obtain ⟨bA,jJ,lA,jN,rfl⟩:=hx.agg;obtain ⟨hn,hbz⟩:=hx.nm;obtain ⟨l,El⟩:∃ l,bg 10000 z.natAbs=l:=⟨_,rfl⟩;obtain ⟨pa',Po,e,k1,k2,k3⟩:=hn.read;simp only [Value.slice.injEq] at e;obtain ⟨rfl,rfl,rfl⟩:=e;rw [El] at k3;have hl:l.length=sz 10000 z.natAbs:=by rw [← El];rfl
 have hdl:dz 10000 l:=by rw [← El];exact aR zo _
 have htl:Top l:=by rw [← El];exact kC zo _
 have hvl:val 10000 l=z.natAbs:=by rw [← El];exact aM zo _
 obtain ⟨L,EL⟩:∃ L,sz 10000 z.natAbs=L:=⟨_,rfl⟩;rw [EL] at hl hs k1 k3 ⊢;have h0:Below w.heap.size w (w.alloc (.cells #[.bool bA,.slice jJ L jN] 121)):=ah;have hbx:=au.new w #[.bool bA,.slice jJ L jN] 121;obtain ⟨W,EW⟩:∃ y,w.alloc (.cells #[.bool bA,.slice jJ L jN] 121)=y:=⟨_,rfl⟩;rw [EW] at h0 hbx
 have k4:∀ k,k<L→∃ b off,jJ=some ⟨b,off,none⟩∧b<W.heap.size∧W.cell? ⟨b,off+k,none⟩=some (.int .i64 (l.getD k 0:Nat)):=fun k hk=>by
  obtain ⟨b,off,e,h1,h2⟩:=k3 k hk;exact ⟨b,off,e,Nat.lt_of_lt_of_le h1 h0.size,(h0.cell (by exact h1)).trans h2⟩
 have K4:=zh k4;have HX:=zh hbx;have HL:=zh hl;have Bc:=zh hdl;have HTL:=zh htl;have Ye:=zh hvl;have Xj:=zh hbz;have c0:=hbx.cell;clear k3 k4 hbx hl hdl htl hvl hbz hn hx EL El;go_enter Tryz.func168,Tryz.ntmps168
 go_wp2_with fail
 clear EW c0
 go_loopw [3,4] (fun sv iv wr=>∃ (q:Int) (S:ByteArray), -1≤q∧q<L∧iv= .int .i64 q∧sv= .string S∧Hid (S.data.toList=txt (l.drop (q+1).toNat))∧Hid (Below W.heap.size W wr)) (fun _ iv _=>(intOf iv+1).toNat)
 case atStart =>
  have e:((L:Int) - 1+1).toNat=l.length:=by have:=HL.out;omega
  exact ⟨(L:Int) - 1,⟨#[]⟩,by omega,by omega,rfl,rfl,zh (by rw [e,List.drop_length];rfl),zh (Below.refl _ _)⟩
 case round =>
  obtain ⟨q,S,hq1,hq2,rfl,rfl,HS,HB⟩:=hrel;have hbx:=HX.out.later HB.out;have c0:=hbx.cell
  by_cases hq:q<0
  ·have hq0:q= -1:=by omega
   subst hq0;have hS:S.data.toList=txt l:=by have:=HS.out;simpa using this
   have HS2:=zh hS;clear hS HS
   have hsz:S.size=4*L:=by
    have h1:S.size=S.data.toList.length:=rfl;rw [h1,HS2.out,K7,HL.out]
   go_wp2_with fail
   go_loop [5] (fun kv=>∃ k:Nat,k≤S.size∧kv= .int .i64 k∧Hid (∀ i,i<k→S.data.toList[i]? =some 48)) (fun kv=>S.size - (intOf kv).toNat)
   case atStart=>exact ⟨0,Nat.zero_le _,rfl,zh fun i hi=>by cases hi⟩
   case round =>
    obtain ⟨k,hk,rfl,HK⟩:=hrel
    by_cases hks:k<S.size
    ·have hg:(txt l)[k]? =some S[k]:=by
      rw [← HS2.out];exact List.getElem?_eq_getElem (by exact hks)
     by_cases h48:S[k]=48
     ·have e:((S[k].toNat:Int) == 48)=true:=by rw [h48];rfl
      have HK1:Hid (∀ i,i<k+1→S.data.toList[i]? =some 48):=zh fun i hi=>by
       by_cases hik:i<k
       ·exact HK.out i hik
       ·obtain rfl:i=k:=by omega
        rw [HS2.out,hg,h48]
      clear hg h48;go_wp2_with fail
      go_round
      case rel=>exact ⟨k+1,by omega,by go_num,HK1⟩
      case measure=>exact zM
     ·have e:((S[k].toNat:Int) == 48)=false:=by
       rw [beq_eq_false_iff_ne];intro h;have az6:S[k].toNat=48:=by omega
       exact h48 (UInt8.toNat_inj.1 (by rw [az6];rfl))
      have hdrop:=Nc Bc.out HTL.out (fun i hi=>by rw [← HS2.out];exact HK.out i hi) (by rw [← HS2.out];exact hks) (by rw [hg];intro h;exact h48 (Option.some.inj h))
      have hT:(S.extract k (4*L)).data.toList=Lib.decDigits z.natAbs:=by
       rw [← hsz,pG,HS2.out,hdrop,Ye.out]
      have hE:(S.extract k (4*L)).toList.isEmpty=false:=by
       rw [ByteArray.toList_eq,hT];have:=xD z.natAbs;cases h:Lib.decDigits z.natAbs with
       | nil=>rw [h] at this;cases this
       | cons a b=>rfl
      have HT:=zh hT;clear hdrop hT hg h48 HK;cases bA
      ·have hz:¬ z<0:=by have:=Xj.out;intro h;rw [decide_eq_true h] at this;cases this
       have eS:S.extract k (4*L)=⟨(Lib.itoa z).toArray⟩:=ba_eq (by rw [HT.out,uK,if_neg hz]);have ES:=zh eS;clear eS hz;go_wp2_with fail
       go_ret
       exact ⟨congrArg (fun s=>Ending.returned (.string s)) ES.out,Bt h0 HB.out⟩
      ·have hz:z<0:=of_decide_eq_true Xj.out.symm
       have eS:(⟨#[45]⟩:ByteArray)++S.extract k (4*L)=⟨(Lib.itoa z).toArray⟩:=ba_eq (by
        rw [uK,if_pos hz,ByteArray.data_append,Array.toList_append,HT.out];rfl)
       have ES:=zh eS
       have hsm:¬ 9223372036854775807<1+(S.extract k (4*L)).size:=by
        have h1:(S.extract k (4*L)).size=(S.extract k (4*L)).data.toList.length:=rfl;have h2:=HT.out;rw [← hsz,pG] at h2
        have h3:(S.extract k (4*L)).data.toList.length≤S.data.toList.length:=by
         rw [← hsz,pG,List.length_drop];omega
        have h4:S.data.toList.length=S.size:=rfl;omega
       clear eS hz;go_wp2_with fail
       go_ret
       exact ⟨congrArg (fun s=>Ending.returned (.string s)) ES.out,Bt h0 HB.out⟩
    ·have hke:k=S.size:=by omega
     subst hke
     have hz0:z.natAbs=0:=by
      rw [← Ye.out]
      exact Nf Bc.out HTL.out fun i hi=>by
       rw [← HS2.out] at hi ⊢;exact HK.out i hi
     have hz:z=0:=by omega
     have EZ:Hid ((⟨#[48]⟩:ByteArray)=⟨(Lib.itoa z).toArray⟩):=zh (by rw [hz];exact ba_eq (by rw [uK];simp [fA]));clear hz hz0 HK;go_wp2_with fail
     go_ret
     exact ⟨congrArg (fun s=>Ending.returned (.string s)) EZ.out,Bt h0 HB.out⟩
  ·obtain ⟨j,rfl⟩:=Int.eq_ofNat_of_zero_le (by omega:0≤q);have ej:((j:Int)+1).toNat=j+1:=by omega
   rw [ej] at HS;obtain ⟨b,off,rfl,hb1,hc1⟩:=K4.out j zo;have hcj:wr.cell? ⟨b,off+j,none⟩=some (.int .i64 (l.getD j 0:Nat)):=(HB.out.cell (by exact hb1)).trans hc1;have hdj:=Bc.out.getD zo j;have HST:Hid (txt (l.drop j)=S.data.toList++pad 4 (l.getD j 0)):=zh (by rw [HS.out];exact PS (by rw [HL.out];omega));have HSL:Hid (S.data.toList.length=4*(L - (j+1))):=zh (by rw [HS.out,K7,List.length_drop,HL.out]);clear HS hc1;generalize l.getD j 0=d at *;have HF:=zh (V6 d hdj)
   have hsum:¬ 9223372036854775807<S.size+(pad 4 d).length:=by
    have h1:S.size=S.data.toList.length:=rfl;rw [mU,h1,HSL.out];omega
   go_wp2_with fail
   refine (HF.out _).mono ?_;rintro e w1 ⟨rfl,hb⟩;have HB1:=zh (Bt HB.out hb);clear hb hbx c0 hcj;go_wp2_with fail
   go_roundw
   case rel =>
    have e1:((j:Int) - 1+1).toNat=j:=by omega
    exact ⟨(j:Int) - 1,S++⟨(pad 4 d).toArray⟩,by omega,by omega,rfl,rfl,zh (by rw [e1,HST.out];simp),HB1⟩
   case measure=>simp [intOf]
theorem J8 (n:Nat):(Lib.decDigits n).length≤4*sz 10000 n+1:=by
 refine iM _ _ zo ?_;have h1:=fO (B:=10000) zo n;have h2:(10:Nat)^(4*sz 10000 n)=10000^sz 10000 n:=by rw [Nat.pow_mul]
 rw [Nat.pow_succ,h2];omega
def Qx (z:Int):Value:=if cK.DI z.natAbs then .tuple #[mW z,.int .i64 0] else .tuple #[.string ⟨#[]⟩,.int .i64 6]
theorem qL (z:Int):(Lib.itoa z).length=(Lib.decDigits z.natAbs).length+(if z<0 then 1 else 0):=by
 rw [uK]
 by_cases h:z<0
 ·rw [if_pos h,if_pos h];rfl
 ·rw [if_neg h,if_neg h];rfl
theorem EU (x:Value) (z:Int) (w:World) (hx:Pl w x z) (hs:sz 10000 z.natAbs≤1073741824) :
  Calls Tryz.prog 134 #[x] w (fun e w'=>e= .returned (Qx z)∧Below w.heap.size w w'):=by
 obtain ⟨bA,jJ,lA,jN,rfl⟩:=hx.agg;obtain ⟨hn,hbz⟩:=hx.nm;have NA:=zh hx;have hlen:=qL z;have hok:=cK.dP (n:=z.natAbs);obtain ⟨S,ES⟩:∃ S:ByteArray,Hid (S=⟨(Lib.itoa z).toArray⟩):=⟨_,zh rfl⟩;have hsz:S.size=(Lib.itoa z).length:=by rw [ES.out];simp [ByteArray.size]
 have hsb:(Lib.decDigits z.natAbs).length≤4294967297:=by
  have:=J8 z.natAbs;omega
 have HT:=zh (fun W (hb:Below w.heap.size w W)=>Mq _ z W (hx.later hb) hs);rw [← ES.out] at HT
 have hv:Qx z=if (Lib.decDigits z.natAbs).length≤600 then .tuple #[.string S,.int .i64 0] else .tuple #[.string ⟨#[]⟩,.int .i64 6]:=by
  unfold Qx;rw [ES.out]
  by_cases h:(Lib.decDigits z.natAbs).length≤600
  ·rw [if_pos h,if_pos (hok.2 h)];rfl
  ·rw [if_neg h,if_neg (fun h'=>h (hok.1 h'))]
 rw [hv];obtain ⟨n,En⟩:∃ n,(Lib.decDigits z.natAbs).length=n:=⟨_,rfl⟩;rw [En] at hlen hsb ⊢;rw [hlen] at hsz;have h0:Below w.heap.size w (w.alloc (.cells #[.bool bA,.slice jJ lA jN] 121)):=ah;have hbx:=au.new w #[.bool bA,.slice jJ lA jN] 121;have p9:=zh hbx;have HH0:=zh h0
 by_cases hz:z<0
 ·have hbt:bA=true:=by rw [hbz,decide_eq_true hz]
  subst hbt;rw [if_pos hz] at hsz;clear hz hlen hok hn hbz hv En hs hx NA h0 hbx
  by_cases hbig:n≤600
  ·rw [if_pos hbig];have e1:¬ (600:Int)<(n:Int)+1 - 1:=by omega
   go_enter Tryz.func134,Tryz.ntmps134
   go_wp2_with fail
   refine (HT.out _ HH0.out).mono ?_;rintro e w1 ⟨rfl,hb⟩;have c0:=(p9.out.later hb).cell;go_wp2_with fail
   go_ret2
   exact ⟨rfl,Bt HH0.out hb⟩
  ·rw [if_neg hbig];have e1:(600:Int)<(n:Int)+1 - 1:=by omega
   go_enter Tryz.func134,Tryz.ntmps134
   go_wp2_with fail
   refine (HT.out _ HH0.out).mono ?_;rintro e w1 ⟨rfl,hb⟩;have c0:=(p9.out.later hb).cell;go_wp2_with fail
   go_ret2
   exact ⟨rfl,Bt HH0.out hb⟩
 ·have hbt:bA=false:=by rw [hbz,decide_eq_false hz]
  subst hbt;rw [if_neg hz,Nat.add_zero] at hsz;clear hz hlen hok hn hbz hv En hs hx NA h0 hbx
  by_cases hbig:n≤600
  ·rw [if_pos hbig];have e1:¬ (600:Int)<(n:Int):=by omega
   go_enter Tryz.func134,Tryz.ntmps134
   go_wp2_with fail
   refine (HT.out _ HH0.out).mono ?_;rintro e w1 ⟨rfl,hb⟩;have c0:=(p9.out.later hb).cell;go_wp2_with fail
   go_ret2
   exact ⟨rfl,Bt HH0.out hb⟩
  ·rw [if_neg hbig];have e1:(600:Int)<(n:Int):=by omega
   go_enter Tryz.func134,Tryz.ntmps134
   go_wp2_with fail
   refine (HT.out _ HH0.out).mono ?_;rintro e w1 ⟨rfl,hb⟩;have c0:=(p9.out.later hb).cell;go_wp2_with fail
   go_ret2
   exact ⟨rfl,Bt HH0.out hb⟩
theorem JC {d:List UInt8} {neg:Bool} (h:d.length<1∨600<d.length):dI d neg=false:=by
 unfold dI
 rcases h with h|h
 ·have:d=[]:=List.length_eq_zero_iff.1 zo;subst this;rfl
 ·have:decide (d.length≤600)=false:=by simp;omega
  simp [this]
theorem DJ {d:List UInt8} {neg:Bool} {b:UInt8} (h:b∈d) (hb:b.toNat<48∨57<b.toNat):dI d neg=false:=by
 cases hk:dI d neg with
 | false=>rfl
 | true=>have:=nQ hk b h;omega
theorem Qz {d:List UInt8} {neg:Bool} (h1:1≤d.length) (h2:d.length≤600) (h:∀ b∈d,48≤b.toNat∧b.toNat≤57):dI d neg= !(d.head? == some 48&&(neg || decide (1<d.length))):=by
 unfold dI;have e1:decide (d≠[])=true:=by simp;intro h;subst h;simp at h1
 have e2:d.all (fun b=>decide (48≤b.toNat)&&decide (b.toNat≤57))=true:=by
  rw [List.all_eq_true];intro b hb;have:=h b hb;simp [this.1,this.2]
 rw [e1,e2,decide_eq_true h2];simp
theorem Jb (bs:List UInt8):(whole bs).isSome=dI (cut bs).1 (cut bs).2:=by
 unfold whole;cases dI (cut bs).1 (cut bs).2<;>rfl
theorem kG {s:ByteArray} {i f:Nat} (hf:f≤i) (hi:i<s.size):s[i]∈s.data.toList.drop f:=by
 have h:s.data.toList[i]? =some s[i]:=List.getElem?_eq_getElem (by exact hi);rw [List.mem_iff_getElem?];exact ⟨i - f,by rw [List.getElem?_drop,show f+(i - f)=i by omega];exact h⟩
theorem gK (s:ByteArray) (w:World) (hs:s.size≤4611686018427387904) :
  Calls Tryz.prog 166 #[.string s] w (fun e w'=>e= .returned (.bool (whole s.data.toList).isSome)∧w=w'):=by
 rw [Jb];have hsz:s.data.toList.length=s.size:=rfl
 by_cases h0:s.size=0
 ·have e:s.data.toList=[]:=List.length_eq_zero_iff.1 (by rw [hsz,h0]);rw [e,JC (.inl (by unfold Dec.cut;simp))];have hs0:(s.size:Int)=0:=by omega
  clear hs hsz e;go_enter Tryz.func166,Tryz.ntmps166
  go_wp2
  go_ret
  exact ⟨rfl,rfl⟩
 ·have hs0:0<s.size:=by omega
  have hd0:s.data.toList[0]? =some s[0]:=List.getElem?_eq_getElem (by exact hs0);have hhd:s.data.toList.head? =some s[0]:=by rw [List.head?_eq_getElem?];exact hd0
  obtain ⟨d,Ed⟩:∃ d,(Dec.cut s.data.toList).1=d:=⟨_,rfl⟩;obtain ⟨ng,En⟩:∃ ng,(Dec.cut s.data.toList).2=ng:=⟨_,rfl⟩;rw [Ed,En]
  by_cases h45:s[0]=45
  ·have hC:d=s.data.toList.drop 1∧ng=true:=by
    unfold Dec.cut at Ed En;rw [if_pos (by rw [hhd,h45])] at Ed En;exact ⟨by rw [← Ed,List.drop_one],En.symm⟩
   obtain ⟨hd,VH⟩:=hC;subst VH
   have hq:((s[0].toNat:Int) == 45)=true:=by
    rw [h45];rfl
   have hdl:d.length=s.size - 1:=by rw [hd,List.length_drop,hsz]
   have HD:=zh hd;clear hd Ed En hhd hd0 h45
   by_cases hbad:s.size - 1<1∨600<s.size - 1
   ·rw [JC (by rw [hdl];exact hbad)];have hb1:(s.size:Int) - 1<1∨(600:Int)<(s.size:Int) - 1:=by omega
    clear hsz hdl
    rcases hb1 with hb1|hb1
    ·go_enter Tryz.func166,Tryz.ntmps166
     go_wp2
     all_goals (go_ret;exact ⟨rfl,rfl⟩)
    ·have hb2:¬ (s.size:Int) - 1<1:=by omega
     go_enter Tryz.func166,Tryz.ntmps166
     go_wp2
     go_ret
     exact ⟨rfl,rfl⟩
   ·have hb1:¬ (s.size:Int) - 1<1:=by omega
    have hb2:¬ (600:Int)<(s.size:Int) - 1:=by omega
    have Bc:=zh hdl;obtain ⟨R,ER⟩:∃ R,Hid (dI d true=R):=⟨_,zh rfl⟩;rw [ER.out];clear hsz hdl hbad;go_enter Tryz.func166,Tryz.ntmps166
    go_wp2
    go_loop [5] (fun iv=>∃ i:Nat,1≤i∧i≤s.size∧iv= .int .i64 i∧Hid (∀ j (h:j<s.size),1≤j→j<i→48≤s[j].toNat∧s[j].toNat≤57)) (fun iv=>s.size - (intOf iv).toNat)
    case atStart=>exact ⟨1,Nat.le_refl _,by omega,rfl,zh fun j h h1 h2=>absurd h2 zo⟩
    case round =>
     obtain ⟨i,hi1,hi2,rfl,HK⟩:=hrel
     by_cases his:i<s.size
     ·by_cases hlo:s[i].toNat<48
      ·have q1:(s[i].toNat:Int)<48:=by omega
       have HR:Hid (R=false):=zh (by rw [← ER.out];exact DJ (by rw [HD.out];exact kG hi1 his) (.inl hlo));clear hlo
       go_wp2
       go_ret
       exact ⟨by rw [HR.out];rfl,rfl⟩
      ·by_cases hhi:57<s[i].toNat
       ·have q1:¬ (s[i].toNat:Int)<48:=by omega
        have q2:(57:Int)<(s[i].toNat:Int):=by omega
        have HR:Hid (R=false):=zh (by rw [← ER.out];exact DJ (by rw [HD.out];exact kG hi1 his) (.inr hhi));clear hlo hhi
        go_wp2
        go_ret
        exact ⟨by rw [HR.out];rfl,rfl⟩
       ·have q1:¬ (s[i].toNat:Int)<48:=by omega
        have q2:¬ (57:Int)<(s[i].toNat:Int):=by omega
        have HK2:Hid (∀ j (h:j<s.size),1≤j→j<i+1→48≤s[j].toNat∧s[j].toNat≤57):=zh fun j h h1 h2=>by
         by_cases hji:j<i
         ·exact HK.out j h h1 hji
         ·obtain rfl:j=i:=by omega
          omega
        clear hlo hhi
        go_wp2
        go_round
        case rel=>exact ⟨i+1,by omega,by omega,by go_num,HK2⟩
        case measure=>exact zM
     ·have hie:i=s.size:=by omega
      subst hie;have hF:1<s.size:=by omega
      have hall:dI d true= !(d.head? == some 48&&(true || decide (1<d.length))):=Qz (by rw [Bc.out];omega) (by rw [Bc.out];omega) fun b hb=>by
       rw [HD.out] at hb;obtain ⟨j,hj,rfl⟩:=List.getElem_of_mem hb;rw [List.length_drop] at hj
       have hj2:j+1<s.size:=by
        have:s.data.toList.length=s.size:=rfl;omega
       have:=HK.out (j+1) hj2 zo zo;rw [List.getElem_drop]
       have e:s.data.toList[1+j]'(by have:s.data.toList.length=s.size:=rfl;omega)=s[j+1]:=by
        simp only [Nat.add_comm 1 j];rfl
       rw [e];exact this
      have hh:d.head? =some s[1]:=by
       rw [HD.out,List.head?_eq_getElem?, List.getElem?_drop];exact List.getElem?_eq_getElem (by exact hF)
      rw [hh,Bc.out,ER.out] at hall;clear hh HK
      by_cases h48:s[1]=48
      ·have q3:((s[1].toNat:Int) == 48)=true:=by rw [h48];rfl
       have q4:((s[1].toNat:Int) != 48)=false:=by rw [h48];rfl
       have q5:((s.size:Int) == 1)=false:=by simp;omega
       have HR:Hid (R=false):=zh (by rw [hall,h48];rfl);clear h48 hall
       go_wp2
       go_ret
       exact ⟨by rw [HR.out];rfl,rfl⟩
      ·have q3:((s[1].toNat:Int) == 48)=false:=by
        rw [beq_eq_false_iff_ne];intro h
        exact h48 (UInt8.toNat_inj.1 (by
         have:s[1].toNat=48:=by omega
         rw [this];rfl))
       have q4:((s[1].toNat:Int) != 48)=true:=by rw [bne,q3];rfl
       have q5:(some s[1] == some (48:UInt8))=false:=by
        rw [beq_eq_false_iff_ne];intro h;exact h48 (Option.some.inj h)
       have HR:Hid (R=true):=zh (by rw [hall,q5];rfl);clear h48 q5 hall
       go_wp2
       go_ret
       exact ⟨by rw [HR.out];rfl,rfl⟩
  ·have hC:d=s.data.toList.drop 0∧ng=false:=by
    unfold Dec.cut at Ed En;rw [if_neg (by rw [hhd];intro h;exact h45 (Option.some.inj h))] at Ed En;exact ⟨by rw [← Ed];rfl,En.symm⟩
   obtain ⟨hd,VH⟩:=hC;subst VH
   have hq:((s[0].toNat:Int) == 45)=false:=by
    rw [beq_eq_false_iff_ne];intro h
    exact h45 (UInt8.toNat_inj.1 (by
     have:s[0].toNat=45:=by omega
     rw [this];rfl))
   have hdl:d.length=s.size - 0:=by rw [hd,List.length_drop,hsz]
   have HD:=zh hd;clear hd Ed En hhd hd0 h45
   by_cases hbad:s.size - 0<1∨600<s.size - 0
   ·rw [JC (by rw [hdl];exact hbad)];have hb1:(s.size:Int) - 0<1∨(600:Int)<(s.size:Int) - 0:=by omega
    clear hsz hdl
    rcases hb1 with hb1|hb1
    ·go_enter Tryz.func166,Tryz.ntmps166
     go_wp2
     all_goals (go_ret;exact ⟨rfl,rfl⟩)
    ·have hb2:¬ (s.size:Int) - 0<1:=by omega
     go_enter Tryz.func166,Tryz.ntmps166
     go_wp2
     go_ret
     exact ⟨rfl,rfl⟩
   ·have hb1:¬ (s.size:Int) - 0<1:=by omega
    have hb2:¬ (600:Int)<(s.size:Int) - 0:=by omega
    have Bc:=zh hdl;obtain ⟨R,ER⟩:∃ R,Hid (dI d false=R):=⟨_,zh rfl⟩;rw [ER.out];clear hsz hdl hbad;go_enter Tryz.func166,Tryz.ntmps166
    go_wp2
    go_loop [5] (fun iv=>∃ i:Nat,0≤i∧i≤s.size∧iv= .int .i64 i∧Hid (∀ j (h:j<s.size),0≤j→j<i→48≤s[j].toNat∧s[j].toNat≤57)) (fun iv=>s.size - (intOf iv).toNat)
    case atStart=>exact ⟨0,Nat.le_refl _,by omega,rfl,zh fun j h h1 h2=>absurd h2 zo⟩
    case round =>
     obtain ⟨i,hi1,hi2,rfl,HK⟩:=hrel
     by_cases his:i<s.size
     ·by_cases hlo:s[i].toNat<48
      ·have q1:(s[i].toNat:Int)<48:=by omega
       have HR:Hid (R=false):=zh (by rw [← ER.out];exact DJ (by rw [HD.out];exact kG hi1 his) (.inl hlo));clear hlo
       go_wp2
       go_ret
       exact ⟨by rw [HR.out];rfl,rfl⟩
      ·by_cases hhi:57<s[i].toNat
       ·have q1:¬ (s[i].toNat:Int)<48:=by omega
        have q2:(57:Int)<(s[i].toNat:Int):=by omega
        have HR:Hid (R=false):=zh (by rw [← ER.out];exact DJ (by rw [HD.out];exact kG hi1 his) (.inr hhi));clear hlo hhi
        go_wp2
        go_ret
        exact ⟨by rw [HR.out];rfl,rfl⟩
       ·have q1:¬ (s[i].toNat:Int)<48:=by omega
        have q2:¬ (57:Int)<(s[i].toNat:Int):=by omega
        have HK2:Hid (∀ j (h:j<s.size),0≤j→j<i+1→48≤s[j].toNat∧s[j].toNat≤57):=zh fun j h h1 h2=>by
         by_cases hji:j<i
         ·exact HK.out j h h1 hji
         ·obtain rfl:j=i:=by omega
          omega
        clear hlo hhi
        go_wp2
        go_round
        case rel=>exact ⟨i+1,by omega,by omega,by go_num,HK2⟩
        case measure=>exact zM
     ·have hie:i=s.size:=by omega
      subst hie;have hF:0<s.size:=by omega
      have hall:dI d false= !(d.head? == some 48&&(false || decide (1<d.length))):=Qz (by rw [Bc.out];omega) (by rw [Bc.out];omega) fun b hb=>by
       rw [HD.out] at hb;obtain ⟨j,hj,rfl⟩:=List.getElem_of_mem hb;rw [List.length_drop] at hj
       have hj2:j+0<s.size:=by
        have:s.data.toList.length=s.size:=rfl;omega
       have:=HK.out (j+0) hj2 zo zo;rw [List.getElem_drop]
       have e:s.data.toList[0+j]'(by have:s.data.toList.length=s.size:=rfl;omega)=s[j+0]:=by
        simp only [Nat.add_comm 0 j];rfl
       rw [e];exact this
      have hh:d.head? =some s[0]:=by
       rw [HD.out,List.head?_eq_getElem?, List.getElem?_drop];exact List.getElem?_eq_getElem (by exact hF)
      rw [hh,Bc.out,ER.out] at hall;clear hh HK
      by_cases h48:s[0]=48
      ·have q3:((s[0].toNat:Int) == 48)=true:=by rw [h48];rfl
       have q4:((s[0].toNat:Int) != 48)=false:=by rw [h48];rfl
       by_cases h1:s.size=1
       ·have q5:((s.size:Int) == 1)=true:=by simp;omega
        have HR:Hid (R=true):=zh (by rw [hall,h48,h1];rfl);clear h48 hall
        go_wp2
        go_ret
        exact ⟨by rw [HR.out];rfl,rfl⟩
       ·have q5:((s.size:Int) == 1)=false:=by simp;omega
        have q6:decide (1<s.size - 0)=true:=by simp;omega
        have HR:Hid (R=false):=zh (by rw [hall,h48,q6];rfl);clear h48 q6 hall
        go_wp2
        go_ret
        exact ⟨by rw [HR.out];rfl,rfl⟩
      ·have q3:((s[0].toNat:Int) == 48)=false:=by
        rw [beq_eq_false_iff_ne];intro h
        exact h48 (UInt8.toNat_inj.1 (by
         have:s[0].toNat=48:=by omega
         rw [this];rfl))
       have q4:((s[0].toNat:Int) != 48)=true:=by rw [bne,q3];rfl
       have q5:(some s[0] == some (48:UInt8))=false:=by
        rw [beq_eq_false_iff_ne];intro h;exact h48 (Option.some.inj h)
       have HR:Hid (R=true):=zh (by rw [hall,q5];rfl);clear h48 q5 hall
       go_wp2
       go_ret
       exact ⟨by rw [HR.out];rfl,rfl⟩
theorem jI {bs:List UInt8} {f:Nat} (hd:nJ (bs.drop f)) {st i:Nat} (hf:f≤st) (h4:i - st≤4):num ((bs.take i).drop st)<10000:=by
 have h1:=QI ((bs.take i).drop st) (fun b hb=>by
  refine hd b ?_
  have h:b∈(bs.take i).drop f:=by
   obtain ⟨j,hj,rfl⟩:=List.getElem_of_mem hb;rw [List.getElem_drop];have:(bs.take i).drop st=((bs.take i).drop f).drop (st - f):=by rw [List.drop_drop,show f+(st - f)=st by omega]
   rw [List.mem_iff_getElem?];refine ⟨st - f+j,?_⟩;rw [List.getElem?_drop,show f+(st - f+j)=st+j by omega];exact List.getElem?_eq_getElem _
  rw [List.drop_take] at h;exact List.mem_of_mem_take h)
 have h2:(10:Nat)^((bs.take i).drop st).length≤10^4:=Nat.pow_le_pow_right zo (by rw [List.length_drop,List.length_take];omega);omega
theorem kZ {bs:List UInt8} {st i:Nat} {x:UInt8} (hst:st≤i) (hb:48≤x.toNat∧x.toNat≤57) (hx:bs[i]? =some x) :
  ((num ((bs.take i).drop st):Nat):Int)*10+((x.toNat:Int) - 48)=(num ((bs.take (i+1)).drop st):Nat):=by
 rw [qj hst hx,mV];omega
theorem Bb (s:ByteArray) (z:Int) (w:World) (hz:whole s.data.toList=some z) :
  Calls Tryz.prog 167 #[.string s] w (A9 w z):=by
 obtain ⟨i0,hi,hz0,hz1,hz2⟩:=info_parts nS;obtain ⟨bs,hbs⟩:∃ bs,s.data.toList=bs:=⟨_,rfl⟩;rw [hbs] at hz;have hn:bs.length=s.size:=by rw [← hbs];rfl
 have hok:dI (Dec.cut bs).1 (Dec.cut bs).2=true:=by
  unfold whole at hz;split at hz
  ·assumption
  ·cases hz
 have hzz:Dec.mk (num (Dec.cut bs).1) (Dec.cut bs).2=z:=by
  unfold whole at hz;rw [if_pos hok] at hz;exact Option.some.inj hz
 have hsz:s.size≤601:=by
  have h1:(Dec.cut bs).1.length≤600:=by
   unfold dI at hok;simp only [Bool.and_eq_true,decide_eq_true_eq] at hok;exact hok.1.1.2
  have h2:bs.length≤(Dec.cut bs).1.length+1:=by
   unfold Dec.cut;split
   ·simp;omega
   ·simp
  omega
 have hs0:0<s.size:=by
  rcases Nat.eq_zero_or_pos s.size with h|h
  ·have:bs=[]:=List.length_eq_zero_iff.1 zo;subst this;exact absurd hok (by simp [Dec.cut,dI])
  ·exact h
 have hhd:bs.head? =some s[0]:=by
  rw [List.head?_eq_getElem?, ← hbs];exact List.getElem?_eq_getElem (by exact hs0)
 obtain ⟨d,Ed⟩:∃ d,(Dec.cut bs).1=d:=⟨_,rfl⟩;obtain ⟨ng,En⟩:∃ ng,(Dec.cut bs).2=ng:=⟨_,rfl⟩;rw [Ed,En] at hok hzz;have HZ:Hid (gB (num d) ng=z):=zh hzz
 have hC:(d=bs.drop 1∧ng=true)∨(d=bs.drop 0∧ng=false):=by
  unfold Dec.cut at Ed En
  by_cases h:bs.head? =some 45
  ·rw [if_pos h] at Ed En;exact .inl ⟨by rw [← Ed,List.drop_one],En.symm⟩
  ·rw [if_neg h] at Ed En;exact .inr ⟨by rw [← Ed];rfl,En.symm⟩
 have h45:(ng=true→s[0]=45)∧(s[0]=45→ng=true):=by
  unfold Dec.cut at En
  constructor
  ·intro h
   by_cases h':bs.head? =some 45
   ·rw [hhd] at h';exact Option.some.inj h'
   ·rw [if_neg h'] at En;rw [← En] at h;cases h
  ·intro h;rw [if_pos (by rw [hhd,h])] at En;exact En.symm
 have h0:Below w.heap.size w (w.alloc (.cells #[.bool false,.slice none 0 0] 121)):=ah;have hx:=au.new w #[.bool false,.slice none 0 0] 121;have Bj:=zh hbs;have HN:=zh hn;clear hz hzz hhd Ed En hbs hn
 rcases hC with hC|hC
 ·obtain ⟨hd,VH⟩:=hC;subst VH;have HD:=zh hd;have hds:nJ (bs.drop 1):=by rw [← hd];exact nQ hok
  have hle:1<s.size:=by
   have h1:d≠[]:=fun e=>by rw [e] at hok;exact absurd hok (by simp [dI])
   have h2:0<d.length:=List.length_pos_iff.2 h1;rw [hd,List.length_drop,HN.out] at h2;omega
  have hq:((s[0].toNat:Int) == 45)=true:=by
   have:s[0]=45:=by have:=h45.1 rfl;exact this
   rw [this];rfl
  have wR:=zh hds;clear hd hds hok h45;go_enter Tryz.func167,Tryz.ntmps167
  go_wp2_with fail
  go_loopw [4,5,6,7] (fun dv ev _ _ wr=>∃ (q:Int) (ls:List Nat),ev= .int .i64 q∧ -4≤q∧q≤s.size∧Hid ((1:Int)<q→(s.size:Int) - q=4*ls.length)∧Hid (ls.length≤s.size)∧Hid (dz 10000 ls)∧Hid (val 10000 ls=num (bs.drop (max q 1).toNat))∧wr.ownsRow (w.heap.size+1) 3 1 dv ls.length (ints ls) ∧
    Below (w.heap.size+1) (w.alloc (.cells #[.bool false,.slice none 0 0] 121)) wr) (fun _ ev _ _ _=>(intOf ev+4).toNat)
  case atStart=>exact ⟨s.size,[],rfl,by omega,by omega,zh (by intro h;simp),zh zi,zh dz.nil,zh (by rw [show (max (s.size:Int) 1).toNat=bs.length by rw [HN.out];omega,List.drop_length];simp [val,num]),World.ownsRow_nil _ _ _ _,Below.refl _ _⟩
  case round =>
   obtain ⟨q,ls,rfl,hq4,hqs,HE,HLL,Bc,HV,hown,hb⟩:=hrel
   by_cases hqf:q≤1
   ·have hv:val 10000 ls=num (bs.drop 1):=by rw [HV.out,show (max q 1).toNat=1 by omega]
    have hz:gB (val 10000 ls) true=z:=by rw [hv,← HD.out];exact HZ.out
    have h1:Below w.heap.size w wr:=⟨hb.os,hb.tape,hb.output,Nat.le_trans zi hb.size,fun i hi=>(hb.block i zo).trans (h0.block i hi)⟩;have LK:=hx.later (w':=wr) ⟨hb.os,hb.tape,hb.output,by have:=hb.size;simpa using this,fun i hi=>hb.block i (by simpa using hi)⟩;have cx:=LK.cell;have fx:=LK.free;have hg:=kr true u4 ls wr (Gs.dN hown) Bc.out;rw [hz] at hg;have HG:=zh hg;obtain ⟨pa,ca,rfl, -⟩:=(Gs.dN hown).read;clear hv hz hg hown HE HV hb;go_wp2_with fail
    refine HG.out.mono ?_;rintro e w' ⟨v',rfl,hb,hv⟩;obtain ⟨bNV,Zc,lNV,ab3,rfl⟩:=hv.agg;have NV:=zh hv;clear hv;have hy:=LK.later hb;clear cx fx;have cy:=hy.cell;have fy:=hy.free;go_wp2_with fail
    refine dG rfl rfl aT Tryz.underlying121 rfl zk ?_;exact ⟨_,rfl,ah,NV.out.set2 hy zd _ _ _ _⟩
   ·obtain ⟨e,rfl⟩:∃ e:Nat,q=(e:Int):=⟨q.toNat,by omega⟩;have hef:1<e:=by omega
    have aA0:(1:Int)<(e:Int):=by omega
    rcases Int.lt_or_le ((e:Int) - 4) 1 with h4|h4
    ·have hst':(e:Int) - 4<1:=by omega
     have JM:max ((e:Int) - 4) 1=1:=by omega
     have hgl:=jI (bs:=bs) (f:=1) wR.out (Nat.le_refl _) (i:=e) zo;have HE2:Hid ((s.size:Int) - e=4*ls.length):=zh (HE.out zo);clear HE;go_wp2_with fail
     obtain ⟨wo,rfl⟩:∃ wo:World,wo=wr:=⟨_,rfl⟩
     go_loopw [6,7] (fun v6 v7 wi=>∃ i:Nat,v7= .int .i64 (i:Int)∧1≤i∧i≤e∧Hid (v6= .int .i64 (num ((bs.take i).drop 1):Nat))∧wo=wi) (fun _ v7 _=>e - (intOf v7).toNat)
     case atStart=>exact ⟨1,rfl,Nat.le_refl _,by omega,zh (by rw [List.drop_eq_nil_of_le (by rw [List.length_take];omega)];rfl),rfl⟩
     case round =>
      obtain ⟨i,rfl,hi1,hi2,H6,rfl⟩:=hrel;have e6:=H6.out;subst e6
      rcases Nat.lt_or_ge i e with hie|hie
      ·have his:i<s.size:=by omega
       have hx2:bs[i]? =some s[i]:=by rw [← Bj.out];exact List.getElem?_eq_getElem (by exact his)
       have hdi:=wR.out s[i] (by rw [← Bj.out];exact kG zo his);have HS:=zh (kZ (bs:=bs) (st:=1) (x:=s[i]) hi1 hdi hx2);have hgb:=jI (bs:=bs) (f:=1) wR.out (Nat.le_refl _) (i:=i) zo;generalize num ((bs.take i).drop 1)=g at *;go_wp2_with fail
       exact ⟨⟨i+1,rfl,by omega,by omega,zh (by rw [← HS.out]),trivial⟩,by simp only [intOf];omega⟩
      ·have hie:i=e:=by omega
       subst hie;have HG:=zh (mD (bs:=bs) (s:=1) (e:=i) zo (by have:=HN.out;omega));have hlen:bs.length - i=4*ls.length:=by have:=HE2.out;have:=HN.out;omega
       have hmx:(max (i:Int) 1).toNat=i:=by omega
       have hv0:=HV.out;rw [hmx] at hv0;rw [hlen,Nat.pow_mul,← hv0] at HG;generalize num ((bs.take i).drop 1)=gv at *;have hll:ls.length+1≤s.size:=by have:=HE2.out;omega
       have ec:ints ls++[.int .i64 (gv:Int)]=ints (ls++[gv]):=by unfold ints;simp only [List.map_append,List.map_cons,List.map_nil]
       have EC:=zh ec;clear H6 ec;go_wp2_with (at_builtin;refine wpList_append_own _ rfl (.tmp 35) (.tmp 37) 119 rfl (w.heap.size+1) 3 i0 (.int .i64 0) 1 8 Tryz.underlying119 hi hz0 hz1 hz2 rfl zd _ _ _ rfl (hown.alloc _) ⟨wo.heap.size,0,none⟩ 1 1 [.int .i64 (gv:Int)] rfl rfl (by intro t u ht;match t,ht with|0,ht=>simp at ht;subst ht;simp [Addr.add]) (by intro u hu;simp at hu;subst hu;rfl) (by unfold maxLen;omega) zo (by have:=hb.size;simp at*; omega) ?_)
       intro v' w1 hown1 hgrow1 _;rw [EC.out] at hown1;have hb3:Below (w.heap.size+1) (w.alloc (.cells #[.bool false,.slice none 0 0] 121)) w1:=(hb.alloc (by have:=hb.size;simpa using this) _).grown hgrow1 (by simp;have:=hb.size;simp at*; omega) (fun k hk=>(hown.lt k hk).1)
       have qZ:Hid (val 10000 (ls++[gv])=num (bs.drop (max ((i:Int) - 4) 1).toNat)):=by
        unfold Hid;rw [show (max ((i:Int) - 4) 1).toNat=1 by omega,fU,HG.out,Nat.add_comm,Nat.mul_comm]
       clear hown hgrow1 hst' JM;go_wp2_with fail
       refine ⟨⟨(i:Int) - 4,ls++[gv],rfl,by omega,by omega,zh (fun h=>?_),zh (by rw [List.length_append];exact hll),zh (Bc.out.snoc hgl),qZ,by rw [List.length_append];exact hown1,hb3⟩,?_⟩
       ·have:=HE2.out;rw [List.length_append,List.length_singleton];omega
       ·simp only [intOf];omega
    ·obtain ⟨f,rfl⟩:∃ f,e=f+4:=⟨e - 4,by omega⟩;have s1:1≤f:=by omega
     have hst':¬ (f:Int)<1:=by omega
     have JM:max (f:Int) 1=(f:Int):=by omega
     have hgl:=jI (bs:=bs) (f:=1) wR.out s1 (i:=f+4) zo;have HE2:Hid ((s.size:Int) - ((f+4:Nat):Int)=4*ls.length):=zh (HE.out zo);clear HE;go_wp2_with fail
     obtain ⟨wo,rfl⟩:∃ wo:World,wo=wr:=⟨_,rfl⟩
     go_loopw [6,7] (fun v6 v7 wi=>∃ i:Nat,v7= .int .i64 (i:Int)∧f≤i∧i≤f+4∧Hid (v6= .int .i64 (num ((bs.take i).drop f):Nat))∧wo=wi) (fun _ v7 _=>f+4 - (intOf v7).toNat)
     case atStart=>exact ⟨f,rfl,Nat.le_refl _,by omega,zh (by rw [List.drop_eq_nil_of_le (by rw [List.length_take];omega)];rfl),rfl⟩
     case round =>
      obtain ⟨i,rfl,hi1,hi2,H6,rfl⟩:=hrel;have e6:=H6.out;subst e6
      rcases Nat.lt_or_ge i (f+4) with hie|hie
      ·have his:i<s.size:=by omega
       have hx2:bs[i]? =some s[i]:=by rw [← Bj.out];exact List.getElem?_eq_getElem (by exact his)
       have hdi:=wR.out s[i] (by rw [← Bj.out];exact kG zo his);have HS:=zh (kZ (bs:=bs) (st:=f) (x:=s[i]) hi1 hdi hx2);have hgb:=jI (bs:=bs) (f:=1) wR.out s1 (i:=i) zo;generalize num ((bs.take i).drop f)=g at *;go_wp2_with fail
       exact ⟨⟨i+1,rfl,by omega,by omega,zh (by rw [← HS.out]),trivial⟩,by simp only [intOf];omega⟩
      ·obtain rfl:i=f+4:=by omega
       have HG:=zh (mD (bs:=bs) (s:=f) (e:=f+4) zo (by have:=HN.out;omega));have hlen:bs.length - (f+4)=4*ls.length:=by have:=HE2.out;have:=HN.out;omega
       have hmx:(max ((f+4:Nat):Int) 1).toNat=f+4:=by omega
       have hv0:=HV.out;rw [hmx] at hv0;rw [hlen,Nat.pow_mul,← hv0] at HG;generalize num ((bs.take (f+4)).drop f)=gv at *;have hll:ls.length+1≤s.size:=by have:=HE2.out;omega
       have ec:ints ls++[.int .i64 (gv:Int)]=ints (ls++[gv]):=by unfold ints;simp only [List.map_append,List.map_cons,List.map_nil]
       have EC:=zh ec;clear H6 ec;go_wp2_with (at_builtin;refine wpList_append_own _ rfl (.tmp 35) (.tmp 37) 119 rfl (w.heap.size+1) 3 i0 (.int .i64 0) 1 8 Tryz.underlying119 hi hz0 hz1 hz2 rfl zd _ _ _ rfl (hown.alloc _) ⟨wo.heap.size,0,none⟩ 1 1 [.int .i64 (gv:Int)] rfl rfl (by intro t u ht;match t,ht with|0,ht=>simp at ht;subst ht;simp [Addr.add]) (by intro u hu;simp at hu;subst hu;rfl) (by unfold maxLen;omega) zo (by have:=hb.size;simp at*; omega) ?_)
       intro v' w1 hown1 hgrow1 _;rw [EC.out] at hown1;have hb3:Below (w.heap.size+1) (w.alloc (.cells #[.bool false,.slice none 0 0] 121)) w1:=(hb.alloc (by have:=hb.size;simpa using this) _).grown hgrow1 (by simp;have:=hb.size;simp at*; omega) (fun k hk=>(hown.lt k hk).1)
       have qZ:Hid (val 10000 (ls++[gv])=num (bs.drop (max (f:Int) 1).toNat)):=by
        unfold Hid;rw [show (max (f:Int) 1).toNat=f by omega,fU,HG.out,Nat.add_comm,Nat.mul_comm]
       clear hown hgrow1 hst' JM;go_wp2_with fail
       refine ⟨⟨(f:Int),ls++[gv],rfl,by omega,by omega,zh (fun h=>?_),zh (by rw [List.length_append];exact hll),zh (Bc.out.snoc hgl),qZ,by rw [List.length_append];exact hown1,hb3⟩,?_⟩
       ·have:=HE2.out;rw [List.length_append,List.length_singleton];omega
       ·simp only [intOf];omega
 ·obtain ⟨hd,VH⟩:=hC;subst VH;have HD:=zh hd;have hds:nJ (bs.drop 0):=by rw [← hd];exact nQ hok
  have hle:0<s.size:=by
   have h1:d≠[]:=fun e=>by rw [e] at hok;exact absurd hok (by simp [dI])
   have h2:0<d.length:=List.length_pos_iff.2 h1;rw [hd,List.length_drop,HN.out] at h2;omega
  have hq:((s[0].toNat:Int) == 45)=false:=by
   have h:s[0]≠45:=fun e=>by have:=h45.2 e;cases this
   rw [beq_eq_false_iff_ne];intro h2
   exact h (UInt8.toNat_inj.1 (by
    have:s[0].toNat=45:=by omega
    rw [this];rfl))
  have wR:=zh hds;clear hd hds hok h45;go_enter Tryz.func167,Tryz.ntmps167
  go_wp2_with fail
  go_loopw [4,5,6,7] (fun dv ev _ _ wr=>∃ (q:Int) (ls:List Nat),ev= .int .i64 q∧ -4≤q∧q≤s.size∧Hid ((0:Int)<q→(s.size:Int) - q=4*ls.length)∧Hid (ls.length≤s.size)∧Hid (dz 10000 ls)∧Hid (val 10000 ls=num (bs.drop (max q 0).toNat))∧wr.ownsRow (w.heap.size+1) 3 1 dv ls.length (ints ls) ∧
    Below (w.heap.size+1) (w.alloc (.cells #[.bool false,.slice none 0 0] 121)) wr) (fun _ ev _ _ _=>(intOf ev+4).toNat)
  case atStart=>exact ⟨s.size,[],rfl,by omega,by omega,zh (by intro h;simp),zh zi,zh dz.nil,zh (by rw [show (max (s.size:Int) 0).toNat=bs.length by rw [HN.out];omega,List.drop_length];simp [val,num]),World.ownsRow_nil _ _ _ _,Below.refl _ _⟩
  case round =>
   obtain ⟨q,ls,rfl,hq4,hqs,HE,HLL,Bc,HV,hown,hb⟩:=hrel
   by_cases hqf:q≤0
   ·have hv:val 10000 ls=num (bs.drop 0):=by rw [HV.out,show (max q 0).toNat=0 by omega]
    have hz:gB (val 10000 ls) false=z:=by rw [hv,← HD.out];exact HZ.out
    have h1:Below w.heap.size w wr:=⟨hb.os,hb.tape,hb.output,Nat.le_trans zi hb.size,fun i hi=>(hb.block i zo).trans (h0.block i hi)⟩;have LK:=hx.later (w':=wr) ⟨hb.os,hb.tape,hb.output,by have:=hb.size;simpa using this,fun i hi=>hb.block i (by simpa using hi)⟩;have cx:=LK.cell;have fx:=LK.free;have hg:=kr false u4 ls wr (Gs.dN hown) Bc.out;rw [hz] at hg;have HG:=zh hg;obtain ⟨pa,ca,rfl, -⟩:=(Gs.dN hown).read;clear hv hz hg hown HE HV hb;go_wp2_with fail
    refine HG.out.mono ?_;rintro e w' ⟨v',rfl,hb,hv⟩;obtain ⟨bNV,Zc,lNV,ab3,rfl⟩:=hv.agg;have NV:=zh hv;clear hv;have hy:=LK.later hb;clear cx fx;have cy:=hy.cell;have fy:=hy.free;go_wp2_with fail
    refine dG rfl rfl aT Tryz.underlying121 rfl zk ?_;exact ⟨_,rfl,ah,NV.out.set2 hy zd _ _ _ _⟩
   ·obtain ⟨e,rfl⟩:∃ e:Nat,q=(e:Int):=⟨q.toNat,by omega⟩;have hef:0<e:=by omega
    have aA0:(0:Int)<(e:Int):=by omega
    rcases Int.lt_or_le ((e:Int) - 4) 0 with h4|h4
    ·have hst':(e:Int) - 4<0:=by omega
     have JM:max ((e:Int) - 4) 0=0:=by omega
     have hgl:=jI (bs:=bs) (f:=0) wR.out (Nat.le_refl _) (i:=e) zo;have HE2:Hid ((s.size:Int) - e=4*ls.length):=zh (HE.out zo);clear HE;go_wp2_with fail
     obtain ⟨wo,rfl⟩:∃ wo:World,wo=wr:=⟨_,rfl⟩
     go_loopw [6,7] (fun v6 v7 wi=>∃ i:Nat,v7= .int .i64 (i:Int)∧0≤i∧i≤e∧Hid (v6= .int .i64 (num ((bs.take i).drop 0):Nat))∧wo=wi) (fun _ v7 _=>e - (intOf v7).toNat)
     case atStart=>exact ⟨0,rfl,Nat.le_refl _,by omega,zh (by rw [List.drop_eq_nil_of_le (by rw [List.length_take];omega)];rfl),rfl⟩
     case round =>
      obtain ⟨i,rfl,hi1,hi2,H6,rfl⟩:=hrel;have e6:=H6.out;subst e6
      rcases Nat.lt_or_ge i e with hie|hie
      ·have his:i<s.size:=by omega
       have hx2:bs[i]? =some s[i]:=by rw [← Bj.out];exact List.getElem?_eq_getElem (by exact his)
       have hdi:=wR.out s[i] (by rw [← Bj.out];exact kG zo his);have HS:=zh (kZ (bs:=bs) (st:=0) (x:=s[i]) hi1 hdi hx2);have hgb:=jI (bs:=bs) (f:=0) wR.out (Nat.le_refl _) (i:=i) zo;generalize num ((bs.take i).drop 0)=g at *;go_wp2_with fail
       exact ⟨⟨i+1,rfl,by omega,by omega,zh (by rw [← HS.out]),trivial⟩,by simp only [intOf];omega⟩
      ·have hie:i=e:=by omega
       subst hie;have HG:=zh (mD (bs:=bs) (s:=0) (e:=i) zo (by have:=HN.out;omega));have hlen:bs.length - i=4*ls.length:=by have:=HE2.out;have:=HN.out;omega
       have hmx:(max (i:Int) 0).toNat=i:=by omega
       have hv0:=HV.out;rw [hmx] at hv0;rw [hlen,Nat.pow_mul,← hv0] at HG;generalize num ((bs.take i).drop 0)=gv at *;have hll:ls.length+1≤s.size:=by have:=HE2.out;omega
       have ec:ints ls++[.int .i64 (gv:Int)]=ints (ls++[gv]):=by unfold ints;simp only [List.map_append,List.map_cons,List.map_nil]
       have EC:=zh ec;clear H6 ec;go_wp2_with (at_builtin;refine wpList_append_own _ rfl (.tmp 35) (.tmp 37) 119 rfl (w.heap.size+1) 3 i0 (.int .i64 0) 1 8 Tryz.underlying119 hi hz0 hz1 hz2 rfl zd _ _ _ rfl (hown.alloc _) ⟨wo.heap.size,0,none⟩ 1 1 [.int .i64 (gv:Int)] rfl rfl (by intro t u ht;match t,ht with|0,ht=>simp at ht;subst ht;simp [Addr.add]) (by intro u hu;simp at hu;subst hu;rfl) (by unfold maxLen;omega) zo (by have:=hb.size;simp at*; omega) ?_)
       intro v' w1 hown1 hgrow1 _;rw [EC.out] at hown1;have hb3:Below (w.heap.size+1) (w.alloc (.cells #[.bool false,.slice none 0 0] 121)) w1:=(hb.alloc (by have:=hb.size;simpa using this) _).grown hgrow1 (by simp;have:=hb.size;simp at*; omega) (fun k hk=>(hown.lt k hk).1)
       have qZ:Hid (val 10000 (ls++[gv])=num (bs.drop (max ((i:Int) - 4) 0).toNat)):=by
        unfold Hid;rw [show (max ((i:Int) - 4) 0).toNat=0 by omega,fU,HG.out,Nat.add_comm,Nat.mul_comm]
       clear hown hgrow1 hst' JM;go_wp2_with fail
       refine ⟨⟨(i:Int) - 4,ls++[gv],rfl,by omega,by omega,zh (fun h=>?_),zh (by rw [List.length_append];exact hll),zh (Bc.out.snoc hgl),qZ,by rw [List.length_append];exact hown1,hb3⟩,?_⟩
       ·have:=HE2.out;rw [List.length_append,List.length_singleton];omega
       ·simp only [intOf];omega
    ·obtain ⟨f,rfl⟩:∃ f,e=f+4:=⟨e - 4,by omega⟩;have s1:0≤f:=by omega
     have hst':¬ (f:Int)<0:=by omega
     have JM:max (f:Int) 0=(f:Int):=by omega
     have hgl:=jI (bs:=bs) (f:=0) wR.out s1 (i:=f+4) zo;have HE2:Hid ((s.size:Int) - ((f+4:Nat):Int)=4*ls.length):=zh (HE.out zo);clear HE;go_wp2_with fail
     obtain ⟨wo,rfl⟩:∃ wo:World,wo=wr:=⟨_,rfl⟩
     go_loopw [6,7] (fun v6 v7 wi=>∃ i:Nat,v7= .int .i64 (i:Int)∧f≤i∧i≤f+4∧Hid (v6= .int .i64 (num ((bs.take i).drop f):Nat))∧wo=wi) (fun _ v7 _=>f+4 - (intOf v7).toNat)
     case atStart=>exact ⟨f,rfl,Nat.le_refl _,by omega,zh (by rw [List.drop_eq_nil_of_le (by rw [List.length_take];omega)];rfl),rfl⟩
     case round =>
      obtain ⟨i,rfl,hi1,hi2,H6,rfl⟩:=hrel;have e6:=H6.out;subst e6
      rcases Nat.lt_or_ge i (f+4) with hie|hie
      ·have his:i<s.size:=by omega
       have hx2:bs[i]? =some s[i]:=by rw [← Bj.out];exact List.getElem?_eq_getElem (by exact his)
       have hdi:=wR.out s[i] (by rw [← Bj.out];exact kG zo his);have HS:=zh (kZ (bs:=bs) (st:=f) (x:=s[i]) hi1 hdi hx2);have hgb:=jI (bs:=bs) (f:=0) wR.out s1 (i:=i) zo;generalize num ((bs.take i).drop f)=g at *;go_wp2_with fail
       exact ⟨⟨i+1,rfl,by omega,by omega,zh (by rw [← HS.out]),trivial⟩,by simp only [intOf];omega⟩
      ·obtain rfl:i=f+4:=by omega
       have HG:=zh (mD (bs:=bs) (s:=f) (e:=f+4) zo (by have:=HN.out;omega));have hlen:bs.length - (f+4)=4*ls.length:=by have:=HE2.out;have:=HN.out;omega
       have hmx:(max ((f+4:Nat):Int) 0).toNat=f+4:=by omega
       have hv0:=HV.out;rw [hmx] at hv0;rw [hlen,Nat.pow_mul,← hv0] at HG;generalize num ((bs.take (f+4)).drop f)=gv at *;have hll:ls.length+1≤s.size:=by have:=HE2.out;omega
       have ec:ints ls++[.int .i64 (gv:Int)]=ints (ls++[gv]):=by unfold ints;simp only [List.map_append,List.map_cons,List.map_nil]
       have EC:=zh ec;clear H6 ec;go_wp2_with (at_builtin;refine wpList_append_own _ rfl (.tmp 35) (.tmp 37) 119 rfl (w.heap.size+1) 3 i0 (.int .i64 0) 1 8 Tryz.underlying119 hi hz0 hz1 hz2 rfl zd _ _ _ rfl (hown.alloc _) ⟨wo.heap.size,0,none⟩ 1 1 [.int .i64 (gv:Int)] rfl rfl (by intro t u ht;match t,ht with|0,ht=>simp at ht;subst ht;simp [Addr.add]) (by intro u hu;simp at hu;subst hu;rfl) (by unfold maxLen;omega) zo (by have:=hb.size;simp at*; omega) ?_)
       intro v' w1 hown1 hgrow1 _;rw [EC.out] at hown1;have hb3:Below (w.heap.size+1) (w.alloc (.cells #[.bool false,.slice none 0 0] 121)) w1:=(hb.alloc (by have:=hb.size;simpa using this) _).grown hgrow1 (by simp;have:=hb.size;simp at*; omega) (fun k hk=>(hown.lt k hk).1)
       have qZ:Hid (val 10000 (ls++[gv])=num (bs.drop (max (f:Int) 0).toNat)):=by
        unfold Hid;rw [show (max (f:Int) 0).toNat=f by omega,fU,HG.out,Nat.add_comm,Nat.mul_comm]
       clear hown hgrow1 hst' JM;go_wp2_with fail
       refine ⟨⟨(f:Int),ls++[gv],rfl,by omega,by omega,zh (fun h=>?_),zh (by rw [List.length_append];exact hll),zh (Bc.out.snoc hgl),qZ,by rw [List.length_append];exact hown1,hb3⟩,?_⟩
       ·have:=HE2.out;rw [List.length_append,List.length_singleton];omega
       ·simp only [intOf];omega
end Go.Proofs.aC
namespace Go.Proofs.aH
open Go Go.RowKit Go.SW Go.Num Go.Mem Go.Proofs Go.Dec Go.Proofs.aC
def Ra (w:World) (v:Value) (q:Rat):Prop:=∃ bn pn ln cn bd pd ld cd,v= .agg #[.bool bn,.slice pn ln cn,.bool bd,.slice pd ld cd]∧Pl w (.agg #[.bool bn,.slice pn ln cn]) q.num∧Pl w (.agg #[.bool bd,.slice pd ld cd]) q.den
theorem Ra.later {w w':World} {v:Value} {q:Rat} (h:Ra w v q) (hb:Below w.heap.size w w'):Ra w' v q:=by
 obtain ⟨bn,pn,ln,cn,bd,pd,ld,cd,e,h1,h2⟩:=h;exact ⟨bn,pn,ln,cn,bd,pd,ld,cd,e,h1.later hb,h2.later hb⟩
def mY (w:World) (q:Rat) (e:Ending) (w':World):Prop:=∃ v',e= .returned v'∧Below w.heap.size w w'∧Ra w' v' q
theorem wB {n d:Int} (hd:0<d):((n:Rat) / (d:Rat)).num=n / (Nat.gcd n.natAbs d.natAbs:Int)∧(((n:Rat) / (d:Rat)).den:Int)=d / (Nat.gcd n.natAbs d.natAbs:Int):=by
 obtain ⟨k,rfl⟩:=Int.eq_ofNat_of_zero_le (Int.le_of_lt hd);have hk:0<k:=by omega
 have e:(n:Rat) / ((k:Int):Rat)=mkRat n k:=by
  rw [Rat.mkRat_eq_div];rfl
 have h:=cK.qI n hk;rw [e,Int.natAbs_natCast];refine ⟨?_,?_⟩
 ·rw [h.1,cK.Gl (Nat.gcd_dvd_left _ _)]
 ·rw [h.2,Int.natCast_ediv]
theorem Pl.rW {w:World} {v:Value} {z:Int} (h:Pl w v z) {b:Nat} {cs:Array Value} {T':TypeId} (hx:au w b cs T') (hT:3≠T') (u0 u1 u2 u3:Value) :
  Pl ((((w.setCell ⟨b,0,none⟩ u0).setCell ⟨b,1,none⟩ u1).setCell ⟨b,2,none⟩ u2).setCell ⟨b,3,none⟩ u3) v z :=
 (h.set2 hx hT 0 1 u0 u1).set2 ((hx.set 0 u0).set 1 u1) hT 2 3 u2 u3
theorem Ra.rW {w:World} {v:Value} {q:Rat} (h:Ra w v q) {b:Nat} {cs:Array Value} {T':TypeId} (hx:au w b cs T') (hT:3≠T') (u0 u1 u2 u3:Value) :
  Ra ((((w.setCell ⟨b,0,none⟩ u0).setCell ⟨b,1,none⟩ u1).setCell ⟨b,2,none⟩ u2).setCell ⟨b,3,none⟩ u3) v q:=by
 obtain ⟨bn,pn,ln,cn,bd,pd,ld,cd,e,h1,h2⟩:=h;exact ⟨bn,pn,ln,cn,bd,pd,ld,cd,e,Pl.rW h1 hx hT u0 u1 u2 u3,Pl.rW h2 hx hT u0 u1 u2 u3⟩
theorem Kt (x y:Value) (n d:Int) (w:World) (hx:Pl w x n) (hy:Pl w y d) (ha:sz 10000 n.natAbs≤274877906944) (hb:sz 10000 d.natAbs≤274877906944) (hd:0<d) :
  Calls Tryz.prog 135 #[x,y] w (mY w ((n:Rat) / (d:Rat))):=by
 obtain ⟨e1,e2⟩:=wB (n:=n) hd;obtain ⟨q,Eq⟩:∃ q:Rat,(n:Rat) / (d:Rat)=q:=⟨_,rfl⟩;rw [Eq] at e1 e2 ⊢;obtain ⟨bA,jJ,lA,jN,rfl⟩:=hx.agg;obtain ⟨bB,nu,lB,nC,rfl⟩:=hy.agg;have hbf:bB=false:=by rw [hy.nm.2];simp;omega
 subst hbf;have NA:=zh hx;have NB:=zh hy;have KA:=zh ha;have KB:=zh hb;have hg0:0<Nat.gcd n.natAbs d.natAbs:=Nat.gcd_pos_of_pos_right _ zo;have hgd:Nat.gcd n.natAbs d.natAbs≤d.natAbs:=Nat.le_of_dvd zo (Nat.gcd_dvd_right _ _);have dn:((Nat.gcd n.natAbs d.natAbs:Nat):Int) ∣ n:=by rw [← Int.dvd_natAbs,Int.ofNat_dvd];exact Nat.gcd_dvd_left _ _
 have dd:((Nat.gcd n.natAbs d.natAbs:Nat):Int) ∣ d:=by rw [← Int.dvd_natAbs,Int.ofNat_dvd];exact Nat.gcd_dvd_right _ _
 have Fj:=zh (fun W=>tV (.agg #[.bool bA,.slice jJ lA jN]) (.agg #[.bool false,.slice nu lB nC]) n d W);generalize Nat.gcd n.natAbs d.natAbs=g at *;have G0:Hid (0<(g:Int)):=zh zo;have KG:Hid (sz 10000 (g:Int).natAbs≤274877906944):=zh (Nat.le_trans (dM zo (by simpa using hgd)) hb);have DN:=zh dn;have DD:=zh dd;have E1:=zh e1;have E2:=zh e2;clear e1 e2 Eq hx hy ha hb hd hg0 hgd dn dd;go_enter Tryz.func135,Tryz.ntmps135
 go_wp2_with fail
 obtain ⟨fI,EW,hz,X1,X2,X3⟩:=I7 w #[.bool bA,.slice jJ lA jN] 121 #[.bool false,.slice nu lB nC] 121 #[.bool false,.slice none 0 0,.bool false,.slice none 0 0] 123;rw [EW];replace NA:=zh (NA.out.later hz);replace NB:=zh (NB.out.later hz);have hk2:=Bt (Below.refl _ _) hz;clear EW hz;refine (Fj.out _ NA.out NB.out KA.out KB.out).mono ?_;rintro e kV ⟨v,rfl,hb3,hv4⟩;obtain ⟨bG,Qv,lG,Ti,rfl⟩:=hv4.agg;replace NA:=zh (NA.out.later hb3);replace NB:=zh (NB.out.later hb3);replace X1:=X1.bl hb3;replace X2:=X2.bl hb3;replace X3:=X3.bl hb3;have hk5:=Bt hk2 hb3;clear hk2;have NG:=zh hv4;clear hb3 hv4;obtain ⟨jd,iY,iZ⟩:=X1.clf
 go_upto_region 4 with fail
 clear jd iY iZ;obtain ⟨wq6,EW,hz,X4⟩:=oz kV #[.bool bG,.slice Qv lG Ti] 121;rw [EW];replace NA:=zh (NA.out.later hz);replace NB:=zh (NB.out.later hz);replace X1:=X1.bl hz;replace X2:=X2.bl hz;replace X3:=X3.bl hz;replace NG:=zh (NG.out.later hz);have hk7:=Bt hk5 hz;clear hk5;clear EW hz;generalize kV.heap.size=pq6 at *;obtain ⟨jd,iY,iZ⟩:=X1.clf;obtain ⟨Oz,N7,Om⟩:=X4.clf;go_wp2_with fail
 clear jd iY iZ Oz N7 Om;refine (qW _ _ _ _ _ NA.out NG.out KA.out KG.out G0.out (.inr DN.out)).mono ?_;rintro e wc8 ⟨vx,vy,rfl,J3,hq,hr⟩;obtain ⟨bX,Bw,lX,BS,rfl⟩:=hq.agg;obtain ⟨bU,Gz,lU,Ip,rfl⟩:=hr.agg;replace NA:=zh (NA.out.later J3);replace NB:=zh (NB.out.later J3);replace X1:=X1.bl J3;replace X2:=X2.bl J3;replace X3:=X3.bl J3;replace NG:=zh (NG.out.later J3);replace X4:=X4.bl J3;have hk10:=Bt hk7 J3;clear hk7;have NX:=zh hq;clear J3 hq;obtain ⟨nH,nD,nG⟩:=X2.clf;obtain ⟨Oz,N7,Om⟩:=X4.clf
 go_upto_region 5 with fail
 clear nH nD nG Oz N7 Om;obtain ⟨UD,EW,hz,X5, -⟩:=yB wc8 #[.bool bX,.slice Bw lX BS] 121 #[.bool bU,.slice Gz lU Ip] 121;rw [EW];clear NA;replace NB:=zh (NB.out.later hz);clear X1;replace X2:=X2.bl hz;replace X3:=X3.bl hz;replace NG:=zh (NG.out.later hz);replace X4:=X4.bl hz;replace NX:=zh (NX.out.later hz);have ao8:=Bt hk10 hz;clear hk10;clear EW hz;generalize wc8.heap.size=aH3 at *;obtain ⟨nH,nD,nG⟩:=X2.clf;obtain ⟨Oz,N7,Om⟩:=X4.clf;go_wp2_with fail
 clear nH nD nG Oz N7 Om;refine (qW _ _ _ _ _ NB.out NG.out KB.out KG.out G0.out (.inr DD.out)).mono ?_;rintro e Dc ⟨vx,vy,rfl,kY,hq,hr⟩;obtain ⟨bY,Zb,lY,caY,rfl⟩:=hq.agg;obtain ⟨bV,Gy,lV,Io,rfl⟩:=hr.agg;replace NB:=zh (NB.out.later kY);replace X2:=X2.bl kY;replace X3:=X3.bl kY;replace NG:=zh (NG.out.later kY);replace X4:=X4.bl kY;replace NX:=zh (NX.out.later kY);replace X5:=X5.bl kY;have RQ:=Bt ao8 kY;clear ao8;have NY:=zh hq;clear kY hq;obtain ⟨Tm,Rn,fX5⟩:=X5.clf;obtain ⟨Pp,Pf,Pj⟩:=X3.clf
 go_upto_region 6 with fail
 clear Tm Rn fX5 Pp Pf Pj;obtain ⟨aG4,EW,hz,X7, -⟩:=yB Dc #[.bool bY,.slice Zb lY caY] 121 #[.bool bV,.slice Gy lV Io] 121;rw [EW];clear NB;clear X2;replace X3:=X3.bl hz;clear NG;clear X4;replace NX:=zh (NX.out.later hz);replace X5:=X5.bl hz;replace NY:=zh (NY.out.later hz);have aL4:=Bt RQ hz;clear RQ;clear EW hz;generalize Dc.heap.size=aH1 at *;obtain ⟨Tm,Rn,fX5⟩:=X5.clf;obtain ⟨cX7,lX7,fX7⟩:=X7.clf;obtain ⟨Pp,Pf,Pj⟩:=X3.clf;have hres:=X3.out;have tJ:=hres.cell;have tH:=hres.free;go_wp2_with fail
 refine dG rfl rfl aT Tryz.underlying123 rfl zk ?_;have hx:=Pl.rW NX.out hres zd (.bool bX) (.slice Bw lX BS) (.bool bY) (.slice Zb lY caY);have hy:=Pl.rW NY.out hres zd (.bool bX) (.slice Bw lX BS) (.bool bY) (.slice Zb lY caY);rw [← E1.out] at hx;rw [← E2.out] at hy;exact ⟨_,rfl,ah,_,_,_,_,_,_,_,_,rfl,hx,hy⟩
theorem Ku (x y:Value) (n d:Int) (w:World) (hx:Pl w x n) (hy:Pl w y d) (ha:sz 10000 n.natAbs≤274877906944) (hb:sz 10000 d.natAbs≤274877906944) (hd:d<0) :
  Calls Tryz.prog 135 #[x,y] w (mY w ((n:Rat) / (d:Rat))):=by
 obtain ⟨e1,e2⟩:=wB (n:= -n) (d:= -d) zo;rw [show ((-n:Int):Rat) / ((-d:Int):Rat)=(n:Rat) / (d:Rat) by rw [Rat.intCast_neg,Rat.intCast_neg,Rat.div_def,Rat.div_def];grind,Int.natAbs_neg,Int.natAbs_neg] at e1 e2;obtain ⟨q,Eq⟩:∃ q:Rat,(n:Rat) / (d:Rat)=q:=⟨_,rfl⟩;rw [Eq] at e1 e2 ⊢;obtain ⟨bA,jJ,lA,jN,rfl⟩:=hx.agg;obtain ⟨bB,nu,lB,nC,rfl⟩:=hy.agg;have hbf:bB=true:=by rw [hy.nm.2];simp;omega
 subst hbf;have NA:=zh hx;have NB:=zh hy;have KA:=zh ha;have KB:=zh hb;have hg0:0<Nat.gcd n.natAbs d.natAbs:=Nat.gcd_pos_of_pos_right _ zo;have hgd:Nat.gcd n.natAbs d.natAbs≤d.natAbs:=Nat.le_of_dvd zo (Nat.gcd_dvd_right _ _);have dn:((Nat.gcd n.natAbs d.natAbs:Nat):Int) ∣ -n:=by rw [Int.dvd_neg];rw [← Int.dvd_natAbs,Int.ofNat_dvd];exact Nat.gcd_dvd_left _ _
 have dd:((Nat.gcd n.natAbs d.natAbs:Nat):Int) ∣ -d:=by rw [Int.dvd_neg];rw [← Int.dvd_natAbs,Int.ofNat_dvd];exact Nat.gcd_dvd_right _ _
 have Fj:=zh (fun x y W=>tV x y (-n) (-d) W);have KA':Hid (sz 10000 (-n).natAbs≤274877906944):=zh (by rw [Int.natAbs_neg];exact ha);have KB':Hid (sz 10000 (-d).natAbs≤274877906944):=zh (by rw [Int.natAbs_neg];exact hb);rw [Int.natAbs_neg,Int.natAbs_neg] at Fj;generalize Nat.gcd n.natAbs d.natAbs=g at *;have G0:Hid (0<(g:Int)):=zh zo;have KG:Hid (sz 10000 (g:Int).natAbs≤274877906944):=zh (Nat.le_trans (dM zo (by simpa using hgd)) hb);have DN:=zh dn;have DD:=zh dd;have E1:=zh e1;have E2:=zh e2;clear e1 e2 Eq hx hy ha hb hd hg0 hgd dn dd;go_enter Tryz.func135,Tryz.ntmps135
 go_wp2_with fail
 obtain ⟨fI,EW,hz,X1,X2,X3⟩:=I7 w #[.bool bA,.slice jJ lA jN] 121 #[.bool true,.slice nu lB nC] 121 #[.bool false,.slice none 0 0,.bool false,.slice none 0 0] 123;rw [EW];replace NA:=zh (NA.out.later hz);replace NB:=zh (NB.out.later hz);have hk2:=Bt (Below.refl _ _) hz;clear EW hz;obtain ⟨jd,iY,iZ⟩:=X1.clf;obtain ⟨nH,nD,nG⟩:=X2.clf;refine aD [(.read,0),(.read,2),(.ext,1),(.ext,3),(.fin,4),(.fin,5)] zk zk zR zP ?_;refine zV ?_;refine aG rfl rfl (fun Db hb3 J hJ=>?_);go_simp;have hh3:Below fI.heap.size fI Db:=ah;clear hb3;refine (rP _ _ _ (NA.out.later hh3)).mono ?_;rintro e vQ ⟨v,rfl,hb4,hv5⟩;obtain ⟨bC,GA,lC,Iq,rfl⟩:=hv5.agg;refine hJ _ _ hb4 ?_;clear hJ J;have uQ:=Bt hh3 hb4;have NC:=zh hv5;clear hh3 hb4 hv5;refine zV ?_;refine aG rfl rfl (fun sO hb6 J hJ=>?_);go_simp;have jK:Below fI.heap.size fI sO:=Bt uQ ah
 replace NC:=zh (NC.out.later (show Below vQ.heap.size vQ sO from ah));clear hb6 uQ;refine (rP _ _ _ (NB.out.later jK)).mono ?_;rintro e kM ⟨v,rfl,gM,kP⟩;obtain ⟨bD,IX,lD,I6,rfl⟩:=kP.agg;refine hJ _ _ gM ?_;clear hJ J;have qN:=Bt jK gM;replace NC:=zh (NC.out.later gM);have ND:=zh kP;clear jK gM kP;refine zV ?_;refine aL [_,_] rfl (fun Bl Ph=>?_);replace NC:=zh (NC.out.later (show Below kM.heap.size kM Bl from ah));replace ND:=zh (ND.out.later (show Below kM.heap.size kM Bl from ah));have jg:Below fI.heap.size fI Bl:=Bt qN ah;clear Ph qN;clear jd iY iZ nH nD nG;replace NA:=zh (NA.out.later jg);replace NB:=zh (NB.out.later jg);replace X1:=X1.bl jg;replace X2:=X2.bl jg;replace X3:=X3.bl jg;have hk10:=Bt hk2 jg;clear hk2;clear jg;obtain ⟨jd,iY,iZ⟩:=X1.clf;obtain ⟨nH,nD,nG⟩:=X2.clf
 go_upto_region 3 with fail
 clear jd iY iZ nH nD nG;have hz:Below w.heap.size w ((((Bl.setCell ⟨w.heap.size,0,none⟩ (.bool bC)).setCell ⟨w.heap.size,1,none⟩ (.slice GA lC Iq)).setCell ⟨w.heap.size+1,0,none⟩ (.bool bD)).setCell ⟨w.heap.size+1,1,none⟩ (.slice IX lD I6)):=ah;obtain ⟨UD,EW⟩:∃ y,((((Bl.setCell ⟨w.heap.size,0,none⟩ (.bool bC)).setCell ⟨w.heap.size,1,none⟩ (.slice GA lC Iq)).setCell ⟨w.heap.size+1,0,none⟩ (.bool bD)).setCell ⟨w.heap.size+1,1,none⟩ (.slice IX lD I6))=y:=⟨_,rfl⟩;have tX1:=((((X1.out.set 0 (.bool bC)).set 1 (.slice GA lC Iq)).setOther (a:=⟨w.heap.size+1,0,none⟩) (.bool bD) (by first|assumption|(simp;done)|(simp;omega))).setOther (a:=⟨w.heap.size+1,1,none⟩) (.slice IX lD I6) (by first|assumption|(simp;done)|(simp;omega)))
 have tX2:=((((X2.out.setOther (a:=⟨w.heap.size,0,none⟩) (.bool bC) (by first|assumption|(simp;done)|(simp;omega))).setOther (a:=⟨w.heap.size,1,none⟩) (.slice GA lC Iq) (by first|assumption|(simp;done)|(simp;omega))).set 0 (.bool bD)).set 1 (.slice IX lD I6));have tX3:=((((X3.out.setOther (a:=⟨w.heap.size,0,none⟩) (.bool bC) (by first|assumption|(simp;done)|(simp;omega))).setOther (a:=⟨w.heap.size,1,none⟩) (.slice GA lC Iq) (by first|assumption|(simp;done)|(simp;omega))).setOther (a:=⟨w.heap.size+1,0,none⟩) (.bool bD) (by first|assumption|(simp;done)|(simp;omega))).setOther (a:=⟨w.heap.size+1,1,none⟩) (.slice IX lD I6) (by first|assumption|(simp;done)|(simp;omega)))
 have tNC:=((((NC.out.setOther X1.out zd 0 (.bool bC)).setOther (X1.out.set 0 (.bool bC)) zd 1 (.slice GA lC Iq)).setOther ((X2.out.setOther (a:=⟨w.heap.size,0,none⟩) (.bool bC) (by first|assumption|(simp;done)|(simp;omega))).setOther (a:=⟨w.heap.size,1,none⟩) (.slice GA lC Iq) (by first|assumption|(simp;done)|(simp;omega))) zd 0 (.bool bD)).setOther (((X2.out.setOther (a:=⟨w.heap.size,0,none⟩) (.bool bC) (by first|assumption|(simp;done)|(simp;omega))).setOther (a:=⟨w.heap.size,1,none⟩) (.slice GA lC Iq) (by first|assumption|(simp;done)|(simp;omega))).set 0 (.bool bD)) zd 1 (.slice IX lD I6))
 have tND:=((((ND.out.setOther X1.out zd 0 (.bool bC)).setOther (X1.out.set 0 (.bool bC)) zd 1 (.slice GA lC Iq)).setOther ((X2.out.setOther (a:=⟨w.heap.size,0,none⟩) (.bool bC) (by first|assumption|(simp;done)|(simp;omega))).setOther (a:=⟨w.heap.size,1,none⟩) (.slice GA lC Iq) (by first|assumption|(simp;done)|(simp;omega))) zd 0 (.bool bD)).setOther (((X2.out.setOther (a:=⟨w.heap.size,0,none⟩) (.bool bC) (by first|assumption|(simp;done)|(simp;omega))).setOther (a:=⟨w.heap.size,1,none⟩) (.slice GA lC Iq) (by first|assumption|(simp;done)|(simp;omega))).set 0 (.bool bD)) zd 1 (.slice IX lD I6));clear NA;clear NB;rw [EW] at tX1;replace X1:Hid (au UD (w.heap.size) #[.bool bC,.slice GA lC Iq] 121):=zh tX1;clear tX1;rw [EW] at tX2;replace X2:Hid (au UD (w.heap.size+1) #[.bool bD,.slice IX lD I6] 121):=zh tX2;clear tX2;rw [EW] at tX3
 replace X3:Hid (au UD (w.heap.size+1+1) #[.bool false,.slice none 0 0,.bool false,.slice none 0 0] 123):=zh tX3;clear tX3;rw [EW] at tNC;replace NC:=zh tNC;clear tNC;rw [EW] at tND;replace ND:=zh tND;clear tND;rw [EW] at hz ⊢;clear EW;clear hk10;have D7:=hz;clear hz;obtain ⟨jd,iY,iZ⟩:=X1.clf;obtain ⟨nH,nD,nG⟩:=X2.clf;go_wp2_with fail
 clear jd iY iZ nH nD nG;refine (Fj.out _ _ _ NC.out ND.out KA.out KB.out).mono ?_;rintro e UJ ⟨v,rfl,jF,ZG⟩;obtain ⟨bG,Qv,lG,Ti,rfl⟩:=ZG.agg;replace X1:=X1.bl jF;replace X2:=X2.bl jF;replace X3:=X3.bl jF;replace NC:=zh (NC.out.later jF);replace ND:=zh (ND.out.later jF);have VL:=Bt D7 jF;clear D7;have NG:=zh ZG;clear jF ZG;obtain ⟨jd,iY,iZ⟩:=X1.clf
 go_upto_region 4 with fail
 clear jd iY iZ;obtain ⟨UC,EW,hz,X4⟩:=oz UJ #[.bool bG,.slice Qv lG Ti] 121;rw [EW];replace X1:=X1.bl hz;replace X2:=X2.bl hz;replace X3:=X3.bl hz;replace NC:=zh (NC.out.later hz);replace ND:=zh (ND.out.later hz);replace NG:=zh (NG.out.later hz);have ZM:=Bt VL hz;clear VL;clear EW hz;generalize UJ.heap.size=aH2 at *;obtain ⟨jd,iY,iZ⟩:=X1.clf;obtain ⟨Oz,N7,Om⟩:=X4.clf;go_wp2_with fail
 clear jd iY iZ Oz N7 Om;refine (qW _ _ _ _ _ NC.out NG.out KA'.out KG.out G0.out (.inr DN.out)).mono ?_;rintro e PN ⟨vx,vy,rfl,rY,hq,hr⟩;obtain ⟨bX,Bw,lX,BS,rfl⟩:=hq.agg;obtain ⟨bU,Gz,lU,Ip,rfl⟩:=hr.agg;replace X1:=X1.bl rY;replace X2:=X2.bl rY;replace X3:=X3.bl rY;replace NC:=zh (NC.out.later rY);replace ND:=zh (ND.out.later rY);replace NG:=zh (NG.out.later rY);replace X4:=X4.bl rY;have D6:=Bt ZM rY;clear ZM;have NX:=zh hq;clear rY hq;obtain ⟨nH,nD,nG⟩:=X2.clf;obtain ⟨Oz,N7,Om⟩:=X4.clf
 go_upto_region 5 with fail
 clear nH nD nG Oz N7 Om;obtain ⟨aG3,EW,hz,X5, -⟩:=yB PN #[.bool bX,.slice Bw lX BS] 121 #[.bool bU,.slice Gz lU Ip] 121;rw [EW];clear X1;replace X2:=X2.bl hz;replace X3:=X3.bl hz;clear NC;replace ND:=zh (ND.out.later hz);replace NG:=zh (NG.out.later hz);replace X4:=X4.bl hz;replace NX:=zh (NX.out.later hz);have ao7:=Bt D6 hz;clear D6;clear EW hz;generalize PN.heap.size=aH0 at *;obtain ⟨nH,nD,nG⟩:=X2.clf;obtain ⟨Oz,N7,Om⟩:=X4.clf;go_wp2_with fail
 clear nH nD nG Oz N7 Om;refine (qW _ _ _ _ _ ND.out NG.out KB'.out KG.out G0.out (.inr DD.out)).mono ?_;rintro e ai7 ⟨vx,vy,rfl,D9,hq,hr⟩;obtain ⟨bY,Zb,lY,caY,rfl⟩:=hq.agg;obtain ⟨bV,Gy,lV,Io,rfl⟩:=hr.agg;replace X2:=X2.bl D9;replace X3:=X3.bl D9;replace ND:=zh (ND.out.later D9);replace NG:=zh (NG.out.later D9);replace X4:=X4.bl D9;replace NX:=zh (NX.out.later D9);replace X5:=X5.bl D9;have ao5:=Bt ao7 D9;clear ao7;have NY:=zh hq;clear D9 hq;obtain ⟨Tm,Rn,fX5⟩:=X5.clf;obtain ⟨Pp,Pf,Pj⟩:=X3.clf
 go_upto_region 6 with fail
 clear Tm Rn fX5 Pp Pf Pj;obtain ⟨aG2,EW,hz,X7, -⟩:=yB ai7 #[.bool bY,.slice Zb lY caY] 121 #[.bool bV,.slice Gy lV Io] 121;rw [EW];clear X2;replace X3:=X3.bl hz;clear ND;clear NG;clear X4;replace NX:=zh (NX.out.later hz);replace X5:=X5.bl hz;replace NY:=zh (NY.out.later hz);have aL2:=Bt ao5 hz;clear ao5;clear EW hz;generalize ai7.heap.size=aG9 at *;obtain ⟨Tm,Rn,fX5⟩:=X5.clf;obtain ⟨cX7,lX7,fX7⟩:=X7.clf;obtain ⟨Pp,Pf,Pj⟩:=X3.clf;have hres:=X3.out;have tJ:=hres.cell;have tH:=hres.free;go_wp2_with fail
 refine dG rfl rfl aT Tryz.underlying123 rfl zk ?_;have hx:=Pl.rW NX.out hres zd (.bool bX) (.slice Bw lX BS) (.bool bY) (.slice Zb lY caY);have hy:=Pl.rW NY.out hres zd (.bool bX) (.slice Bw lX BS) (.bool bY) (.slice Zb lY caY);rw [← E1.out] at hx;rw [← E2.out] at hy;exact ⟨_,rfl,ah,_,_,_,_,_,_,_,_,rfl,hx,hy⟩
theorem wQ (x y:Value) (n d:Int) (w:World) (hx:Pl w x n) (hy:Pl w y d) (ha:sz 10000 n.natAbs≤274877906944) (hb:sz 10000 d.natAbs≤274877906944) (hd:d≠0) :
  Calls Tryz.prog 135 #[x,y] w (mY w ((n:Rat) / (d:Rat))):=by
 by_cases h:0<d
 ·exact Kt x y n d w hx hy ha hb h
 ·exact Ku x y n d w hx hy ha hb zo
end Go.Proofs.aH
namespace Go.Proofs.aH
open Go Go.RowKit Go.SW Go.Num Go.Mem Go.Proofs Go.Dec Go.Proofs.aC Go.cK
theorem zu (z:Int):∃ (s:ByteArray) (k:Int),Qx z= .tuple #[.string s,.int .i64 k]∧((DI z.natAbs=true∧k=0∧s=⟨(Lib.itoa z).toArray⟩)∨(DI z.natAbs=false∧k=6)):=by
 unfold Qx
 by_cases h:DI z.natAbs=true
 ·rw [if_pos h];exact ⟨_,_,rfl,.inl ⟨h,rfl,rfl⟩⟩
 ·rw [if_neg h];exact ⟨_,_,rfl,.inr ⟨by simpa using h,rfl⟩⟩
def ac4 (w:World) (x:Fr × Int) (e:Ending) (w':World):Prop:=e= .returned (Fr.res x)∧Below w.heap.size w w'
theorem EU (x:Value) (q:Rat) (w:World) (hx:Ra w x q) (h1:sz 10000 q.num.natAbs≤1073741824) (h2:sz 10000 q.den≤1073741824) :
  Calls Tryz.prog 75 #[x] w (ac4 w (wr q)):=by
 obtain ⟨bn,pn,ln,cn,bd,pd,ld,cd,rfl,NN,ND⟩:=hx;obtain ⟨s1,k1,e1,c1⟩:=zu q.num;obtain ⟨s2,k2,e2,c2⟩:=zu (q.den:Int);have H1:=zh (fun W (hb:Below w.heap.size w W)=>aC.EU _ q.num W (NN.later hb) h1);have H2:=zh (fun W (hb:Below w.heap.size w W)=>aC.EU _ (q.den:Int) W (ND.later hb) (by simpa using h2));rw [e1] at H1;rw [e2] at H2
 have hw:wr q=if k1=0∧k2=0 then (⟨s1,s2⟩,0) else (Fr.no,6):=by
  unfold wr iR;rw [Int.natAbs_natCast] at c2
  rcases c1 with ⟨a1,a2,a3⟩|⟨a1,a2⟩<;>rcases c2 with ⟨b1,b2,b3⟩|⟨b1,b2⟩<;>subst a2<;>subst b2<;>rw [a1,b1]
  ·subst a3;subst b3;rfl
  ·rfl
  ·rfl
  ·rfl
 rw [hw];have d1:k1=0∨k1=6:=c1.elim (fun h=>.inl h.2.1) (fun h=>.inr h.2);have d2:k2=0∨k2=6:=c2.elim (fun h=>.inl h.2.1) (fun h=>.inr h.2);clear hw e1 e2 c1 c2 h1 h2 NN ND
 rcases d1 with rfl|rfl<;>rcases d2 with rfl|rfl
 ·rw [if_pos ⟨rfl,rfl⟩];go_enter Tryz.func75,Tryz.ntmps75
  go_wp2_with fail
  obtain ⟨fI,EW,hz,X1,X2⟩:=yB w #[.bool bn,.slice pn ln cn,.bool bd,.slice pd ld cd] 123 #[.string ⟨#[]⟩,.string ⟨#[]⟩] 59;rw [EW];have hk2:=Bt (Below.refl _ _) hz;clear EW hz;refine (H1.out _ hk2).mono ?_;rintro e kV ⟨rfl,hb3⟩;replace X1:=X1.bl hb3;replace X2:=X2.bl hb3;have hk5:=Bt hk2 hb3;clear hk2;clear hb3;obtain ⟨jd,iY,iZ⟩:=X1.clf;go_wp2_with fail
  clear jd iY iZ;refine (H2.out _ hk5).mono ?_;rintro e rU ⟨rfl,hb6⟩;replace X1:=X1.bl hb6;replace X2:=X2.bl hb6;have BI:=Bt hk5 hb6;clear hk5;clear hb6;obtain ⟨nH,nD,nG⟩:=X2.clf;have hres:=X2.out;have tJ:=hres.cell;have tH:=hres.free;go_wp2_with fail
  refine aP rfl rfl aT Tryz.underlying59 rfl zk ?_;exact ⟨rfl,ah⟩
 ·rw [if_neg zo];go_enter Tryz.func75,Tryz.ntmps75
  go_wp2_with fail
  obtain ⟨fI,EW,hz,X1,X2⟩:=yB w #[.bool bn,.slice pn ln cn,.bool bd,.slice pd ld cd] 123 #[.string ⟨#[]⟩,.string ⟨#[]⟩] 59;rw [EW];have hk2:=Bt (Below.refl _ _) hz;clear EW hz;refine (H1.out _ hk2).mono ?_;rintro e kV ⟨rfl,hb3⟩;replace X1:=X1.bl hb3;replace X2:=X2.bl hb3;have hk5:=Bt hk2 hb3;clear hk2;clear hb3;obtain ⟨jd,iY,iZ⟩:=X1.clf;go_wp2_with fail
  clear jd iY iZ;refine (H2.out _ hk5).mono ?_;rintro e rU ⟨rfl,hb6⟩;replace X1:=X1.bl hb6;replace X2:=X2.bl hb6;have BI:=Bt hk5 hb6;clear hk5;clear hb6;obtain ⟨nH,nD,nG⟩:=X2.clf;have hres:=X2.out;have tJ:=hres.cell;have tH:=hres.free;go_wp2_with fail
  refine aP rfl rfl aT Tryz.underlying59 rfl zk ?_;exact ⟨rfl,ah⟩
 ·rw [if_neg zo];go_enter Tryz.func75,Tryz.ntmps75
  go_wp2_with fail
  obtain ⟨fI,EW,hz,X1,X2⟩:=yB w #[.bool bn,.slice pn ln cn,.bool bd,.slice pd ld cd] 123 #[.string ⟨#[]⟩,.string ⟨#[]⟩] 59;rw [EW];have hk2:=Bt (Below.refl _ _) hz;clear EW hz;refine (H1.out _ hk2).mono ?_;rintro e kV ⟨rfl,hb3⟩;replace X1:=X1.bl hb3;replace X2:=X2.bl hb3;have hk5:=Bt hk2 hb3;clear hk2;clear hb3;obtain ⟨jd,iY,iZ⟩:=X1.clf;go_wp2_with fail
  clear jd iY iZ;refine (H2.out _ hk5).mono ?_;rintro e rU ⟨rfl,hb6⟩;replace X1:=X1.bl hb6;replace X2:=X2.bl hb6;have BI:=Bt hk5 hb6;clear hk5;clear hb6;obtain ⟨nH,nD,nG⟩:=X2.clf;have hres:=X2.out;have tJ:=hres.cell;have tH:=hres.free;go_wp2_with fail
  refine aP rfl rfl aT Tryz.underlying59 rfl zk ?_;exact ⟨rfl,ah⟩
 ·rw [if_neg zo];go_enter Tryz.func75,Tryz.ntmps75
  go_wp2_with fail
  obtain ⟨fI,EW,hz,X1,X2⟩:=yB w #[.bool bn,.slice pn ln cn,.bool bd,.slice pd ld cd] 123 #[.string ⟨#[]⟩,.string ⟨#[]⟩] 59;rw [EW];have hk2:=Bt (Below.refl _ _) hz;clear EW hz;refine (H1.out _ hk2).mono ?_;rintro e kV ⟨rfl,hb3⟩;replace X1:=X1.bl hb3;replace X2:=X2.bl hb3;have hk5:=Bt hk2 hb3;clear hk2;clear hb3;obtain ⟨jd,iY,iZ⟩:=X1.clf;go_wp2_with fail
  clear jd iY iZ;refine (H2.out _ hk5).mono ?_;rintro e rU ⟨rfl,hb6⟩;replace X1:=X1.bl hb6;replace X2:=X2.bl hb6;have BI:=Bt hk5 hb6;clear hk5;clear hb6;obtain ⟨nH,nD,nG⟩:=X2.clf;have hres:=X2.out;have tJ:=hres.cell;have tH:=hres.free;go_wp2_with fail
  refine aP rfl rfl aT Tryz.underlying59 rfl zk ?_;exact ⟨rfl,ah⟩
theorem zG {n d:Int} (hd:d≠0):((n:Rat) / (d:Rat)).num.natAbs≤n.natAbs∧((n:Rat) / (d:Rat)).den≤d.natAbs:=by
 have key:∀ n d:Int,0<d→((n:Rat) / (d:Rat)).num.natAbs≤n.natAbs∧((n:Rat) / (d:Rat)).den≤d.natAbs:=fun n d hd=>by
  obtain ⟨e1,e2⟩:=wB (n:=n) hd;have g1:=Nat.gcd_dvd_left n.natAbs d.natAbs;have g2:=Nat.gcd_dvd_right n.natAbs d.natAbs;have g0:0<Nat.gcd n.natAbs d.natAbs:=Nat.gcd_pos_of_pos_right _ zo;generalize Nat.gcd n.natAbs d.natAbs=g at *;generalize ((n:Rat) / (d:Rat))=q at *;obtain ⟨a,ha⟩:=g1;obtain ⟨b,hb⟩:=g2
  have h1:n=(g:Int)*(if 0≤n then (a:Int) else -(a:Int)):=by
   have:=congrArg (fun x:Nat=>(x:Int)) ha;simp only [Int.natCast_mul] at this;split
   ·omega
   ·rw [Int.mul_neg];omega
  have h2:d=(g:Int)*(b:Int):=by
   have:=congrArg (fun x:Nat=>(x:Int)) hb;simp only [Int.natCast_mul] at this;omega
  have h3:n / (g:Int)=(if 0≤n then (a:Int) else -(a:Int)):=by
   conv=>lhs;rw [h1]
   exact Int.mul_ediv_cancel_left _ zo
  have h4:d / (g:Int)=(b:Int):=by
   rw [h2];exact Int.mul_ediv_cancel_left _ zo
  rw [h3] at e1;rw [h4] at e2;have k1:a≤g*a:=Nat.le_mul_of_pos_left _ g0;have k2:b≤g*b:=Nat.le_mul_of_pos_left _ g0;refine ⟨?_,?_⟩
  ·rw [e1,ha];split<;>simp<;>exact k1
  ·rw [hb];have:q.den=b:=by exact_mod_cast e2
   omega
 by_cases h:0<d
 ·exact key n d h
 ·have:=key (-n) (-d) zo;rw [show ((-n:Int):Rat) / ((-d:Int):Rat)=(n:Rat) / (d:Rat) by rw [Rat.intCast_neg,Rat.intCast_neg,Rat.div_def,Rat.div_def];grind,Int.natAbs_neg,Int.natAbs_neg] at this;exact this
theorem Dk {n:Int} (h1: -9223372036854775808≤n) (h2:n≤9223372036854775807):sz 10000 n.natAbs≤5 :=
 aW zo 5 _ zo
theorem A8 (n d:Int) (h1: -9223372036854775808≤n) (h2:n≤9223372036854775807) (h3: -9223372036854775808≤d) (h4:d≤9223372036854775807) (hd:d≠0) (w:World) :
  Calls Tryz.prog 127 #[.int .i64 n,.int .i64 d] w (mY w ((n:Rat) / (d:Rat))):=by
 have H1:=zh (fun W=>iP n W h1 h2);have H2:=zh (fun W=>iP d W h3 h4);have H3:=zh (fun x y W hx hy=>wQ x y n d W hx hy (Nat.le_trans (Dk h1 h2) zo) (Nat.le_trans (Dk h3 h4) zo) hd);generalize (n:Rat) / (d:Rat)=q at *;clear h1 h2 h3 h4 hd;go_enter Tryz.func127,Tryz.ntmps127
 go_wp2_with fail
 obtain ⟨fI,EW,hz,X1⟩:=oz w #[.bool false,.slice none 0 0,.bool false,.slice none 0 0] 123;rw [EW];have hk2:=Bt (Below.refl _ _) hz;clear EW hz;refine (H1.out _).mono ?_;rintro e kV ⟨v,rfl,hb3,hv4⟩;obtain ⟨bA,jJ,lA,jN,rfl⟩:=hv4.agg;replace X1:=X1.bl hb3;have hk5:=Bt hk2 hb3;clear hk2;have NA:=zh hv4;clear hb3 hv4;go_wp2_with fail
 refine (H2.out _).mono ?_;rintro e rU ⟨v,rfl,hb6,hv7⟩;obtain ⟨bB,nu,lB,nC,rfl⟩:=hv7.agg;replace X1:=X1.bl hb6;replace NA:=zh (NA.out.later hb6);have BI:=Bt hk5 hb6;clear hk5;have NB:=zh hv7;clear hb6 hv7;go_wp2_with fail
 refine (H3.out _ _ _ NA.out NB.out).mono ?_;rintro e wc9 ⟨_,rfl,nU,bn,pn,ln,cn,bd,pd,ld,cd,rfl,hn,hd⟩;replace X1:=X1.bl nU;replace NA:=zh (NA.out.later nU);replace NB:=zh (NB.out.later nU);have D7:=Bt BI nU;clear BI;have NX:=zh hn;have NY:=zh hd;clear nU hd hn;obtain ⟨jd,iY,iZ⟩:=X1.clf;have hres:=X1.out;have tJ:=hres.cell;have tH:=hres.free;go_wp2_with fail
 refine dG rfl rfl aT Tryz.underlying123 rfl zk ?_;have hx:=Pl.rW NX.out hres zd (.bool bn) (.slice pn ln cn) (.bool bd) (.slice pd ld cd);have hy:=Pl.rW NY.out hres zd (.bool bn) (.slice pn ln cn) (.bool bd) (.slice pd ld cd);exact ⟨_,rfl,ah,_,_,_,_,_,_,_,_,rfl,hx,hy⟩
end Go.Proofs.aH
