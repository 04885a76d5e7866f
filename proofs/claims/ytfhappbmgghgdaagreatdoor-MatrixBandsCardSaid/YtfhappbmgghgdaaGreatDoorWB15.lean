/- Lemmas for the proof. No condition. -/
import Derived.Test.YtfhappbmgghgdaaGreatDoorWB01
import Derived.Test.YtfhappbmgghgdaaGreatDoorWB03
import Derived.Test.YtfhappbmgghgdaaGreatDoorWB04
import Derived.Test.YtfhappbmgghgdaaGreatDoorWB07
import Derived.Test.YtfhappbmgghgdaaGreatDoorWB13
import Derived.Test.YtfhappbmgghgdaaGreatDoorWB14
import Derived.Laws.StructEq
import Derived.RegionTactic
set_option linter.unusedVariables false
set_option linter.unusedSimpArgs false
set_option maxRecDepth 100000
set_option maxHeartbeats 16000000
namespace Go.Proofs.aH
open Go Go.RowKit Go.SW Go.Num Go.Mem Go.Proofs Go.Dec Go.Proofs.aC Go.cK
theorem yS {n k:Nat} (h:sz 1000000000 n≤k):sz 10000 n≤3*k:=by
 refine aW zo _ _ ?_;have h1:=fO (B:=1000000000) zo n;have h2:(1000000000:Nat)^sz 1000000000 n≤1000000000^k:=Nat.pow_le_pow_right zo h;have h3:(1000000000:Nat)^k≤(10000^3)^k:=Nat.pow_le_pow_left zd k;rw [Nat.pow_mul];omega
theorem uG (q:Rat):q=(q.num:Rat) / ((q.den:Int):Rat):=by
 have:=Rat.mkRat_self q;rw [Rat.mkRat_eq_div] at this;exact this.symm
theorem Lg (q:Rat):((q.den:Int):Rat)≠0:=fun e=>by
 have h:(q.den:Int)=0:=by exact_mod_cast e
 have:=q.den_pos;omega
theorem UQ (p q:Rat):((p.num*q.num:Int):Rat) / (((p.den:Int)*(q.den:Int):Int):Rat)=p*q:=by
 have h1:=uG p;have h2:=uG q;have d1:=Lg p;have d2:=Lg q;rw [Rat.intCast_mul,Rat.intCast_mul];generalize (p.num:Rat)=a at *;generalize ((p.den:Int):Rat)=b at *;generalize (q.num:Rat)=c at *;generalize ((q.den:Int):Rat)=d at *;subst h1 h2
 grind
theorem Za (p q:Rat):((p.num*(q.den:Int)+q.num*(p.den:Int):Int):Rat) / (((p.den:Int)*(q.den:Int):Int):Rat)=p+q:=by
 have h1:=uG p;have h2:=uG q;have d1:=Lg p;have d2:=Lg q;rw [Rat.intCast_add,Rat.intCast_mul,Rat.intCast_mul,Rat.intCast_mul];generalize (p.num:Rat)=a at *;generalize ((p.den:Int):Rat)=b at *;generalize (q.num:Rat)=c at *;generalize ((q.den:Int):Rat)=d at *;subst h1 h2
 grind
theorem kL.four {k:Nat} {q:Rat} (h:kL k q):sz 10000 q.num.natAbs≤3*k∧sz 10000 (q.den:Int).natAbs≤3*k:=⟨yS h.1,by rw [Int.natAbs_natCast];exact yS h.2⟩
theorem oQ {a b:Int} {m n:Nat} (h:sz 10000 a.natAbs≤m) (k:sz 10000 b.natAbs≤n):sz 10000 (a*b).natAbs≤m+n:=by
 rw [Int.natAbs_mul];have:=jC (B:=10000) zo a.natAbs b.natAbs;omega
theorem UU {a b:Int} {m:Nat} (h:sz 10000 a.natAbs≤m) (k:sz 10000 b.natAbs≤m):sz 10000 (a+b).natAbs≤m+1:=by
 have h1:=dM (B:=10000) zo (Int.natAbs_add_le a b);have h2:=Dl (B:=10000) zo a.natAbs b.natAbs;omega
theorem rP (x:Value) (p:Rat) (w:World) (hx:Ra w x p):Calls Tryz.prog 82 #[x] w (mY w (-p)):=by
 obtain ⟨bA,jJ,lA,jN,Tx,zq,Ro,AL,rfl,hA1,hA2⟩:=id hx;have QA:=zh hx;have NA:=zh hA1;have su:=zh hA2;obtain ⟨z,ez⟩:∃ z,p.num=z:=⟨_,rfl⟩;obtain ⟨d,ed⟩:∃ d,p.den=d:=⟨_,rfl⟩
 have hq:∀ w v,Ra w v (-p)↔∃ bn pn ln cn bd pd ld cd,v= .agg #[.bool bn,.slice pn ln cn,.bool bd,.slice pd ld cd]∧Pl w (.agg #[.bool bn,.slice pn ln cn]) (-z)∧Pl w (.agg #[.bool bd,.slice pd ld cd]) d:=fun w v=>by
  unfold Ra;rw [Rat.neg_num,Rat.neg_den,ez,ed]
 have HQ:=zh hq;rw [ez] at NA;rw [ed] at su;clear hx hA1 hA2 ez ed hq;go_enter Tryz.func82,Tryz.ntmps82
 go_wp2_with fail
 obtain ⟨fI,EW,hz,X1,X2⟩:=yB w #[.bool bA,.slice jJ lA jN,.bool Tx,.slice zq Ro AL] 123 #[.bool false,.slice none 0 0,.bool false,.slice none 0 0] 123;rw [EW];replace NA:=zh (NA.out.later hz);replace su:=zh (su.out.later hz);have hk2:=Bt (Below.refl _ _) hz;clear EW hz;obtain ⟨jd,iY,iZ⟩:=X1.clf;refine aD [(.pure,0),(.read,1),(.pure,3),(.read,4),(.ext,2),(.pure,5),(.fin,6)] zk zk zR zP ?_;refine zV ?_;refine aG rfl rfl (fun Db hb3 J hJ=>?_);go_simp;have hh3:Below fI.heap.size fI Db:=ah;clear hb3;refine (aC.rP _ _ _ (NA.out.later hh3)).mono ?_;rintro e vQ ⟨v,rfl,hb4,hv5⟩;obtain ⟨bB,nu,lB,nC,rfl⟩:=hv5.agg;refine hJ _ _ hb4 ?_;clear hJ J;have uQ:=Bt hh3 hb4;have NB:=zh hv5;clear hh3 hb4 hv5;refine zV ?_;refine aL [_] rfl (fun wf6 hf6=>?_);replace NB:=zh (NB.out.later (show Below vQ.heap.size vQ wf6 from ah))
 have jK:Below fI.heap.size fI wf6:=Bt uQ ah;clear hf6 uQ;clear jd iY iZ;replace NA:=zh (NA.out.later jK);replace su:=zh (su.out.later jK);replace X1:=X1.bl jK;replace X2:=X2.bl jK;have hk7:=Bt hk2 jK;clear hk2;clear jK;obtain ⟨nH,nD,nG⟩:=X2.clf;have hres:=X2.out;have tJ:=hres.cell;have tH:=hres.free;go_wp2_with fail
 refine dG rfl rfl aT Tryz.underlying123 rfl zk ?_;exact ⟨_,rfl,ah,(HQ.out _ _).2 ⟨_,_,_,_,_,_,_,_,rfl,Pl.rW NB.out hres zd _ _ _ _,Pl.rW su.out hres zd _ _ _ _⟩⟩
theorem ig (x y:Value) (p q:Rat) (w:World) (hx:Ra w x p) (hy:Ra w y q) (h1:kL 10000000000 p) (h2:kL 10000000000 q):Calls Tryz.prog 129 #[x,y] w (mY w (p*q)):=by
 obtain ⟨bA,jJ,lA,jN,Tx,zq,Ro,AL,rfl,hA1,hA2⟩:=id hx;obtain ⟨bB,nu,lB,nC,bBd,Jz,Zu,Ki,rfl,hB1,hB2⟩:=id hy;have QA:=zh hx;have NA:=zh hA1;have su:=zh hA2;have QB:=zh hy;have NB:=zh hB1;have CS:=zh hB2;obtain ⟨s1,s2⟩:=kL.four h1;obtain ⟨s3,s4⟩:=kL.four h2;have S1:Hid (sz 10000 p.num.natAbs≤549755813888):=zh zo;have S2:Hid (sz 10000 (p.den:Int).natAbs≤549755813888):=zh zo;have S3:Hid (sz 10000 q.num.natAbs≤549755813888):=zh zo;have S4:Hid (sz 10000 (q.den:Int).natAbs≤549755813888):=zh zo;have L1:Hid (sz 10000 (p.num*q.num).natAbs≤274877906944):=zh (by have:=oQ s1 s3;omega);have L2:Hid (sz 10000 ((p.den:Int)*(q.den:Int)).natAbs≤274877906944):=zh (by have:=oQ s2 s4;omega);have L3:Hid ((p.den:Int)*(q.den:Int)≠0):=zh (Int.mul_ne_zero (by have:=p.den_pos;omega) (by have:=q.den_pos;omega))
 have HL:=zh (fun x y w hx hy=>wQ x y (p.num*q.num) ((p.den:Int)*(q.den:Int)) w hx hy L1.out L2.out L3.out);rw [UQ] at HL;clear hx hy hA1 hA2 hB1 hB2 h1 h2 s1 s2 s3 s4 L1 L2 L3;go_enter Tryz.func129,Tryz.ntmps129
 go_wp2_with fail
 obtain ⟨fI,EW,hz,X1,X2,X3⟩:=I7 w #[.bool bA,.slice jJ lA jN,.bool Tx,.slice zq Ro AL] 123 #[.bool bB,.slice nu lB nC,.bool bBd,.slice Jz Zu Ki] 123 #[.bool false,.slice none 0 0,.bool false,.slice none 0 0] 123;rw [EW];replace NA:=zh (NA.out.later hz);replace su:=zh (su.out.later hz);replace NB:=zh (NB.out.later hz);replace CS:=zh (CS.out.later hz);have hk2:=Bt (Below.refl _ _) hz;clear EW hz;obtain ⟨jd,iY,iZ⟩:=X1.clf;obtain ⟨nH,nD,nG⟩:=X2.clf;refine aD [(.pure,0),(.read,1),(.pure,2),(.read,3),(.pure,5),(.read,6),(.pure,7),(.read,8),(.ext,4),(.ext,9),(.ext,10),(.fin,11)] zk zk zR zP ?_;refine zV ?_;refine aG rfl rfl (fun Db hb3 J hJ=>?_);go_simp;have hh3:Below fI.heap.size fI Db:=ah;clear hb3;refine (aC.ig _ _ _ _ _ (NA.out.later hh3) (NB.out.later hh3) S1.out S3.out).mono ?_;rintro e vQ ⟨v,rfl,hb4,hv5⟩
 obtain ⟨bC,GA,lC,Iq,rfl⟩:=hv5.agg;refine hJ _ _ hb4 ?_;clear hJ J;have uQ:=Bt hh3 hb4;have NC:=zh hv5;clear hh3 hb4 hv5;refine zV ?_;refine aG rfl rfl (fun sO hb6 J hJ=>?_);go_simp;have jK:Below fI.heap.size fI sO:=Bt uQ ah;replace NC:=zh (NC.out.later (show Below vQ.heap.size vQ sO from ah));clear hb6 uQ;refine (aC.ig _ _ _ _ _ (su.out.later jK) (CS.out.later jK) S2.out S4.out).mono ?_;rintro e kM ⟨v,rfl,gM,kP⟩;obtain ⟨bD,IX,lD,I6,rfl⟩:=kP.agg;refine hJ _ _ gM ?_;clear hJ J;have qN:=Bt jK gM;replace NC:=zh (NC.out.later gM);have ND:=zh kP;clear jK gM kP;refine zV ?_;refine aG rfl rfl (fun uf nU J hJ=>?_);go_simp;have jg:Below fI.heap.size fI uf:=Bt qN ah;replace NC:=zh (NC.out.later (show Below kM.heap.size kM uf from ah));replace ND:=zh (ND.out.later (show Below kM.heap.size kM uf from ah))
 clear nU qN;refine (HL.out _ _ _ NC.out ND.out).mono ?_;rintro e fV ⟨v,rfl,eO,kQ⟩;obtain ⟨bE,paE,lE,caE,bEd,ax4,lEd,aC2,rfl,ay9,ay7⟩:=id kQ;refine hJ _ _ eO ?_;clear hJ J;have jS:=Bt jg eO;replace NC:=zh (NC.out.later eO);replace ND:=zh (ND.out.later eO);have QE:=zh kQ;clear jg eO kQ ay9 ay7;refine zV ?_;refine aL [_] rfl (fun rT JQ=>?_);replace NC:=zh (NC.out.later (show Below fV.heap.size fV rT from ah));replace ND:=zh (ND.out.later (show Below fV.heap.size fV rT from ah));replace QE:=zh (QE.out.later (show Below fV.heap.size fV rT from ah));have hh12:Below fI.heap.size fI rT:=Bt jS ah;clear JQ jS;clear jd iY iZ nH nD nG;replace NA:=zh (NA.out.later hh12);replace su:=zh (su.out.later hh12);replace NB:=zh (NB.out.later hh12);replace CS:=zh (CS.out.later hh12);replace X1:=X1.bl hh12
 replace X2:=X2.bl hh12;replace X3:=X3.bl hh12;have VN:=Bt hk2 hh12;clear hk2;clear hh12;clear NC;clear ND;obtain ⟨Pp,Pf,Pj⟩:=X3.clf;have hres:=X3.out;have tJ:=hres.cell;have tH:=hres.free;go_wp2_with fail
 refine dG rfl rfl aT Tryz.underlying123 rfl zk ?_;exact ⟨_,rfl,ah,Ra.rW QE.out hres zd _ _ _ _⟩
theorem pR (x y:Value) (p q:Rat) (w:World) (hx:Ra w x p) (hy:Ra w y q) (h1:kL 10000000000 p) (h2:kL 10000000000 q):Calls Tryz.prog 128 #[x,y] w (mY w (p+q)):=by
 obtain ⟨bA,jJ,lA,jN,Tx,zq,Ro,AL,rfl,hA1,hA2⟩:=id hx;obtain ⟨bB,nu,lB,nC,bBd,Jz,Zu,Ki,rfl,hB1,hB2⟩:=id hy;have QA:=zh hx;have NA:=zh hA1;have su:=zh hA2;have QB:=zh hy;have NB:=zh hB1;have CS:=zh hB2;obtain ⟨s1,s2⟩:=kL.four h1;obtain ⟨s3,s4⟩:=kL.four h2;have S1:Hid (sz 10000 p.num.natAbs≤549755813888):=zh zo;have S2:Hid (sz 10000 (p.den:Int).natAbs≤549755813888):=zh zo;have S3:Hid (sz 10000 q.num.natAbs≤549755813888):=zh zo;have S4:Hid (sz 10000 (q.den:Int).natAbs≤549755813888):=zh zo;have a1:=oQ s1 s4;have a2:=oQ s3 s2;have P1:Hid (sz 10000 (p.num*(q.den:Int)).natAbs≤549755813888):=zh zo;have P2:Hid (sz 10000 (q.num*(p.den:Int)).natAbs≤549755813888):=zh zo;have L1:Hid (sz 10000 (p.num*(q.den:Int)+q.num*(p.den:Int)).natAbs≤274877906944):=zh (by have:=UU a1 a2;omega)
 have L2:Hid (sz 10000 ((p.den:Int)*(q.den:Int)).natAbs≤274877906944):=zh (by have:=oQ s2 s4;omega);have L3:Hid ((p.den:Int)*(q.den:Int)≠0):=zh (Int.mul_ne_zero (by have:=p.den_pos;omega) (by have:=q.den_pos;omega));have HL:=zh (fun x y w hx hy=>wQ x y (p.num*(q.den:Int)+q.num*(p.den:Int)) ((p.den:Int)*(q.den:Int)) w hx hy L1.out L2.out L3.out);rw [Za] at HL;clear hx hy hA1 hA2 hB1 hB2 h1 h2 s1 s2 s3 s4 L1 L2 L3 a1 a2;go_enter Tryz.func128,Tryz.ntmps128
 go_wp2_with fail
 obtain ⟨fI,EW,hz,X1,X2,X3⟩:=I7 w #[.bool bA,.slice jJ lA jN,.bool Tx,.slice zq Ro AL] 123 #[.bool bB,.slice nu lB nC,.bool bBd,.slice Jz Zu Ki] 123 #[.bool false,.slice none 0 0,.bool false,.slice none 0 0] 123;rw [EW];replace NA:=zh (NA.out.later hz);replace su:=zh (su.out.later hz);replace NB:=zh (NB.out.later hz);replace CS:=zh (CS.out.later hz);have hk2:=Bt (Below.refl _ _) hz;clear EW hz;obtain ⟨jd,iY,iZ⟩:=X1.clf;obtain ⟨nH,nD,nG⟩:=X2.clf;refine aD [(.pure,0),(.read,1),(.pure,2),(.read,3),(.pure,5),(.read,6),(.pure,7),(.read,8),(.ext,4),(.ext,9),(.ext,10),(.alloc #[.bool false,.slice none 0 0] 121,11),(.fin,12)] zk zk zR zP ?_;refine zV ?_;refine aG rfl rfl (fun Db hb3 J hJ=>?_);go_simp;have hh3:Below fI.heap.size fI Db:=ah;clear hb3
 refine (aC.ig _ _ _ _ _ (NA.out.later hh3) (CS.out.later hh3) S1.out S4.out).mono ?_;rintro e vQ ⟨v,rfl,hb4,hv5⟩;obtain ⟨bC,GA,lC,Iq,rfl⟩:=hv5.agg;refine hJ _ _ hb4 ?_;clear hJ J;have uQ:=Bt hh3 hb4;have NC:=zh hv5;clear hh3 hb4 hv5;refine zV ?_;refine aG rfl rfl (fun sO hb6 J hJ=>?_);go_simp;have jK:Below fI.heap.size fI sO:=Bt uQ ah;replace NC:=zh (NC.out.later (show Below vQ.heap.size vQ sO from ah));clear hb6 uQ;refine (aC.ig _ _ _ _ _ (NB.out.later jK) (su.out.later jK) S3.out S2.out).mono ?_;rintro e kM ⟨v,rfl,gM,kP⟩;obtain ⟨bD,IX,lD,I6,rfl⟩:=kP.agg;refine hJ _ _ gM ?_;clear hJ J;have qN:=Bt jK gM;replace NC:=zh (NC.out.later gM);have ND:=zh kP;clear jK gM kP;refine zV ?_;refine aG rfl rfl (fun uf nU J hJ=>?_);go_simp;have jg:Below fI.heap.size fI uf:=Bt qN ah
 replace NC:=zh (NC.out.later (show Below kM.heap.size kM uf from ah));replace ND:=zh (ND.out.later (show Below kM.heap.size kM uf from ah));clear nU qN;refine (aC.pR _ _ _ _ _ NC.out ND.out P1.out P2.out).mono ?_;rintro e fV ⟨v,rfl,eO,kQ⟩;obtain ⟨bF,paF,lF,caF,rfl⟩:=kQ.agg;refine hJ _ _ eO ?_;clear hJ J;have jS:=Bt jg eO;replace NC:=zh (NC.out.later eO);replace ND:=zh (ND.out.later eO);have NF:=zh kQ;clear jg eO kQ;refine zV ?_;refine aX rfl (fun gW aj0 G8 jG uP Al iy=>?_);go_simp;replace iy:au _ _ _ _:=iy;have Ai:w.heap.size≤gW:=(by first|omega|exact Nat.le_trans (Below.size (B:=w.heap.size) ah) jG);refine aL [_] rfl (fun PG ap6=>?_);replace NC:=zh (NC.out.later (show Below fV.heap.size fV PG from ah))
 replace ND:=zh (ND.out.later (show Below fV.heap.size fV PG from ah));replace NF:=zh (NF.out.later (show Below fV.heap.size fV PG from ah));have zY:Below fI.heap.size fI PG:=Bt jS ah;have hq0:=iy.later ap6;have SK:=hq0.cell;have Sd:=hq0.free;clear iy ap6 jS;clear jd iY iZ nH nD nG;go_wp2_with fail
 obtain ⟨FZ,EW⟩:∃ y,((PG.setCell ⟨gW,0,none⟩ (.bool bF)).setCell ⟨gW,1,none⟩ (.slice paF lF caF))=y:=⟨_,rfl⟩;have hz:Below fI.heap.size fI FZ:=by rw [← EW];exact ((zY.setCell jG _).setCell jG _)
 have X4:Hid (au FZ gW #[.bool bF,.slice paF lF caF] 121):=zh (by rw [← EW];exact ((hq0.set 0 _).set 1 _));clear NC;clear ND;have t:=((NF.out.setOther hq0 zd 0 (.bool bF)).setOther (hq0.set 0 _) zd 1 (.slice paF lF caF));rw [EW] at t;replace NF:=zh t;clear t;rw [EW];clear EW hq0 SK Sd zY;replace NA:=zh (NA.out.later hz);replace su:=zh (su.out.later hz);replace NB:=zh (NB.out.later hz);replace CS:=zh (CS.out.later hz);replace X1:=X1.bl hz;replace X2:=X2.bl hz;replace X3:=X3.bl hz;have RQ:=Bt hk2 hz;clear hk2;clear hz;clear G8 jG uP Al Ai;go_wp2_with fail
 obtain ⟨Oz,N7,Om⟩:=X4.clf;obtain ⟨jd,iY,iZ⟩:=X1.clf;obtain ⟨nH,nD,nG⟩:=X2.clf;refine aD [(.read,0),(.pure,1),(.read,2),(.pure,3),(.read,4),(.ext,5),(.ext,6),(.fin,7)] zk zk zR zP ?_;refine zV ?_;refine aG rfl rfl (fun aw0 He J hJ=>?_);go_simp;have VO:Below FZ.heap.size FZ aw0:=ah;clear He;refine (aC.ig _ _ _ _ _ (su.out.later VO) (CS.out.later VO) S2.out S4.out).mono ?_;rintro e PN ⟨v,rfl,rY,ZF⟩;obtain ⟨bG,Qv,lG,Ti,rfl⟩:=ZF.agg;refine hJ _ _ rY ?_;clear hJ J;have zX:=Bt VO rY;have NG:=zh ZF;clear VO rY ZF;refine zV ?_;refine aG rfl rfl (fun ai6 VU J hJ=>?_);go_simp;have ZO:Below FZ.heap.size FZ ai6:=Bt zX ah;replace NG:=zh (NG.out.later (show Below PN.heap.size PN ai6 from ah));clear VU zX;refine (HL.out _ _ _ (NF.out.later ZO) NG.out).mono ?_
 rintro e PI ⟨v,rfl,tF,JL⟩;obtain ⟨bE,paE,lE,caE,bEd,ax4,lEd,aC2,rfl,ay8,ay6⟩:=id JL;refine hJ _ _ tF ?_;clear hJ J;have ap1:=Bt ZO tF;replace NG:=zh (NG.out.later tF);have QE:=zh JL;clear ZO tF JL ay8 ay6;refine zV ?_;refine aL [_] rfl (fun YM az9=>?_);replace NG:=zh (NG.out.later (show Below PI.heap.size PI YM from ah));replace QE:=zh (QE.out.later (show Below PI.heap.size PI YM from ah));have zQ:Below FZ.heap.size FZ YM:=Bt ap1 ah;clear az9 ap1;clear Oz N7 Om jd iY iZ nH nD nG;replace NA:=zh (NA.out.later zQ);replace su:=zh (su.out.later zQ);replace NB:=zh (NB.out.later zQ);replace CS:=zh (CS.out.later zQ);replace X1:=X1.bl zQ;replace X2:=X2.bl zQ;replace X3:=X3.bl zQ;replace X4:=X4.bl zQ;replace NF:=zh (NF.out.later zQ);have aL3:=Bt RQ zQ;clear RQ;clear zQ;clear NG
 obtain ⟨Pp,Pf,Pj⟩:=X3.clf;have hres:=X3.out;have tJ:=hres.cell;have tH:=hres.free;go_wp2_with fail
 refine dG rfl rfl aT Tryz.underlying123 rfl zk ?_;exact ⟨_,rfl,ah,Ra.rW QE.out hres zd _ _ _ _⟩
theorem aa8 (p q:Rat):vg (p.num*(q.den:Int)) (q.num*(p.den:Int))=Aw p q:=by
 rw [← Gi];unfold vg sV;split
 ·rw [if_neg zo,if_pos zo]
 ·split
  ·rw [if_neg zo,if_neg zo]
  ·rw [if_pos zo]
theorem jW (x y:Value) (p q:Rat) (w:World) (hx:Ra w x p) (hy:Ra w y q) (h1:kL 10000000000 p) (h2:kL 10000000000 q):Calls Tryz.prog 237 #[x,y] w (fun e w'=>e= .returned (.int .i64 (Aw p q))∧Below w.heap.size w w'):=by
 obtain ⟨bA,jJ,lA,jN,Tx,zq,Ro,AL,rfl,hA1,hA2⟩:=id hx;obtain ⟨bB,nu,lB,nC,bBd,Jz,Zu,Ki,rfl,hB1,hB2⟩:=id hy;have QA:=zh hx;have NA:=zh hA1;have su:=zh hA2;have QB:=zh hy;have NB:=zh hB1;have CS:=zh hB2;obtain ⟨s1,s2⟩:=kL.four h1;obtain ⟨s3,s4⟩:=kL.four h2;have S1:Hid (sz 10000 p.num.natAbs≤549755813888):=zh zo;have S2:Hid (sz 10000 (p.den:Int).natAbs≤549755813888):=zh zo;have S3:Hid (sz 10000 q.num.natAbs≤549755813888):=zh zo;have S4:Hid (sz 10000 (q.den:Int).natAbs≤549755813888):=zh zo;have a1:=oQ s1 s4;have a2:=oQ s3 s2;have P1:Hid (sz 10000 (p.num*(q.den:Int)).natAbs≤549755813888):=zh zo;have P2:Hid (sz 10000 (q.num*(p.den:Int)).natAbs≤549755813888):=zh zo;have HO:=zh (fun x y w hx hy=>aC.jW x y (p.num*(q.den:Int)) (q.num*(p.den:Int)) w hx hy P1.out P2.out);rw [aa8] at HO;clear hx hy hA1 hA2 hB1 hB2 h1 h2 s1 s2 s3 s4 a1 a2
 generalize Aw p q=cc at *;go_enter Tryz.func237,Tryz.ntmps237
 go_wp2_with fail
 obtain ⟨fI,EW,hz,X1,X2⟩:=yB w #[.bool bA,.slice jJ lA jN,.bool Tx,.slice zq Ro AL] 123 #[.bool bB,.slice nu lB nC,.bool bBd,.slice Jz Zu Ki] 123;rw [EW];replace NA:=zh (NA.out.later hz);replace su:=zh (su.out.later hz);replace NB:=zh (NB.out.later hz);replace CS:=zh (CS.out.later hz);have hk2:=Bt (Below.refl _ _) hz;clear EW hz;obtain ⟨jd,iY,iZ⟩:=X1.clf;obtain ⟨nH,nD,nG⟩:=X2.clf;refine aD [(.pure,0),(.read,1),(.pure,2),(.read,3),(.pure,5),(.read,6),(.pure,7),(.read,8),(.ext,4),(.ext,9),(.ext,10),(.fin,11)] zk zk zR zP ?_;refine zV ?_;refine aG rfl rfl (fun Db hb3 J hJ=>?_);go_simp;have hh3:Below fI.heap.size fI Db:=ah;clear hb3;refine (aC.ig _ _ _ _ _ (NA.out.later hh3) (CS.out.later hh3) S1.out S4.out).mono ?_;rintro e vQ ⟨v,rfl,hb4,hv5⟩;obtain ⟨bC,GA,lC,Iq,rfl⟩:=hv5.agg;refine hJ _ _ hb4 ?_;clear hJ J
 have uQ:=Bt hh3 hb4;have NC:=zh hv5;clear hh3 hb4 hv5;refine zV ?_;refine aG rfl rfl (fun sO hb6 J hJ=>?_);go_simp;have jK:Below fI.heap.size fI sO:=Bt uQ ah;replace NC:=zh (NC.out.later (show Below vQ.heap.size vQ sO from ah));clear hb6 uQ;refine (aC.ig _ _ _ _ _ (NB.out.later jK) (su.out.later jK) S3.out S2.out).mono ?_;rintro e kM ⟨v,rfl,gM,kP⟩;obtain ⟨bD,IX,lD,I6,rfl⟩:=kP.agg;refine hJ _ _ gM ?_;clear hJ J;have qN:=Bt jK gM;replace NC:=zh (NC.out.later gM);have ND:=zh kP;clear jK gM kP;refine zV ?_;refine aG rfl rfl (fun uf nU J hJ=>?_);go_simp;have jg:Below fI.heap.size fI uf:=Bt qN ah;replace NC:=zh (NC.out.later (show Below kM.heap.size kM uf from ah));replace ND:=zh (ND.out.later (show Below kM.heap.size kM uf from ah));clear nU qN;refine (HO.out _ _ _ NC.out ND.out).mono ?_
 rintro e fV ⟨rfl,eO⟩;refine hJ _ _ eO ?_;clear hJ J;have jS:=Bt jg eO;replace NC:=zh (NC.out.later eO);replace ND:=zh (ND.out.later eO);clear jg eO;refine zV ?_;refine aL [_] rfl (fun rT JQ=>?_);replace NC:=zh (NC.out.later (show Below fV.heap.size fV rT from ah));replace ND:=zh (ND.out.later (show Below fV.heap.size fV rT from ah));have hh12:Below fI.heap.size fI rT:=Bt jS ah;clear JQ jS;clear jd iY iZ nH nD nG;replace NA:=zh (NA.out.later hh12);replace su:=zh (su.out.later hh12);replace NB:=zh (NB.out.later hh12);replace CS:=zh (CS.out.later hh12);replace X1:=X1.bl hh12;replace X2:=X2.bl hh12;have VN:=Bt hk2 hh12;clear hk2;clear hh12;clear NC;clear ND;go_wp2_with fail
 go_ret
 exact ⟨rfl,VN⟩
theorem vG {s:ByteArray} {b:Bool} (h:(whole s.data.toList).isSome=b) (hs:s.size≤4611686018427387904) (W:World) :
  Calls Tryz.prog 166 #[.string s] W (fun e w'=>e= .returned (.bool b)∧Below W.heap.size W w') :=
 (aC.gK s W hs).mono fun _ _ h'=>⟨h ▸ h'.1,h'.2 ▸ Below.refl _ _⟩
def Fits (a:Fr):Prop:=a.n.size≤4611686018427387904∧a.d.size≤4611686018427387904
theorem Nk {s t:ByteArray} (h:whole s.data.toList=none):rd ⟨s,t⟩=none:=by unfold rd;simp only [h]
theorem Nl {s t:ByteArray} (h:whole t.data.toList=none):rd ⟨s,t⟩=none:=by
 unfold rd;simp only [h];cases whole s.data.toList<;>rfl
theorem Y4 {s t:ByteArray} {n d:Int} (h1:whole s.data.toList=some n) (h2:whole t.data.toList=some d):(rd ⟨s,t⟩).isSome=(decide (0<d)&&(Nat.gcd n.natAbs d.natAbs == 1)):=by
 unfold rd;simp only [h1,h2]
 by_cases h:0<d∧n.natAbs.Coprime d.natAbs
 ·rw [dif_pos h];rw [decide_eq_true h.1,show Nat.gcd n.natAbs d.natAbs=1 from h.2];rfl
 ·rw [dif_neg h];refine (Bool.eq_false_iff.2 fun e=>h ?_).symm;rw [Bool.and_eq_true,decide_eq_true_iff,beq_iff_eq] at e;exact e
theorem yH {bs:List UInt8} {z:Int} (h:whole bs=some z):sz 10000 z.natAbs≤201:=by
 have h1:=tq (dP.2 (j3 h).2);have:=yS h1;omega
theorem GD:(Lib.itoa ((1:Nat):Int)).toArray=#[49]:=by decide+kernel
theorem toList_inj {a b:ByteArray} (h:a.toList=b.toList):a=b:=by
 rw [ByteArray.toList_eq,ByteArray.toList_eq] at h;exact AQ h
theorem Vl {g:Nat} (h:g≠1):((⟨(Lib.itoa (g:Int)).toArray⟩:ByteArray) == ⟨#[49]⟩)=false:=by
 rw [beq_toListBytes,beq_eq_false_iff_ne];intro e;have e:=toList_inj e;simp only [ByteArray.mk.injEq] at e;rw [← GD] at e;have:=GR (List.toArray_inj e);omega
theorem Zw:((⟨(Lib.itoa ((1:Nat):Int)).toArray⟩:ByteArray) == ⟨#[49]⟩)=true:=by rw [GD,beq_toListBytes];exact beq_self_eq_true _
theorem gK (s t:ByteArray) (w:World) (h1:s.size≤4611686018427387904) (h2:t.size≤4611686018427387904) :
  Calls Tryz.prog 113 #[.agg #[.string s,.string t]] w (fun e w'=>e= .returned (.bool (rd ⟨s,t⟩).isSome)∧Below w.heap.size w w'):=by
 cases e1:whole s.data.toList with
 | none =>
  rw [Nk e1];have R1:=zh (fun W=>vG (b:=false) (by rw [e1];rfl) h1 W);clear e1 h1 h2;go_enter Tryz.func113,Tryz.ntmps113
  go_wp2_with fail
  refine (R1.out _).mono ?_;rintro e w1 ⟨rfl,hb⟩;go_wp2_with fail
  go_ret
  exact ⟨rfl,Bt ah hb⟩
 | some n =>
  have R1:=zh (fun W=>vG (b:=true) (by rw [e1];rfl) h1 W);cases e2:whole t.data.toList with
  | none =>
   rw [Nl e2];have R2:=zh (fun W=>vG (b:=false) (by rw [e2];rfl) h2 W);have h0:Below w.heap.size w (w.alloc (.cells #[.string s,.string t] 59)):=ah;have hx:=au.new w #[.string s,.string t] 59;clear e1 h1 h2 e2;go_enter Tryz.func113,Tryz.ntmps113
   go_wp2_with fail
   refine (R1.out _).mono ?_;rintro e w1 ⟨rfl,hb⟩;have cx:=(hx.later hb).cell;have lx:=(hx.later hb).lt;go_wp2_with fail
   refine (R2.out _).mono ?_;rintro e w2 ⟨rfl,hb2⟩;go_wp2_with fail
   go_ret
   exact ⟨rfl,Bt (Bt h0 hb) hb2⟩
  | some d =>
   have R2:=zh (fun W=>vG (b:=true) (by rw [e2];rfl) h2 W);rw [Y4 e1 e2];have I1:=zh (fun W=>aC.Bb s n W e1);have I2:=zh (fun W=>aC.Bb t d W e2);have K1:=zh (Nat.le_trans (yH e1) (show 201≤274877906944 by omega));have K2:=zh (Nat.le_trans (yH e2) (show 201≤274877906944 by omega))
   have hg:0<d→sz 10000 ((Nat.gcd n.natAbs d.natAbs:Nat):Int).natAbs≤1073741824:=fun h=>by
    rw [Int.natAbs_natCast];have h3:=dM (B:=10000) zo (Nat.le_of_dvd (by omega:0<d.natAbs) (Nat.gcd_dvd_right n.natAbs d.natAbs));have h4:=yH e2;omega
   have DV:=zh (fun x y W hx hy=>tV x y n d W hx hy K1.out K2.out);generalize Nat.gcd n.natAbs d.natAbs=g at *
   rcases Int.lt_trichotomy d 0 with hd|hd|hd
   ·have HD:=zh hd;rw [decide_eq_false (show ¬ 0<d by omega),Bool.false_and];clear e1 e2 h1 h2 hg hd;go_enter Tryz.func113,Tryz.ntmps113
    go_wp2_with fail
    obtain ⟨fI,EW,hz,X1⟩:=oz w #[.string s,.string t] 59;rw [EW];have hk2:=Bt (Below.refl _ _) hz;clear EW hz;refine (R1.out _).mono ?_;rintro e kV ⟨rfl,hb3⟩;replace X1:=X1.bl hb3;have hk5:=Bt hk2 hb3;clear hk2;clear hb3;obtain ⟨jd,iY,iZ⟩:=X1.clf;go_wp2_with fail
    clear jd iY iZ;refine (R2.out _).mono ?_;rintro e rU ⟨rfl,hb6⟩;replace X1:=X1.bl hb6;have BI:=Bt hk5 hb6;clear hk5;clear hb6;go_wp2_with fail
    obtain ⟨jd,iY,iZ⟩:=X1.clf;refine aD [(.pure,0),(.read,1),(.pure,3),(.read,4),(.ext,2),(.ext,5),(.alloc #[.bool false,.slice none 0 0] 121,6),(.alloc #[.bool false,.slice none 0 0] 121,7),(.fin,8),(.fin,9)] zk zk zR zP ?_;refine zV ?_;refine aG rfl rfl (fun uf nU J hJ=>?_);go_simp;have jg:Below rU.heap.size rU uf:=ah;clear nU;refine (I1.out _).mono ?_;rintro e fV ⟨v,rfl,eO,kQ⟩;obtain ⟨bA,jJ,lA,jN,rfl⟩:=kQ.agg;refine hJ _ _ eO ?_;clear hJ J;have jS:=Bt jg eO;clear jg eO kQ;refine zV ?_;refine aG rfl rfl (fun MR jF J hJ=>?_);go_simp;have hh12:Below rU.heap.size rU MR:=Bt jS ah;clear jF jS;refine (I2.out _).mono ?_;rintro e Dc ⟨v,rfl,kY,hv⟩;obtain ⟨bB,nu,lB,nC,rfl⟩:=hv.agg;have hb1:bB=true:=hv.nm.2.trans (decide_eq_true HD.out);subst hb1;refine hJ _ _ kY ?_;clear hJ J;have zY:=Bt hh12 kY
    clear hh12 kY hv;refine zV ?_;refine aX rfl (fun pX ai9 G6 iK uO Aj gI=>?_);go_simp;replace gI:au _ _ _ _:=gI;have Ah:w.heap.size≤pX:=(by first|omega|exact Nat.le_trans (Below.size (B:=w.heap.size) ah) iK);refine aX rfl (fun oK ai8 xq iJ uN qO jR=>?_);go_simp;replace jR:au _ _ _ _:=jR;have Ag:w.heap.size≤oK:=(by first|omega|exact Nat.le_trans (Below.size (B:=w.heap.size) ah) iJ);replace gI:=au.later gI xq;have hne:pX≠oK:=fun h=>qO (by simp [h]);have hne2:oK≠pX:=fun h=>hne h.symm;refine aL [_,_] rfl (fun Bn zZ=>?_);have zX:Below rU.heap.size rU Bn:=Bt zY ah;have hq0:=gI.later zZ;have SK:=hq0.cell;have Sd:=hq0.free;have hq1:=jR.later zZ;have Wq:=hq1.cell;have V5:=hq1.free;clear gI jR zZ zY;clear jd iY iZ
    go_wp2_with fail
    obtain ⟨CZ,EW⟩:∃ y,((((Bn.setCell ⟨pX,0,none⟩ (.bool bA)).setCell ⟨pX,1,none⟩ (.slice jJ lA jN)).setCell ⟨oK,0,none⟩ (.bool true)).setCell ⟨oK,1,none⟩ (.slice nu lB nC))=y:=⟨_,rfl⟩;have hz:Below rU.heap.size rU CZ:=by rw [← EW];exact ((((zX.setCell iK _).setCell iK _).setCell iJ _).setCell iJ _)
    have X3:Hid (au CZ oK #[.bool true,.slice nu lB nC] 121):=zh (by rw [← EW];exact ((((hq1.setOther _ (by first|exact hne|exact hne2)).setOther _ (by first|exact hne|exact hne2)).set 0 _).set 1 _));rw [EW];clear EW hq0 SK Sd hq1 Wq V5 zX;replace X1:=X1.bl hz;have D6:=Bt BI hz;clear BI;clear hz;clear G6 Aj qO Ah Ag xq;have RP:=iK;have RO:=iJ;clear iK iJ uO uN;go_wp2_with fail
    go_ret
    exact ⟨rfl,D6⟩
   ·have HD:=zh hd;rw [decide_eq_false (show ¬ 0<d by omega),Bool.false_and];clear e1 e2 h1 h2 hg hd;go_enter Tryz.func113,Tryz.ntmps113
    go_wp2_with fail
    obtain ⟨fI,EW,hz,X1⟩:=oz w #[.string s,.string t] 59;rw [EW];have hk2:=Bt (Below.refl _ _) hz;clear EW hz;refine (R1.out _).mono ?_;rintro e kV ⟨rfl,hb3⟩;replace X1:=X1.bl hb3;have hk5:=Bt hk2 hb3;clear hk2;clear hb3;obtain ⟨jd,iY,iZ⟩:=X1.clf;go_wp2_with fail
    clear jd iY iZ;refine (R2.out _).mono ?_;rintro e rU ⟨rfl,hb6⟩;replace X1:=X1.bl hb6;have BI:=Bt hk5 hb6;clear hk5;clear hb6;go_wp2_with fail
    obtain ⟨jd,iY,iZ⟩:=X1.clf;refine aD [(.pure,0),(.read,1),(.pure,3),(.read,4),(.ext,2),(.ext,5),(.alloc #[.bool false,.slice none 0 0] 121,6),(.alloc #[.bool false,.slice none 0 0] 121,7),(.fin,8),(.fin,9)] zk zk zR zP ?_;refine zV ?_;refine aG rfl rfl (fun uf nU J hJ=>?_);go_simp;have jg:Below rU.heap.size rU uf:=ah;clear nU;refine (I1.out _).mono ?_;rintro e fV ⟨v,rfl,eO,kQ⟩;obtain ⟨bA,jJ,lA,jN,rfl⟩:=kQ.agg;refine hJ _ _ eO ?_;clear hJ J;have jS:=Bt jg eO;clear jg eO kQ;refine zV ?_;refine aG rfl rfl (fun MR jF J hJ=>?_);go_simp;have hh12:Below rU.heap.size rU MR:=Bt jS ah;clear jF jS;refine (I2.out _).mono ?_;rintro e Dc ⟨v,rfl,kY,hv⟩;obtain ⟨bB,nu,lB,nC,rfl⟩:=hv.agg;have hb1:bB=false:=hv.nm.2.trans (decide_eq_false (by have:=HD.out;omega));subst hb1;have hl0:lB=0:=hv.nm.1.Zq (by have:=HD.out;omega)
    subst hl0;refine hJ _ _ kY ?_;clear hJ J;have zY:=Bt hh12 kY;clear hh12 kY hv;refine zV ?_;refine aX rfl (fun pX ai9 G6 iK uO Aj gI=>?_);go_simp;replace gI:au _ _ _ _:=gI;have Ah:w.heap.size≤pX:=(by first|omega|exact Nat.le_trans (Below.size (B:=w.heap.size) ah) iK);refine aX rfl (fun oK ai8 xq iJ uN qO jR=>?_);go_simp;replace jR:au _ _ _ _:=jR;have Ag:w.heap.size≤oK:=(by first|omega|exact Nat.le_trans (Below.size (B:=w.heap.size) ah) iJ);replace gI:=au.later gI xq;have hne:pX≠oK:=fun h=>qO (by simp [h]);have hne2:oK≠pX:=fun h=>hne h.symm;refine aL [_,_] rfl (fun Bn zZ=>?_);have zX:Below rU.heap.size rU Bn:=Bt zY ah;have hq0:=gI.later zZ;have SK:=hq0.cell;have Sd:=hq0.free
    have hq1:=jR.later zZ;have Wq:=hq1.cell;have V5:=hq1.free;clear gI jR zZ zY;clear jd iY iZ;go_wp2_with fail
    obtain ⟨CZ,EW⟩:∃ y,((((Bn.setCell ⟨pX,0,none⟩ (.bool bA)).setCell ⟨pX,1,none⟩ (.slice jJ lA jN)).setCell ⟨oK,0,none⟩ (.bool false)).setCell ⟨oK,1,none⟩ (.slice nu 0 nC))=y:=⟨_,rfl⟩;have hz:Below rU.heap.size rU CZ:=by rw [← EW];exact ((((zX.setCell iK _).setCell iK _).setCell iJ _).setCell iJ _)
    have X3:Hid (au CZ oK #[.bool false,.slice nu 0 nC] 121):=zh (by rw [← EW];exact ((((hq1.setOther _ (by first|exact hne|exact hne2)).setOther _ (by first|exact hne|exact hne2)).set 0 _).set 1 _));rw [EW];clear EW hq0 SK Sd hq1 Wq V5 zX;replace X1:=X1.bl hz;have D6:=Bt BI hz;clear BI;clear hz;clear G6 Aj qO Ah Ag xq;have RP:=iK;have RO:=iJ;clear iK iJ uO uN;go_wp2_with fail
    go_ret
    exact ⟨rfl,D6⟩
   ·have HD:=zh hd;have HG:=zh (hg hd);have TX:=zh (fun x W hx=>Mq x (g:Int) W hx HG.out);obtain ⟨b,hb⟩:∃ b,(decide (0<d)&&(g == 1))=b:=⟨_,rfl⟩
    have hT:((⟨(Lib.itoa (g:Int)).toArray⟩:ByteArray) == ⟨#[49]⟩)=b:=by
     rw [← hb,decide_eq_true hd,Bool.true_and]
     by_cases h:g=1
     ·rw [h];exact Zw
     ·rw [Vl h];exact (beq_eq_false_iff_ne.2 h).symm
    rw [hb];rw [beq_toListBytes,ByteArray.toList_eq (⟨#[49]⟩:ByteArray)] at hT;replace hT:((⟨(Lib.itoa (g:Int)).toArray⟩:ByteArray).toList == [49])=b:=hT;generalize (⟨(Lib.itoa (g:Int)).toArray⟩:ByteArray)=T at *;clear e1 e2 h1 h2 hg hd hb;go_enter Tryz.func113,Tryz.ntmps113
    go_wp2_with fail
    obtain ⟨fI,EW,hz,X1⟩:=oz w #[.string s,.string t] 59;rw [EW];have hk2:=Bt (Below.refl _ _) hz;clear EW hz;refine (R1.out _).mono ?_;rintro e kV ⟨rfl,hb3⟩;replace X1:=X1.bl hb3;have hk5:=Bt hk2 hb3;clear hk2;clear hb3;obtain ⟨jd,iY,iZ⟩:=X1.clf;go_wp2_with fail
    clear jd iY iZ;refine (R2.out _).mono ?_;rintro e rU ⟨rfl,hb6⟩;replace X1:=X1.bl hb6;have BI:=Bt hk5 hb6;clear hk5;clear hb6;go_wp2_with fail
    obtain ⟨jd,iY,iZ⟩:=X1.clf;refine aD [(.pure,0),(.read,1),(.pure,3),(.read,4),(.ext,2),(.ext,5),(.alloc #[.bool false,.slice none 0 0] 121,6),(.alloc #[.bool false,.slice none 0 0] 121,7),(.fin,8),(.fin,9)] zk zk zR zP ?_;refine zV ?_;refine aG rfl rfl (fun uf nU J hJ=>?_);go_simp;have jg:Below rU.heap.size rU uf:=ah;clear nU;refine (I1.out _).mono ?_;rintro e fV ⟨v,rfl,eO,kQ⟩;obtain ⟨bA,jJ,lA,jN,rfl⟩:=kQ.agg;refine hJ _ _ eO ?_;clear hJ J;have jS:=Bt jg eO;have NA:=zh kQ;clear jg eO kQ;refine zV ?_;refine aG rfl rfl (fun MR jF J hJ=>?_);go_simp;have hh12:Below rU.heap.size rU MR:=Bt jS ah;replace NA:=zh (NA.out.later (show Below fV.heap.size fV MR from ah));clear jF jS;refine (I2.out _).mono ?_;rintro e Dc ⟨v,rfl,kY,hv⟩;obtain ⟨bB,nu,lB,nC,rfl⟩:=hv.agg
    have hb1:bB=false:=hv.nm.2.trans (decide_eq_false (by have:=HD.out;omega));subst hb1;have hl0:0<lB:=hv.nm.1.Zp (by have:=HD.out;omega);refine hJ _ _ kY ?_;clear hJ J;have zY:=Bt hh12 kY;replace NA:=zh (NA.out.later kY);have NB:=zh hv;clear hh12 kY hv;refine zV ?_;refine aX rfl (fun pX ai9 G6 iK uO Aj gI=>?_);go_simp;replace gI:au _ _ _ _:=gI;have Ah:w.heap.size≤pX:=(by first|omega|exact Nat.le_trans (Below.size (B:=w.heap.size) ah) iK);refine aX rfl (fun oK ai8 xq iJ uN qO jR=>?_);go_simp;replace jR:au _ _ _ _:=jR;have Ag:w.heap.size≤oK:=(by first|omega|exact Nat.le_trans (Below.size (B:=w.heap.size) ah) iJ);replace gI:=au.later gI xq;have hne:pX≠oK:=fun h=>qO (by simp [h]);have hne2:oK≠pX:=fun h=>hne h.symm
    refine aL [_,_] rfl (fun Bn zZ=>?_);replace NA:=zh (NA.out.later (show Below Dc.heap.size Dc Bn from ah));replace NB:=zh (NB.out.later (show Below Dc.heap.size Dc Bn from ah));have zX:Below rU.heap.size rU Bn:=Bt zY ah;have hq0:=gI.later zZ;have SK:=hq0.cell;have Sd:=hq0.free;have hq1:=jR.later zZ;have Wq:=hq1.cell;have V5:=hq1.free;clear gI jR zZ zY;clear jd iY iZ;go_wp2_with fail
    obtain ⟨CZ,EW⟩:∃ y,((((Bn.setCell ⟨pX,0,none⟩ (.bool bA)).setCell ⟨pX,1,none⟩ (.slice jJ lA jN)).setCell ⟨oK,0,none⟩ (.bool false)).setCell ⟨oK,1,none⟩ (.slice nu lB nC))=y:=⟨_,rfl⟩;have hz:Below rU.heap.size rU CZ:=by rw [← EW];exact ((((zX.setCell iK _).setCell iK _).setCell iJ _).setCell iJ _)
    have X2:Hid (au CZ pX #[.bool bA,.slice jJ lA jN] 121):=zh (by rw [← EW];exact ((((hq0.set 0 _).set 1 _).setOther _ (by first|exact hne|exact hne2)).setOther _ (by first|exact hne|exact hne2)));have X3:Hid (au CZ oK #[.bool false,.slice nu lB nC] 121):=zh (by rw [← EW];exact ((((hq1.setOther _ (by first|exact hne|exact hne2)).setOther _ (by first|exact hne|exact hne2)).set 0 _).set 1 _));have t:=((((NA.out.setOther hq0 zd 0 (.bool bA)).setOther (hq0.set 0 _) zd 1 (.slice jJ lA jN)).setOther ((hq1.setOther _ (by first|exact hne|exact hne2)).setOther _ (by first|exact hne|exact hne2)) zd 0 (.bool false)).setOther (((hq1.setOther _ (by first|exact hne|exact hne2)).setOther _ (by first|exact hne|exact hne2)).set 0 _) zd 1 (.slice nu lB nC));rw [EW] at t;replace NA:=zh t;clear t
    have t:=((((NB.out.setOther hq0 zd 0 (.bool bA)).setOther (hq0.set 0 _) zd 1 (.slice jJ lA jN)).setOther ((hq1.setOther _ (by first|exact hne|exact hne2)).setOther _ (by first|exact hne|exact hne2)) zd 0 (.bool false)).setOther (((hq1.setOther _ (by first|exact hne|exact hne2)).setOther _ (by first|exact hne|exact hne2)).set 0 _) zd 1 (.slice nu lB nC));rw [EW] at t;replace NB:=zh t;clear t;rw [EW];clear EW hq0 SK Sd hq1 Wq V5 zX;replace X1:=X1.bl hz;have D6:=Bt BI hz;clear BI;clear hz;clear G6 Aj qO Ah Ag xq;have RP:=iK;have RO:=iJ;clear iK iJ uO uN;go_wp2_with fail
    refine (DV.out _ _ _ NA.out NB.out).mono ?_;rintro e PI ⟨v,rfl,tF,JL⟩;obtain ⟨bC,GA,lC,Iq,rfl⟩:=JL.agg;clear X1;replace X2:=X2.bl tF;replace X3:=X3.bl tF;replace NA:=zh (NA.out.later tF);replace NB:=zh (NB.out.later tF);have ao6:=Bt D6 tF;clear D6;have NC:=zh JL;clear tF JL;go_wp2_with fail
    refine (TX.out _ _ NC.out).mono ?_;rintro e aG5 ⟨rfl,Af⟩;replace X2:=X2.bl Af;replace X3:=X3.bl Af;replace NA:=zh (NA.out.later Af);replace NB:=zh (NB.out.later Af);replace NC:=zh (NC.out.later Af);have az7:=Bt ao6 Af;clear ao6;clear Af;go_wp2_with fail
    go_ret
    exact ⟨rfl,az7⟩
theorem Jl {a:Fr} {b:Bool} (h:(rd a).isSome=b) (hf:Fits a) (W:World):Calls Tryz.prog 113 #[a.v] W (fun e w'=>e= .returned (.bool b)∧Below W.heap.size W w') :=
 h ▸ gK a.n a.d W hf.1 hf.2
theorem Qk {s t:ByteArray} {q:Rat} (h:rd ⟨s,t⟩=some q):whole s.data.toList=some q.num∧whole t.data.toList=some (q.den:Int):=by
 unfold rd at h;split at h
 ·rename_i n d e1 e2;split at h
  ·rename_i hk;simp only [Option.some.injEq] at h;subst h;refine ⟨e1,e2.trans ?_⟩
   congr 1
   have:=hk.1
   show d=((d.natAbs:Nat):Int)
   omega
  ·cases h
 ·cases h
theorem Bb (s t:ByteArray) (q:Rat) (w:World) (h:rd ⟨s,t⟩=some q):Calls Tryz.prog 132 #[.agg #[.string s,.string t]] w (mY w q):=by
 obtain ⟨e1,e2⟩:=Qk h;have I1:=zh (fun W=>aC.Bb s q.num W e1);have I2:=zh (fun W=>aC.Bb t (q.den:Int) W e2);clear h e1 e2;go_enter Tryz.func132,Tryz.ntmps132
 go_wp2_with fail
 obtain ⟨fI,EW,hz,X1,X2⟩:=yB w #[.string s,.string t] 59 #[.bool false,.slice none 0 0,.bool false,.slice none 0 0] 123;rw [EW];have hk2:=Bt (Below.refl _ _) hz;clear EW hz;obtain ⟨jd,iY,iZ⟩:=X1.clf;refine aD [(.pure,0),(.read,1),(.pure,3),(.read,4),(.ext,2),(.ext,5),(.pure,6),(.fin,7)] zk zk zR zP ?_;refine zV ?_;refine aG rfl rfl (fun Db hb3 J hJ=>?_);go_simp;have hh3:Below fI.heap.size fI Db:=ah;clear hb3;refine (I1.out _).mono ?_;rintro e vQ ⟨v,rfl,hb4,hv5⟩;obtain ⟨bA,jJ,lA,jN,rfl⟩:=hv5.agg;refine hJ _ _ hb4 ?_;clear hJ J;have uQ:=Bt hh3 hb4;have NA:=zh hv5;clear hh3 hb4 hv5;refine zV ?_;refine aG rfl rfl (fun sO hb6 J hJ=>?_);go_simp;have jK:Below fI.heap.size fI sO:=Bt uQ ah;replace NA:=zh (NA.out.later (show Below vQ.heap.size vQ sO from ah));clear hb6 uQ;refine (I2.out _).mono ?_;rintro e kM ⟨v,rfl,gM,kP⟩
 obtain ⟨bB,nu,lB,nC,rfl⟩:=kP.agg;refine hJ _ _ gM ?_;clear hJ J;have qN:=Bt jK gM;replace NA:=zh (NA.out.later gM);have NB:=zh kP;clear jK gM kP;refine zV ?_;refine aL [_] rfl (fun Bl Ph=>?_);replace NA:=zh (NA.out.later (show Below kM.heap.size kM Bl from ah));replace NB:=zh (NB.out.later (show Below kM.heap.size kM Bl from ah));have jg:Below fI.heap.size fI Bl:=Bt qN ah;clear Ph qN;clear jd iY iZ;replace X1:=X1.bl jg;replace X2:=X2.bl jg;have hk10:=Bt hk2 jg;clear hk2;clear jg;obtain ⟨nH,nD,nG⟩:=X2.clf;have hres:=X2.out;have tJ:=hres.cell;have tH:=hres.free;go_wp2_with fail
 refine dG rfl rfl aT Tryz.underlying123 rfl zk ?_;exact ⟨_,rfl,ah,_,_,_,_,_,_,_,_,rfl,Pl.rW NA.out hres zd _ _ _ _,Pl.rW NB.out hres zd _ _ _ _⟩
theorem Qj {a:Fr} {q:Rat} (h:rd a=some q):kL 67 q:=qC (Ci h).2
theorem UR {k:Nat} {p q:Rat} (h:kL k p) (i:kL k q):kL (2*k+1) (p - q):=by
 rw [Rat.sub_eq_add_neg];exact uo h (Dj i)
theorem Yd {a:Fr} {q:Rat} (h:rd a=some q) (W:World):Calls Tryz.prog 132 #[a.v] W (mY W q):=Bb a.n a.d q W h
--for F=Add|Sub|Mul;G=aC9|aw6|ax6;P=pR|qX|ig;O=p+q|p - q|p*q;S=(uo hp hq).mono zo|(UR hp hq).mono zo|(oP hp hq).mono zo
end Go.Proofs.aH
namespace Go.Proofs.aC
open Go Go.RowKit Go.SW Go.Num Go.Mem Go.Proofs Go.Dec
def Words (w:World) (v:Value):Prop:=∃ (a:Option Addr) (n cap:Nat) (U:Nat→Int),v= .slice a n cap∧n≤9223372036854775807∧∀ k,k<n→∃ b off,a=some ⟨b,off,none⟩∧b<w.heap.size∧w.cell? ⟨b,off+k,none⟩=some (.int .u16 (U k))∧0≤U k∧U k≤65535
theorem Words.later {w w':World} {v:Value} (h:Words w v) (hb:Below w.heap.size w w'):Words w' v:=by
 obtain ⟨a,n,cap,U,rfl,hn,h⟩:=h;refine ⟨a,n,cap,U,rfl,hn,fun k hk=>?_⟩;obtain ⟨b,off,rfl,h1,h2,h3⟩:=h k hk;exact ⟨b,off,rfl,Nat.lt_of_lt_of_le h1 hb.size,(hb.cell (p:=⟨b,off+k,none⟩) h1).trans h2,h3⟩
def rV (U:Nat→Int):Nat→Int
 | 0=>0
 | k+1=>rV U k*1000+(U k).tmod 1000
theorem vF (f:Bool) (v:Value) (z:Int) (w:World) (h:Words w v):∃ m:Int,(-999999≤m∧m≤999999)∧∀ W,Below w.heap.size w W →
  Calls Tryz.prog 165 #[.agg #[.bool f,v,.int .u16 z]] W (fun e w'=>e= .returned (.int .i64 m)∧Below W.heap.size W w'):=by
 have W0:∀ z:Int, -1000000000≤z∧z≤1000000000→IntKind.i64.wrap z=z:=fun z h=>by unfold IntKind.wrap;simp [IntKind.bits,IntKind.signed];split<;>omega
 obtain ⟨a,n,cap,U,rfl,hn,hread⟩:=h
 have R0:∀ k,k<n→0≤(U k).tmod 1000∧(U k).tmod 1000≤999:=fun k hk=>by
  obtain ⟨_,_,_,_,_,h0,_⟩:=hread k hk;rw [Int.tmod_eq_emod_of_nonneg h0];omega
 have T0:∀ k,k≤n→k≤2→0≤rV U k∧rV U k<1000^k:=fun k hk h2=>by
  rcases (by omega:k=0∨k=1∨k=2) with rfl|rfl|rfl
  ·simp [rV]
  ·have:=R0 0 zo;simp [rV]
   omega
  ·have:=R0 0 zo;have:=R0 1 zo;simp [rV]
   omega
 have T1:∀ k,k≤n→k≤2→0≤rV U k∧rV U k≤999999:=fun k hk h2=>by
  have:=T0 k hk h2
  rcases (by omega:k=0∨k=1∨k=2) with rfl|rfl|rfl<;>omega
 have TM:=T1 (min n 2) zo zo;refine ⟨if f then -rV U (min n 2) else rV U (min n 2),by split<;>omega,fun W hW=>?_⟩
 have H:Hid (∀ k,k<n→∃ b off,a=some ⟨b,off,none⟩∧b<W.heap.size∧W.cell? ⟨b,off+k,none⟩=some (.int .u16 (U k))∧0≤U k∧U k≤65535):=zh fun k hk=>by
  obtain ⟨b,off,rfl,h1,h2,h3⟩:=hread k hk;exact ⟨b,off,rfl,Nat.lt_of_lt_of_le h1 hW.size,(hW.cell (p:=⟨b,off+k,none⟩) h1).trans h2,h3⟩
 have HW:=zh W0;have HR:=zh R0;have HT:=zh T1;have HS:Hid (∀ k,rV U (k+1)=rV U k*1000+(U k).tmod 1000):=zh fun k=>rfl;have H0:Hid (rV U 0=0):=zh rfl;obtain ⟨mv,Emv⟩:∃ y,Hid ((if f=true then -rV U (min n 2) else rV U (min n 2))=y):=⟨_,zh rfl⟩;rw [Emv.out];clear hread W0 R0 T0 T1 TM hW w;generalize rV U=F at *;go_enter Tryz.func165,Tryz.ntmps165
 go_wp2_with fail
 go_loopw [3,4] (fun tv iv wr=>∃ k:Nat,iv= .int .i64 (k:Int)∧tv= .int .i64 (F k)∧k≤n∧k≤2∧Below W.heap.size W wr∧au wr W.heap.size #[.bool f,.slice a n cap,.int .u16 z] 185) (fun _ iv _=>2 - (intOf iv).toNat)
 case atStart=>exact ⟨0,rfl,by rw [H0.out],by omega,by omega,ah,aT⟩
 case round =>
  obtain ⟨k,rfl,rfl,hkn,hk2,hb,hB⟩:=hrel;have cB:=hB.cell;have lB:=hB.lt;have ht:=HT.out k hkn hk2
  by_cases hex:k<n∧k<2
  ·obtain ⟨h1,h2⟩:=hex;obtain ⟨b,off,rfl,lb,cx,u0,u1⟩:=H.out k h1;have cx':=(hb.cell (p:=⟨b,off+k,none⟩) lb).trans cx;have g1:decide ((k:Int)<(n:Int))=true:=by simp;omega
   have g2:decide ((k:Int)<2)=true:=by simp;omega
   have hr:=HR.out k h1;have HSk:=zh (HS.out k);obtain ⟨r,Er⟩:∃ r,(U k).tmod 1000=r:=⟨_,rfl⟩;rw [Er] at hr HSk;obtain ⟨t,Et⟩:∃ t,F k=t:=⟨_,rfl⟩;rw [Et] at ht HSk ⊢;have t2:t≤999999:=ht.2;have w1:IntKind.u16.wrap r=r:=by unfold IntKind.wrap;simp [IntKind.bits,IntKind.signed];omega
   have w2:=HW.out r zo;have w3:=HW.out (t*1000) zo;have w4:=HW.out (t*1000+r) zo;clear cx lb;go_wp2_with fail
   go_roundw
   case rel=>exact ⟨k+1,by go_num,by rw [HSk.out],by omega,by omega,hb,hB⟩
   case measure=>exact zM
  ·have hkm:k=min n 2:=by omega
   have Rv:=HW.out (-F k) zo;have HM:Hid (mv=if f=true then -F k else F k):=zh (by rw [← Emv.out,hkm]);obtain ⟨t,Et⟩:∃ t,F k=t:=⟨_,rfl⟩;rw [Et] at Rv HM ⊢;clear ht Et Emv hkm
   rcases (by omega:k=n∨(k=2∧2<n)) with rfl|⟨rfl,h3⟩
   ·cases f
    ·go_wp2_with fail
     go_ret
     exact ⟨by rw [HM.out];rfl,hb⟩
    ·go_wp2_with fail
     go_ret
     exact ⟨by rw [HM.out];rfl,hb⟩
   ·have g1:decide ((2:Int)<(n:Int))=true:=by simp;omega
    cases f
    ·go_wp2_with fail
     go_ret
     exact ⟨by rw [HM.out];rfl,hb⟩
    ·go_wp2_with fail
     go_ret
     exact ⟨by rw [HM.out];rfl,hb⟩
end Go.Proofs.aC
namespace Go.Proofs.aH
open Go Go.RowKit Go.SW Go.Num Go.Mem Go.Proofs Go.Dec Go.Proofs.aC Go.cK
theorem U0 {n d:Int} (h1: -999≤n∧n≤999) (h2:1≤d∧d≤60):iR ((n:Rat) / (d:Rat))=true:=by
 obtain ⟨l1,l2⟩:=zG (n:=n) (d:=d) zo
 have h3:2000<iE 600:=by
  unfold iE;have:=Nat.pow_le_pow_right (n:=10) zo (show 4≤600 by omega);omega
 unfold iR DI;rw [Bool.and_eq_true];exact ⟨decide_eq_true zo,decide_eq_true zo⟩
theorem TD (f1 f2:Bool) (v1 v2:Value) (z1 z2:Int) (w0:World) (h1:Words w0 v1) (h2:Words w0 v2):∃ q:Rat,(iR q=true∧q.num.natAbs≤999∧q.den≤60)∧∀ w,Below w0.heap.size w0 w →
  Calls Tryz.prog 111 #[.agg #[.bool f1,v1,.int .u16 z1,.bool f2,v2,.int .u16 z2]] w (fun e w'=>e= .returned (Fr.of q).v∧Below w.heap.size w w'):=by
 have W0:∀ z:Int, -1000000000≤z∧z≤1000000000→IntKind.i64.wrap z=z:=fun z h=>by unfold IntKind.wrap;simp [IntKind.bits,IntKind.signed];split<;>omega
 obtain ⟨n,hn,A1⟩:=vF f1 v1 z1 w0 h1;obtain ⟨m,hm,A2⟩:=vF f2 v2 z2 w0 h2;obtain ⟨a1,n1,c1,U1,rfl, -⟩:=h1;obtain ⟨a2,n2,c2,U2,rfl, -⟩:=h2;obtain ⟨t,Et⟩:∃ t,n.tmod 1000=t:=⟨_,rfl⟩;obtain ⟨r,Er⟩:∃ r,(if m<0 then -m else m).tmod 60=r:=⟨_,rfl⟩;have e1:=Int.tmod_lt_of_pos n (show (0:Int)<1000 by omega);have e2:=Int.lt_tmod_of_pos n (show (0:Int)<1000 by omega);have e3:=Int.tmod_eq_emod_of_nonneg (b:=60) (show 0≤(if m<0 then -m else m) by split<;>omega);rw [Et] at e1 e2;rw [Er] at e3;have r0:0≤r∧r≤59:=by rw [e3];omega
 have wt:=W0 t zo;have wr':=W0 r zo;have wr1:=W0 (1+r) zo;have wm:=W0 (-m) zo;have hq:=U0 (n:=t) (d:=1+r) zo zo;have hbd:=zG (n:=t) (d:=1+r) zo;refine ⟨(t:Rat) / ((1+r:Int):Rat),⟨hq,by omega,by omega⟩,fun w hW=>?_⟩;clear hbd;have H1:=zh (fun W (h:Below w.heap.size w W)=>A1 W (Bt hW h));have H2:=zh (fun W (h:Below w.heap.size w W)=>A2 W (Bt hW h));have H3:=zh (fun W=>A8 t (1+r) zo zo zo zo zo W);obtain ⟨l1,l2⟩:=zG (n:=t) (d:=1+r) zo;have H4:=zh (fun x W hx=>EU x ((t:Rat) / ((1+r:Int):Rat)) W hx (Nat.le_trans (dM zo l1) (Nat.le_trans (Dk zo zo) zo)) (Nat.le_trans (dM zo l2) (Nat.le_trans (Dk zo zo) zo)));clear A1 A2 hW l1 l2 W0;generalize (t:Rat) / ((1+r:Int):Rat)=q at *;have E:wr q=(Fr.of q,0):=by unfold wr;rw [if_pos hq]
 rw [E] at H4;obtain ⟨⟨s1,s2⟩,EQ⟩:∃ y,Fr.of q=y:=⟨_,rfl⟩;rw [EQ] at H4 ⊢;replace H4:Hid (∀ x W,Ra W x q→Calls Tryz.prog 75 #[x] W (fun e w'=>e= .returned (.tuple #[.agg #[.string s1,.string s2],.int .i64 0])∧Below W.heap.size W w')):=H4;unfold Fr.v;clear E EQ hq e1 e2 e3 hn hm
 by_cases hm0:m<0
 ·rw [if_pos hm0] at Er;go_enter Tryz.func111,Tryz.ntmps111
  go_wp2_with fail
  obtain ⟨fI,EW,hz,X1,X2⟩:=yB w #[.bool f1,.slice a1 n1 c1,.int .u16 z1,.bool f2,.slice a2 n2 c2,.int .u16 z2] 187 #[.string ⟨#[]⟩,.string ⟨#[]⟩] 59;rw [EW];have hk2:=Bt (Below.refl _ _) hz;clear EW hz;refine (H2.out _ hk2).mono ?_;rintro e kV ⟨rfl,hb3⟩;replace X1:=X1.bl hb3;replace X2:=X2.bl hb3;have hk5:=Bt hk2 hb3;clear hk2;clear hb3;obtain ⟨jd,iY,iZ⟩:=X1.clf;go_wp2_with fail
  clear jd iY iZ;refine (H1.out _ hk5).mono ?_;rintro e rU ⟨rfl,hb6⟩;replace X1:=X1.bl hb6;replace X2:=X2.bl hb6;have BI:=Bt hk5 hb6;clear hk5;clear hb6;go_wp2_with fail
  refine (H3.out _).mono ?_;rintro e wc9 ⟨vq,rfl,nU,hq⟩;replace X1:=X1.bl nU;replace X2:=X2.bl nU;have D7:=Bt BI nU;clear BI;have NQ:=zh hq;clear nU hq;go_wp2_with fail
  refine (H4.out _ _ NQ.out).mono ?_;rintro e UJ ⟨rfl,jF⟩;replace X1:=X1.bl jF;replace X2:=X2.bl jF;replace NQ:=zh (NQ.out.later jF);have VL:=Bt D7 jF;clear D7;clear jF;obtain ⟨nH,nD,nG⟩:=X2.clf;have hres:=X2.out;have tJ:=hres.cell;have tH:=hres.free;go_wp2_with fail
  refine dG rfl rfl aT Tryz.underlying59 rfl zk ?_;exact ⟨rfl,ah⟩
 ·rw [if_neg hm0] at Er;go_enter Tryz.func111,Tryz.ntmps111
  go_wp2_with fail
  obtain ⟨fI,EW,hz,X1,X2⟩:=yB w #[.bool f1,.slice a1 n1 c1,.int .u16 z1,.bool f2,.slice a2 n2 c2,.int .u16 z2] 187 #[.string ⟨#[]⟩,.string ⟨#[]⟩] 59;rw [EW];have hk2:=Bt (Below.refl _ _) hz;clear EW hz;refine (H2.out _ hk2).mono ?_;rintro e kV ⟨rfl,hb3⟩;replace X1:=X1.bl hb3;replace X2:=X2.bl hb3;have hk5:=Bt hk2 hb3;clear hk2;clear hb3;obtain ⟨jd,iY,iZ⟩:=X1.clf;go_wp2_with fail
  clear jd iY iZ;refine (H1.out _ hk5).mono ?_;rintro e rU ⟨rfl,hb6⟩;replace X1:=X1.bl hb6;replace X2:=X2.bl hb6;have BI:=Bt hk5 hb6;clear hk5;clear hb6;go_wp2_with fail
  refine (H3.out _).mono ?_;rintro e wc9 ⟨vq,rfl,nU,hq⟩;replace X1:=X1.bl nU;replace X2:=X2.bl nU;have D7:=Bt BI nU;clear BI;have NQ:=zh hq;clear nU hq;go_wp2_with fail
  refine (H4.out _ _ NQ.out).mono ?_;rintro e UJ ⟨rfl,jF⟩;replace X1:=X1.bl jF;replace X2:=X2.bl jF;replace NQ:=zh (NQ.out.later jF);have VL:=Bt D7 jF;clear D7;clear jF;obtain ⟨nH,nD,nG⟩:=X2.clf;have hres:=X2.out;have tJ:=hres.cell;have tH:=hres.free;go_wp2_with fail
  refine dG rfl rfl aT Tryz.underlying59 rfl zk ?_;exact ⟨rfl,ah⟩
end Go.Proofs.aH
namespace Go.Proofs.aC
open Go Go.RowKit Go.SW Go.Num Go.Mem Go.Proofs
theorem NH {a b:Int} (ha:a<0) (hb:0<b) (h:¬ b ∣ a):gB (a.natAbs / b.natAbs) true= -((a.natAbs / b.natAbs:Nat):Int)∧gB (a.natAbs%b.natAbs) true= -((a.natAbs%b.natAbs:Nat):Int)∧0<a.natAbs%b.natAbs∧a / b= -((a.natAbs / b.natAbs:Nat):Int) - 1∧a%b= -((a.natAbs%b.natAbs:Nat):Int)+b:=by
 obtain ⟨n,rfl⟩:∃ n:Nat,a= -(n:Int):=⟨a.natAbs,by omega⟩;obtain ⟨d,rfl⟩:∃ d:Nat,b=(d:Int):=⟨b.natAbs,by omega⟩;rw [Int.natAbs_neg,Int.natAbs_natCast,Int.natAbs_natCast];have hm:n%d≠0:=fun e=>h (Int.dvd_neg.2 (Int.natCast_dvd_natCast.2 (Nat.dvd_of_mod_eq_zero e)));have hlt:=Nat.mod_lt n (show 0<d by omega);have JU:=Nat.div_add_mod n d
 have e1: -(n:Int)=(d:Int)*(-((n / d:Nat):Int) - 1)+((d:Int) - ((n%d:Nat):Int)):=by
  have:(n:Int)=(d:Int)*((n / d:Nat):Int)+((n%d:Nat):Int):=by exact_mod_cast JU.symm
  rw [this];grind
 refine ⟨by unfold gB;simp,by unfold gB;simp,by omega,?_,?_⟩
 ·rw [e1,Int.add_comm,Int.add_mul_ediv_left _ _ zo,Int.ediv_eq_zero_of_lt zo zo];omega
 ·rw [e1,Int.add_comm,Int.add_mul_emod_self_left,Int.emod_eq_of_lt zo zo];omega
def ab9 (w:World) (z:Int) (e:Ending) (w':World):Prop:=∃ b pa l ca,e= .returned (.agg #[.bool b,.slice pa l ca])∧Below w.heap.size w w'∧Pl w' (.agg #[.bool b,.slice pa l ca]) z
theorem Yb {w:World} {z:Int} {e:Ending} {w':World} (h:∃ v',e= .returned v'∧Below w.heap.size w w'∧Pl w' v' z):ab9 w z e w':=by
 obtain ⟨v,rfl,h,hv⟩:=h;obtain ⟨b,pa,l,ca,rfl⟩:=hv.agg;exact ⟨b,pa,l,ca,rfl,h,hv⟩
theorem WM (x y:Value) (a b:Int) (w:World) (hx:Pl w x a) (hy:Pl w y b) (ha:sz 10000 a.natAbs≤549755813888) (hb:sz 10000 b.natAbs≤549755813888):Calls Tryz.prog 181 #[x,y] w (ab9 w (a+b)):=(pR x y a b w hx hy ha hb).mono fun _ _ h=>Yb h
theorem TL (x y:Value) (a b:Int) (w:World) (hx:Pl w x a) (hy:Pl w y b) (ha:sz 10000 a.natAbs≤549755813888) (hb:sz 10000 b.natAbs≤549755813888):Calls Tryz.prog 227 #[x,y] w (ab9 w (a - b)):=(qX x y a b w hx hy ha hb).mono fun _ _ h=>Yb h
theorem PY {n:Nat} {k:Nat} (h:sz 10000 n≤k):sz 10000 (-(n:Int)).natAbs≤k:=by rwa [Int.natAbs_neg,Int.natAbs_natCast]
theorem YV:sz 10000 (1:Int).natAbs≤549755813888:=by decide+kernel
theorem OL (x y:Value) (a b:Int) (w:World) (hx:Pl w x a) (hy:Pl w y b) (ha:sz 10000 a.natAbs≤274877906944) (hb:sz 10000 b.natAbs≤274877906944) (ha0:a<0) (hb0:0<b) (hd:¬ b ∣ a) :
  Calls Tryz.prog 185 #[x,y] w (tQ w (a / b) (a%b)):=by
 obtain ⟨bA,jJ,lA,jN,rfl⟩:=hx.agg;obtain ⟨bB,nu,lB,nC,rfl⟩:=hy.agg;obtain ⟨nA,eA⟩:=hx.nm;obtain ⟨nB,eB⟩:=hy.nm;have hbf:bB=false:=by rw [eB];simp;omega
 subst hbf;have hbt:bA=true:=by rw [eA];simp;omega
 subst hbt;obtain ⟨s1,s2,s3,s4,s5⟩:=NH ha0 hb0 hd;have hqz:sz 10000 (a.natAbs / b.natAbs)≤549755813888:=Nat.le_trans (dM zo (Nat.div_le_self _ _)) zo;have hrz:sz 10000 (a.natAbs%b.natAbs)≤549755813888:=Nat.le_trans (dM zo (Nat.mod_le _ _)) zo;have pY:=zh nA;have vL:=zh nB;have NBp:=zh hy;have KA:=zh ha;have KB:=zh hb;have H0:Hid (0<b.natAbs):=zh zo;have Yf:=zh s1;have HS2:=zh s2;have HS3:=zh s3;have HQ:=zh hqz;have HRz:=zh hrz;rw [s4,s5];clear hx hy ha hb hb0 ha0 hd nA nB eA eB s1 s2 s3 s4 s5 hqz hrz;go_enter Tryz.func185,Tryz.ntmps185
 go_wp2_with fail
 obtain ⟨fI,EW,hz,X1,X2,X3,X4⟩:=al4 w #[.bool true,.slice jJ lA jN] 121 #[.bool false,.slice nu lB nC] 121 #[.bool false,.slice none 0 0] 121 #[.bool false,.slice none 0 0] 121;rw [EW];have hk2:=Bt (Below.refl _ _) hz;clear EW hz;refine (zm _ _ _ _ _ (pY.out.later hk2) (vL.out.later hk2) H0.out KA.out KB.out).mono ?_;rintro e kV ⟨q,r,rfl,hb3,hq,hr⟩;obtain ⟨paQ,lQ,caQ,rfl⟩:=hq.slice;obtain ⟨Va,lR,Wv,rfl⟩:=hr.slice;replace X1:=X1.bl hb3;replace X2:=X2.bl hb3;replace X3:=X3.bl hb3;replace X4:=X4.bl hb3;have hk5:=Bt hk2 hb3;clear hk2;have NQ:=zh hq;have NR:=zh hr;clear hb3 hq hr;have HL4:=zh X4.out.lt;go_wp2_with fail
 obtain ⟨jd,iY,iZ⟩:=X1.clf;obtain ⟨nH,nD,nG⟩:=X2.clf;refine aD [(.pure,0),(.read,1),(.pure,2),(.read,3),(.pure,4),(.pure,5),(.pure,7),(.read,8),(.pure,9),(.ext,6),(.ext,10),(.alloc #[.bool false,.slice none 0 0] 121,11),(.alloc #[.bool false,.slice none 0 0] 121,12),(.fin,13),(.fin,14)] zk zk zR zP ?_;refine zV ?_;refine aG rfl rfl (fun sO hb6 J hJ=>?_);go_simp;have jK:Below kV.heap.size kV sO:=ah;clear hb6;refine (pE _ _ _ _ _ (NQ.out.later jK) Yf.out).mono ?_;rintro e kM ⟨v,rfl,gM,kP⟩;obtain ⟨bU,Gz,lU,Ip,rfl⟩:=kP.agg;refine hJ _ _ gM ?_;clear hJ J;have qN:=Bt jK gM;have NU:=zh kP;clear jK gM kP;refine zV ?_;refine aG rfl rfl (fun uf nU J hJ=>?_);go_simp;have jg:Below kV.heap.size kV uf:=Bt qN ah;replace NU:=zh (NU.out.later (show Below kM.heap.size kM uf from ah));clear nU qN
 refine (pE _ _ _ _ _ (NR.out.later jg) HS2.out).mono ?_;rintro e fV ⟨v,rfl,eO,hv⟩;obtain ⟨bV,Gy,lV,Io,rfl⟩:=hv.agg;have hbv:bV=true:=hv.nm.2.trans (decide_eq_true (by have:=HS3.out;omega));subst hbv;refine hJ _ _ eO ?_;clear hJ J;have jS:=Bt jg eO;replace NU:=zh (NU.out.later eO);have NV:=zh hv;clear jg eO hv;refine zV ?_;refine aX rfl (fun gW aj0 G8 jG uP Al iy=>?_);go_simp;replace iy:au _ _ _ _:=iy;have Ai:w.heap.size≤gW:=(by first|omega|exact Nat.le_trans (Below.size (B:=w.heap.size) ah) jG);refine aX rfl (fun jL aw1 G7 oo D5 Ak pF=>?_);go_simp;replace pF:au _ _ _ _:=pF;have J4:w.heap.size≤jL:=(by first|omega|exact Nat.le_trans (Below.size (B:=w.heap.size) ah) oo);replace iy:=au.later iy G7;have hne:gW≠jL:=fun h=>Ak (by simp [h])
 have hne2:jL≠gW:=fun h=>hne h.symm;refine aL [_,_] rfl (fun wf hf=>?_);replace NU:=zh (NU.out.later (show Below fV.heap.size fV wf from ah));replace NV:=zh (NV.out.later (show Below fV.heap.size fV wf from ah));have Oc:Below kV.heap.size kV wf:=Bt jS ah;have hq0:=iy.later hf;have SK:=hq0.cell;have Sd:=hq0.free;have hq1:=pF.later hf;have Wq:=hq1.cell;have V5:=hq1.free;have Y2:=X2.out.later Oc;have c2:=Y2.cell;have l2:=Y2.lt;have hl2:=X2.out.lt;have hl3:=X3.out.lt;have hl4:=HL4.out;have m1:gW≠w.heap.size+1:=by omega
 have m2:jL≠w.heap.size+1:=by omega
 clear iy pF hf jS jd iY iZ nH nD nG;go_wp2_with fail
 obtain ⟨w4,EW⟩:∃ y,((((wf.setCell ⟨gW,0,none⟩ (.bool bU)).setCell ⟨gW,1,none⟩ (.slice Gz lU Ip)).setCell ⟨jL,0,none⟩ (.bool true)).setCell ⟨jL,1,none⟩ (.slice Gy lV Io))=y:=⟨_,rfl⟩;have hz:Below kV.heap.size kV w4:=by rw [← EW];exact ((((Oc.setCell jG _).setCell jG _).setCell oo _).setCell oo _)
 have X5:Hid (au w4 gW #[.bool bU,.slice Gz lU Ip] 121):=zh (by rw [← EW];exact ((((hq0.set 0 _).set 1 _).setOther _ hne).setOther _ hne));have X6:Hid (au w4 jL #[.bool true,.slice Gy lV Io] 121):=zh (by rw [← EW];exact ((((hq1.setOther _ hne2).setOther _ hne2).set 0 _).set 1 _));have t:=(NU.out.set2 hq0 zd 0 1 (.bool bU) (.slice Gz lU Ip)).set2 ((hq1.setOther (a:=⟨gW,0,none⟩) _ hne2).setOther (a:=⟨gW,1,none⟩) _ hne2) zd 0 1 (.bool true) (.slice Gy lV Io);rw [EW] at t;replace NU:=zh t;clear t;have t:=(NV.out.set2 hq0 zd 0 1 (.bool bU) (.slice Gz lU Ip)).set2 ((hq1.setOther (a:=⟨gW,0,none⟩) _ hne2).setOther (a:=⟨gW,1,none⟩) _ hne2) zd 0 1 (.bool true) (.slice Gy lV Io);rw [EW] at t;replace NV:=zh t;clear t;rw [EW];have HB:=zh (Bt hk5 hz);replace X2:=X2.bl hz;replace X3:=X3.bl hz;replace X4:=X4.bl hz;have ap4:w.heap.size≤gW:=by omega
 have ap3:w.heap.size≤jL:=by omega
 have n1:jL≠w.heap.size+1+1:=by omega
 have n2:jL≠w.heap.size+1+1+1:=by omega
 have n3:gW≠w.heap.size+1+1:=by omega
 have n4:gW≠w.heap.size+1+1+1:=by omega
 have NBq:=zh (NBp.out.later HB.out);have K1:sz 10000 b.natAbs≤549755813888:=by have:=KB.out;omega
 clear EW hq0 SK Sd hq1 Wq V5 Oc hz pY vL NBp NQ NR X1 hk5 G8 G7 Al Ak Ai J4 jG oo uP D5 Y2 c2 l2 hl2 hl3 hl4 Yf HS2 HS3 H0 KA KB HL4;refine (WM _ _ _ _ _ NV.out NBq.out (PY HRz.out) K1).mono ?_;rintro e w5 ⟨bP,Lj,lP,Mh,rfl,h,hm⟩;replace X2:=X2.bl h;replace X3:=X3.bl h;replace X4:=X4.bl h;replace X5:=X5.bl h;replace X6:=X6.bl h;replace NU:=zh (NU.out.later h);replace HB:=zh (Bt HB.out h);have NP:=zh hm;clear h hm NV NBq K1;have c6:=X6.out.cell;have f6:=X6.out.free;have Y2:=X2.out;have c2:=Y2.cell;have l2:=Y2.lt;have Y5:=X5.out;have c5:=Y5.cell;have l5:=Y5.lt;go_wp2_with fail
 clear c6 f6 c2 l2 c5 l5;obtain ⟨w6,EW⟩:∃ y,((w5.setCell ⟨jL,0,none⟩ (.bool bP)).setCell ⟨jL,1,none⟩ (.slice Lj lP Mh))=y:=⟨_,rfl⟩;have q6:=X6.out;have q5:=X5.out;have t:=(HB.out.setCell (p:=⟨jL,0,none⟩) ap3 (.bool bP)).setCell (p:=⟨jL,1,none⟩) ap3 (.slice Lj lP Mh);rw [EW] at t;replace HB:=zh t;clear t;have t:=(q6.set 0 (.bool bP)).set 1 (.slice Lj lP Mh);rw [EW] at t;replace X6:Hid (au w6 jL #[.bool bP,.slice Lj lP Mh] 121):=zh t;clear t;have t:=(q5.setOther (a:=⟨jL,0,none⟩) (.bool bP) hne).setOther (a:=⟨jL,1,none⟩) (.slice Lj lP Mh) hne;rw [EW] at t;replace X5:=zh t;clear t;have t:=(X3.out.setOther (a:=⟨jL,0,none⟩) (.bool bP) (Ne.symm n1)).setOther (a:=⟨jL,1,none⟩) (.slice Lj lP Mh) (Ne.symm n1);rw [EW] at t;replace X3:=zh t;clear t
 have t:=(X4.out.setOther (a:=⟨jL,0,none⟩) (.bool bP) (Ne.symm n2)).setOther (a:=⟨jL,1,none⟩) (.slice Lj lP Mh) (Ne.symm n2);rw [EW] at t;replace X4:=zh t;clear t;have t:=NU.out.set2 q6 zd 0 1 (.bool bP) (.slice Lj lP Mh);rw [EW] at t;replace NU:=zh t;clear t;have t:=NP.out.set2 q6 zd 0 1 (.bool bP) (.slice Lj lP Mh);rw [EW] at t;replace NP:=zh t;clear t q5 q6 X2 Y2 Y5;rw [EW];clear EW;have iQ:=zh (Below.refl w6.heap.size w6);refine aD [(.read,0),(.ext,1),(.ext,2),(.fin,3)] zk zk zR zP ?_;refine Wk.out ?_;have Tm:=X5.out.cell;have Rn:=X5.out.lt;refine zS ?_;clear Tm Rn;refine bW rfl rfl (fun we hbe J hJ=>?_);go_simp;have hx:Below w6.heap.size w6 we:=ah;have dW:=zh (Bt HB.out hx);refine (iP 1 _ zo zo).mono ?_;rintro e u1 ⟨vi,rfl,h,hm⟩;have hy:=Bt hx h;refine hJ _ _ h ?_;clear hJ J hbe hx h dW;replace X3:=X3.bl hy;replace X4:=X4.bl hy
 replace X5:=X5.bl hy;replace X6:=X6.bl hy;replace NU:=zh (NU.out.later hy);replace NP:=zh (NP.out.later hy);replace HB:=zh (Bt HB.out hy);replace iQ:=zh (Bt iQ.out hy);clear hy;have FI:=zh hm;clear hm;have Tm:=X5.out.cell;have Rn:=X5.out.lt;refine zS ?_;clear Tm Rn;refine bW rfl rfl (fun we hbe J hJ=>?_);go_simp;have hx:Below u1.heap.size u1 we:=ah;have dW:=zh (Bt HB.out hx);refine (TL _ _ _ _ _ (NU.out.later hx) (FI.out.later hx) (PY HQ.out) YV).mono ?_;rintro e u2 ⟨bX,Bw,lX,BS,rfl,h,hm⟩;have hy:=Bt hx h;refine hJ _ _ h ?_;clear hJ J hbe hx h dW;replace X3:=X3.bl hy;replace X4:=X4.bl hy;replace X5:=X5.bl hy;replace X6:=X6.bl hy;replace NU:=zh (NU.out.later hy);replace NP:=zh (NP.out.later hy);replace FI:=zh (FI.out.later hy);replace HB:=zh (Bt HB.out hy);replace iQ:=zh (Bt iQ.out hy);clear hy;have FX:=zh hm;clear hm;have Tm:=X5.out.cell
 have Rn:=X5.out.lt;refine zS ?_;clear Tm Rn;refine mJ [_] rfl (fun u3 hbf=>?_);have hy:Below u2.heap.size u2 u3:=ah;replace X3:=X3.bl hy;replace X4:=X4.bl hy;replace X5:=X5.bl hy;replace X6:=X6.bl hy;replace NU:=zh (NU.out.later hy);replace NP:=zh (NP.out.later hy);replace FI:=zh (FI.out.later hy);replace FX:=zh (FX.out.later hy);replace HB:=zh (Bt HB.out hy);clear hy hbf iQ;have q5:=X5.out;have c5:=q5.cell;have f5:=q5.free;clear FI NU;go_wp2_with fail
 clear c5 f5;obtain ⟨w8,EW⟩:∃ y,((u3.setCell ⟨gW,0,none⟩ (.bool bX)).setCell ⟨gW,1,none⟩ (.slice Bw lX BS))=y:=⟨_,rfl⟩;have t:=(HB.out.setCell (p:=⟨gW,0,none⟩) ap4 (.bool bX)).setCell (p:=⟨gW,1,none⟩) ap4 (.slice Bw lX BS);rw [EW] at t;replace HB:=zh t;clear t;have t:=(q5.set 0 (.bool bX)).set 1 (.slice Bw lX BS);rw [EW] at t;replace X5:Hid (au w8 gW #[.bool bX,.slice Bw lX BS] 121):=zh t;clear t;have t:=(X6.out.setOther (a:=⟨gW,0,none⟩) (.bool bX) hne2).setOther (a:=⟨gW,1,none⟩) (.slice Bw lX BS) hne2;rw [EW] at t;replace X6:=zh t;clear t;have t:=(X3.out.setOther (a:=⟨gW,0,none⟩) (.bool bX) (Ne.symm n3)).setOther (a:=⟨gW,1,none⟩) (.slice Bw lX BS) (Ne.symm n3);rw [EW] at t;have h3:=t;clear t;have t:=(X4.out.setOther (a:=⟨gW,0,none⟩) (.bool bX) (Ne.symm n4)).setOther (a:=⟨gW,1,none⟩) (.slice Bw lX BS) (Ne.symm n4);rw [EW] at t;have h4:=t;clear t
 have t:=NP.out.set2 q5 zd 0 1 (.bool bX) (.slice Bw lX BS);rw [EW] at t;replace NP:=zh t;clear t;have t:=FX.out.set2 q5 zd 0 1 (.bool bX) (.slice Bw lX BS);rw [EW] at t;replace FX:=zh t;clear t q5 X3 X4;rw [EW];clear EW;have c5:=X5.out.cell;have c6:=X6.out.cell;have c3:=h3.cell;have c4:=h4.cell;have f3:=h3.free;have f4:=h4.free;clear X5 X6 hne hne2 HQ HRz;go_region
 go_wp2_with fail
 have h4b:=(h4.setOther (a:=⟨w.heap.size+1+1,0,none⟩) (.bool bX) zi).setOther (a:=⟨w.heap.size+1+1,1,none⟩) (.slice Bw lX BS) zi;have h3b:=(((h3.set 0 (.bool bX)).set 1 (.slice Bw lX BS)).setOther (a:=⟨w.heap.size+1+1+1,0,none⟩) (.bool bP) zi).setOther (a:=⟨w.heap.size+1+1+1,1,none⟩) (.slice Lj lP Mh) zi;have hU:=(FX.out.set2 h3 zd 0 1 (.bool bX) (.slice Bw lX BS)).set2 h4b zd 0 1 (.bool bP) (.slice Lj lP Mh);have hV:=(NP.out.set2 h3 zd 0 1 (.bool bX) (.slice Bw lX BS)).set2 h4b zd 0 1 (.bool bP) (.slice Lj lP Mh);have hk:=HB.out;refine Qh rfl rfl (au.drew h3b) Tryz.underlying121 rfl zk rfl (au.drew ((h4b.set 0 (.bool bP)).set 1 (.slice Lj lP Mh))) Tryz.underlying121 rfl zk ?_;exact ⟨_,_,rfl,ah,hU.later (Below.drew (Below.refl _ _)),hV.later (Below.drew (Below.refl _ _))⟩
theorem OM (x y:Value) (a b:Int) (w:World) (hx:Pl w x a) (hy:Pl w y b) (ha:sz 10000 a.natAbs≤274877906944) (hb:sz 10000 b.natAbs≤274877906944) (hb0:0<b):Calls Tryz.prog 185 #[x,y] w (tQ w (a / b) (a%b)):=by
 by_cases h:0≤a∨b ∣ a
 ·exact qW x y a b w hx hy ha hb hb0 h
 ·exact OL x y a b w hx hy ha hb zo hb0 (fun e=>h (.inr e))
end Go.Proofs.aC
namespace Go.Proofs.aH
open Go Go.RowKit Go.SW Go.Num Go.Mem Go.Proofs Go.Dec Go.Proofs.aC Go.cK
def Um (q:Rat):Int:=q.num / (q.den:Int)
theorem _root_.Go.Mem.Pl.alloc {w:World} {v:Value} {z:Int} (h:Pl w v z) (o:Obj):Pl (w.alloc o) v z:=h.later ((Below.refl _ _).alloc (Nat.le_refl _) _)
theorem MN (x:Value) (p:Rat) (w:World) (hx:Ra w x p) (h1:kL 10000000000 p):Calls Tryz.prog 236 #[x] w (A9 w (Um p)):=by
 obtain ⟨bA,jJ,lA,jN,Tx,zq,Ro,AL,rfl,hA1,hA2⟩:=id hx;have QA:=zh hx;have NA:=zh hA1;have su:=zh hA2;obtain ⟨s1,s2⟩:=kL.four h1;have S1:Hid (sz 10000 p.num.natAbs≤274877906944):=zh zo;have S2:Hid (sz 10000 (p.den:Int).natAbs≤274877906944):=zh zo;have S3:Hid ((0:Int)<(p.den:Int)):=zh (by have:=p.den_pos;omega);clear hx hA1 hA2 s1 s2 h1;unfold Um;go_enter Tryz.func236,Tryz.ntmps236
 go_wp2_with fail
 obtain ⟨fI,EW,hz,X1,X2⟩:=yB w #[.bool bA,.slice jJ lA jN,.bool Tx,.slice zq Ro AL] 123 #[.bool false,.slice none 0 0] 121;rw [EW];replace NA:=zh (NA.out.later hz);replace su:=zh (su.out.later hz);have hk2:=Bt (Below.refl _ _) hz;clear EW hz;refine (aC.OM _ _ _ _ _ NA.out su.out S1.out S2.out S3.out).mono ?_;rintro e kV ⟨q,r,rfl,hb3,hq,hr⟩;obtain ⟨bT,paQ,lQ,caQ,rfl⟩:=hq.agg;obtain ⟨bS,Va,lR,Wv,rfl⟩:=hr.agg;replace NA:=zh (NA.out.later hb3);replace su:=zh (su.out.later hb3);replace X1:=X1.bl hb3;replace X2:=X2.bl hb3;have hk5:=Bt hk2 hb3;clear hk2;have NQ:=zh hq;clear hb3 hq;obtain ⟨nH,nD,nG⟩:=X2.clf;have hres:=((X2.out.alloc (.cells #[.bool bT,.slice paQ lQ caQ] 121)).alloc (.cells #[.bool bS,.slice Va lR Wv] 121));have tJ:=hres.cell;have tH:=hres.free;go_wp2_with fail
 have hQ:=(NQ.out.alloc (.cells #[.bool bT,.slice paQ lQ caQ] 121)).alloc (.cells #[.bool bS,.slice Va lR Wv] 121);refine dG rfl rfl aT Tryz.underlying121 rfl zk ?_;exact ⟨_,rfl,ah,hQ.set2 hres zd _ _ _ _⟩
end Go.Proofs.aH
namespace Go.Proofs.aC
open Go Go.RowKit Go.SW Go.Num Go.Mem Go.Proofs Go.Dec
def JI (z:Int):Int × Int:=if -9223372036854775808≤z∧z≤9223372036854775807 then (z,0) else (0,6)
theorem Jg:sz 10000 (-9223372036854775808:Int).natAbs≤549755813888:=by decide+kernel
theorem PX:sz 10000 (9223372036854775807:Int).natAbs≤549755813888:=by decide+kernel
theorem Bq {l:List Nat} {k:Nat} (h:k<l.length):val 10000 (l.drop k)=l.getD k 0+10000*val 10000 (l.drop (k+1)):=by
 rw [List.drop_eq_getElem_cons h];simp [val,h]
theorem DU (x:Value) (z:Int) (w:World) (hx:Pl w x z) (hs:sz 10000 z.natAbs≤549755813888) (hz0:z< -9223372036854775808) :
  Calls Tryz.prog 235 #[x] w (fun e w'=>e= .returned (.tuple #[.int .i64 0,.int .i64 6])∧Below w.heap.size w w'):=by
 obtain ⟨bA,jJ,lA,jN,rfl⟩:=hx.agg
 have O1:Hid (∀ v v' W,Pl W v z→Pl W v' (-9223372036854775808)→Calls Tryz.prog 254 #[v,v'] W (fun e w'=>e= .returned (.int .i64 (-1))∧Below W.heap.size W w')):=zh fun v v' W h h'=>by
  have:=jW v v' z (-9223372036854775808) W h h' hs Jg
  rwa [show vg z (-9223372036854775808)= -1 by unfold vg;rw [if_pos hz0]] at this
 clear hs hz0;have FA:=zh hx;go_enter Tryz.func235,Tryz.ntmps235
 go_wp2_with fail
 obtain ⟨u0,EW,hz,HX⟩:=oz w #[.bool bA,.slice jJ lA jN] 121;rw [EW];replace FA:=zh (FA.out.later hz);have HB:=zh hz;clear EW hz hx;have iQ:=zh (Below.refl u0.heap.size u0);refine aD [(.read,0),(.ext,1),(.ext,2),(.pure,3),(.pure,4),(.read,5),(.ext,6),(.ext,7),(.pure,8),(.pure,9)] zk zk zR zP ?_;refine Wk.out ?_;have jU:=HX.out.cell;have jM:=HX.out.lt;refine zS ?_;clear jU jM;refine bW rfl rfl (fun we hbe J hJ=>?_);go_simp;have hx:Below u0.heap.size u0 we:=ah;have dW:=zh (Bt HB.out hx);refine (iP _ _ zo zo).mono ?_;rintro e u1 ⟨vi,rfl,h,hm⟩;have hy:=Bt hx h;refine hJ _ _ h ?_;clear hJ J hbe hx h dW;replace HX:=zh (HX.out.later hy);replace FA:=zh (FA.out.later hy);replace HB:=zh (Bt HB.out hy);replace iQ:=zh (Bt iQ.out hy);clear hy;have FI:=zh hm;clear hm;have jU:=HX.out.cell;have jM:=HX.out.lt;refine zS ?_;clear jU jM
 refine bW rfl rfl (fun we hbe J hJ=>?_);go_simp;have hx:Below u1.heap.size u1 we:=ah;have dW:=zh (Bt HB.out hx);refine (O1.out _ _ _ (FA.out.later hx) (FI.out.later hx)).mono ?_;rintro e u2 ⟨rfl,h⟩;have hy:=Bt hx h;refine hJ _ _ h ?_;clear hJ J hbe hx h dW;replace HX:=zh (HX.out.later hy);replace FA:=zh (FA.out.later hy);replace FI:=zh (FI.out.later hy);replace HB:=zh (Bt HB.out hy);replace iQ:=zh (Bt iQ.out hy);clear hy;have jU:=HX.out.cell;have jM:=HX.out.lt;refine zS ?_;clear jU jM;refine je (fun u3 hbf=>?_);have hy:Below u2.heap.size u2 u3:=ah;replace HX:=zh (HX.out.later hy);replace FA:=zh (FA.out.later hy);replace FI:=zh (FI.out.later hy);replace HB:=zh (Bt HB.out hy);clear hy hbf iQ;go_wp2_with fail
 go_ret2
 exact ⟨rfl,HB.out⟩
theorem BG (x:Value) (z:Int) (w:World) (hx:Pl w x z) (hs:sz 10000 z.natAbs≤549755813888) (hz0:9223372036854775807<z) :
  Calls Tryz.prog 235 #[x] w (fun e w'=>e= .returned (.tuple #[.int .i64 0,.int .i64 6])∧Below w.heap.size w w'):=by
 obtain ⟨bA,jJ,lA,jN,rfl⟩:=hx.agg
 have O1:Hid (∀ v v' W,Pl W v z→Pl W v' (-9223372036854775808)→Calls Tryz.prog 254 #[v,v'] W (fun e w'=>e= .returned (.int .i64 1)∧Below W.heap.size W w')):=zh fun v v' W h h'=>by
  have:=jW v v' z (-9223372036854775808) W h h' hs Jg
  rwa [show vg z (-9223372036854775808)=1 by unfold vg;rw [if_neg zo,if_pos zo]] at this
 have O2:Hid (∀ v v' W,Pl W v z→Pl W v' 9223372036854775807→Calls Tryz.prog 254 #[v,v'] W (fun e w'=>e= .returned (.int .i64 1)∧Below W.heap.size W w')):=zh fun v v' W h h'=>by
  have:=jW v v' z 9223372036854775807 W h h' hs PX
  rwa [show vg z 9223372036854775807=1 by unfold vg;rw [if_neg zo,if_pos hz0]] at this
 clear hs hz0;have FA:=zh hx;go_enter Tryz.func235,Tryz.ntmps235
 go_wp2_with fail
 obtain ⟨u0,EW,hz,HX⟩:=oz w #[.bool bA,.slice jJ lA jN] 121;rw [EW];replace FA:=zh (FA.out.later hz);have HB:=zh hz;clear EW hz hx;have iQ:=zh (Below.refl u0.heap.size u0);refine aD [(.read,0),(.ext,1),(.ext,2),(.pure,3),(.pure,4),(.read,5),(.ext,6),(.ext,7),(.pure,8),(.pure,9)] zk zk zR zP ?_;refine Wk.out ?_;have jU:=HX.out.cell;have jM:=HX.out.lt;refine zS ?_;clear jU jM;refine bW rfl rfl (fun we hbe J hJ=>?_);go_simp;have hx:Below u0.heap.size u0 we:=ah;have dW:=zh (Bt HB.out hx);refine (iP _ _ zo zo).mono ?_;rintro e u1 ⟨vi,rfl,h,hm⟩;have hy:=Bt hx h;refine hJ _ _ h ?_;clear hJ J hbe hx h dW;replace HX:=zh (HX.out.later hy);replace FA:=zh (FA.out.later hy);replace HB:=zh (Bt HB.out hy);replace iQ:=zh (Bt iQ.out hy);clear hy;have FI:=zh hm;clear hm;have jU:=HX.out.cell;have jM:=HX.out.lt;refine zS ?_;clear jU jM
 refine bW rfl rfl (fun we hbe J hJ=>?_);go_simp;have hx:Below u1.heap.size u1 we:=ah;have dW:=zh (Bt HB.out hx);refine (O1.out _ _ _ (FA.out.later hx) (FI.out.later hx)).mono ?_;rintro e u2 ⟨rfl,h⟩;have hy:=Bt hx h;refine hJ _ _ h ?_;clear hJ J hbe hx h dW;replace HX:=zh (HX.out.later hy);replace FA:=zh (FA.out.later hy);replace FI:=zh (FI.out.later hy);replace HB:=zh (Bt HB.out hy);replace iQ:=zh (Bt iQ.out hy);clear hy;have jU:=HX.out.cell;have jM:=HX.out.lt;refine zS ?_;clear jU jM;refine bW rfl rfl (fun we hbe J hJ=>?_);go_simp;have hx:Below u2.heap.size u2 we:=ah;have dW:=zh (Bt HB.out hx);refine (iP _ _ zo zo).mono ?_;rintro e u3 ⟨vk,rfl,h,hm⟩;have hy:=Bt hx h;refine hJ _ _ h ?_;clear hJ J hbe hx h dW;replace HX:=zh (HX.out.later hy);replace FA:=zh (FA.out.later hy);replace FI:=zh (FI.out.later hy);replace HB:=zh (Bt HB.out hy)
 replace iQ:=zh (Bt iQ.out hy);clear hy;have FK:=zh hm;clear hm;have jU:=HX.out.cell;have jM:=HX.out.lt;refine zS ?_;clear jU jM;refine bW rfl rfl (fun we hbe J hJ=>?_);go_simp;have hx:Below u3.heap.size u3 we:=ah;have dW:=zh (Bt HB.out hx);refine (O2.out _ _ _ (FA.out.later hx) (FK.out.later hx)).mono ?_;rintro e u4 ⟨rfl,h⟩;have hy:=Bt hx h;refine hJ _ _ h ?_;clear hJ J hbe hx h dW;replace HX:=zh (HX.out.later hy);replace FA:=zh (FA.out.later hy);replace FI:=zh (FI.out.later hy);replace FK:=zh (FK.out.later hy);replace HB:=zh (Bt HB.out hy);replace iQ:=zh (Bt iQ.out hy);clear hy;have jU:=HX.out.cell;have jM:=HX.out.lt;refine zS ?_;clear jU jM;refine je (fun u5 hbf=>?_);have hy:Below u4.heap.size u4 u5:=ah;replace HX:=zh (HX.out.later hy);replace FA:=zh (FA.out.later hy);replace FI:=zh (FI.out.later hy);replace FK:=zh (FK.out.later hy)
 replace HB:=zh (Bt HB.out hy);clear hy hbf iQ;go_wp2_with fail
 go_ret2
 exact ⟨rfl,HB.out⟩
theorem GZ (x:Value) (z:Int) (w:World) (hx:Pl w x z) (hs:sz 10000 z.natAbs≤549755813888) (hz0: -9223372036854775808≤z∧z≤9223372036854775807) :
  Calls Tryz.prog 235 #[x] w (fun e w'=>e= .returned (.tuple #[.int .i64 z,.int .i64 0])∧Below w.heap.size w w'):=by
 obtain ⟨bA,jJ,lA,jN,rfl⟩:=hx.agg;have O1:Hid (∃ o:Int,0≤o∧∀ v v' W,Pl W v z→Pl W v' (-9223372036854775808)→Calls Tryz.prog 254 #[v,v'] W (fun e w'=>e= .returned (.int .i64 o)∧Below W.heap.size W w')):=zh ⟨vg z (-9223372036854775808),by unfold vg;rw [if_neg zo];split<;>omega,fun v v' W h h'=>jW v v' z (-9223372036854775808) W h h' hs Jg⟩;have O2:Hid (∃ o:Int,o≤0∧∀ v v' W,Pl W v z→Pl W v' 9223372036854775807→Calls Tryz.prog 254 #[v,v'] W (fun e w'=>e= .returned (.int .i64 o)∧Below W.heap.size W w')):=zh ⟨vg z 9223372036854775807,by unfold vg;split;omega;rw [if_neg zo];omega,fun v v' W h h'=>jW v v' z 9223372036854775807 W h h' hs PX⟩;obtain ⟨o1,ho1,O1⟩:=O1.out;obtain ⟨o2,ho2,O2⟩:=O2.out;replace O1:=zh O1;replace O2:=zh O2;have q1:decide (o1<0)=false:=decide_eq_false zo;have q2:decide (0<o2)=false:=decide_eq_false zo;obtain ⟨hn,hbz⟩:=hx.nm
 obtain ⟨l,El⟩:∃ l,bg 10000 z.natAbs=l:=⟨_,rfl⟩;obtain ⟨pa',Po,e,k1,k2,k3⟩:=hn.read;simp only [Value.slice.injEq] at e;obtain ⟨rfl,rfl,rfl⟩:=e;rw [El] at k3;have hl:l.length=sz 10000 z.natAbs:=by rw [← El];rfl
 have hvl:val 10000 l=z.natAbs:=by rw [← El];exact aM zo _
 have hlL:sz 10000 z.natAbs≤549755813888:=hs;obtain ⟨L,EL⟩:∃ L,sz 10000 z.natAbs=L:=⟨_,rfl⟩;rw [EL] at hl k1 k3 hx hlL;have K3:=zh k3;have HL:=zh hl;have Ye:=zh hvl;have Xj:=zh hbz;have HZ0:=zh hz0;clear hs hz0 ho1 ho2 k3 hl hvl hbz hn El;rw [EL];clear EL;have FA:=zh hx;go_enter Tryz.func235,Tryz.ntmps235
 go_wp2_with fail
 obtain ⟨u0,EW,hz,HX⟩:=oz w #[.bool bA,.slice jJ L jN] 121;rw [EW];replace FA:=zh (FA.out.later hz);have HB:=zh hz;clear EW hz hx;have iQ:=zh (Below.refl u0.heap.size u0);refine aD [(.read,0),(.ext,1),(.ext,2),(.pure,3),(.pure,4),(.read,5),(.ext,6),(.ext,7),(.pure,8),(.pure,9)] zk zk zR zP ?_;refine Wk.out ?_;have jU:=HX.out.cell;have jM:=HX.out.lt;refine zS ?_;clear jU jM;refine bW rfl rfl (fun we hbe J hJ=>?_);go_simp;have hx:Below u0.heap.size u0 we:=ah;have dW:=zh (Bt HB.out hx);refine (iP _ _ zo zo).mono ?_;rintro e u1 ⟨vi,rfl,h,hm⟩;have hy:=Bt hx h;refine hJ _ _ h ?_;clear hJ J hbe hx h dW;replace HX:=zh (HX.out.later hy);replace FA:=zh (FA.out.later hy);replace HB:=zh (Bt HB.out hy);replace iQ:=zh (Bt iQ.out hy);clear hy;have FI:=zh hm;clear hm;have jU:=HX.out.cell;have jM:=HX.out.lt;refine zS ?_;clear jU jM
 refine bW rfl rfl (fun we hbe J hJ=>?_);go_simp;have hx:Below u1.heap.size u1 we:=ah;have dW:=zh (Bt HB.out hx);refine (O1.out _ _ _ (FA.out.later hx) (FI.out.later hx)).mono ?_;rintro e u2 ⟨rfl,h⟩;have hy:=Bt hx h;refine hJ _ _ h ?_;clear hJ J hbe hx h dW;replace HX:=zh (HX.out.later hy);replace FA:=zh (FA.out.later hy);replace FI:=zh (FI.out.later hy);replace HB:=zh (Bt HB.out hy);replace iQ:=zh (Bt iQ.out hy);clear hy;have jU:=HX.out.cell;have jM:=HX.out.lt;refine zS ?_;clear jU jM;refine bW rfl rfl (fun we hbe J hJ=>?_);go_simp;have hx:Below u2.heap.size u2 we:=ah;have dW:=zh (Bt HB.out hx);refine (iP _ _ zo zo).mono ?_;rintro e u3 ⟨vk,rfl,h,hm⟩;have hy:=Bt hx h;refine hJ _ _ h ?_;clear hJ J hbe hx h dW;replace HX:=zh (HX.out.later hy);replace FA:=zh (FA.out.later hy);replace FI:=zh (FI.out.later hy);replace HB:=zh (Bt HB.out hy)
 replace iQ:=zh (Bt iQ.out hy);clear hy;have FK:=zh hm;clear hm;have jU:=HX.out.cell;have jM:=HX.out.lt;refine zS ?_;clear jU jM;refine bW rfl rfl (fun we hbe J hJ=>?_);go_simp;have hx:Below u3.heap.size u3 we:=ah;have dW:=zh (Bt HB.out hx);refine (O2.out _ _ _ (FA.out.later hx) (FK.out.later hx)).mono ?_;rintro e u4 ⟨rfl,h⟩;have hy:=Bt hx h;refine hJ _ _ h ?_;clear hJ J hbe hx h dW;replace HX:=zh (HX.out.later hy);replace FA:=zh (FA.out.later hy);replace FI:=zh (FI.out.later hy);replace FK:=zh (FK.out.later hy);replace HB:=zh (Bt HB.out hy);replace iQ:=zh (Bt iQ.out hy);clear hy;have jU:=HX.out.cell;have jM:=HX.out.lt;refine zS ?_;clear jU jM;refine je (fun u5 hbf=>?_);have hy:Below u4.heap.size u4 u5:=ah;replace HX:=zh (HX.out.later hy);replace FA:=zh (FA.out.later hy);replace FI:=zh (FI.out.later hy);replace FK:=zh (FK.out.later hy)
 replace HB:=zh (Bt HB.out hy);clear hy hbf iQ;obtain ⟨ws,EZ⟩:∃ y,y=u5:=⟨_,rfl⟩;have c0:=HX.out.cell;have l0:=HX.out.lt;rw [← EZ] at HX HB c0 l0 ⊢;clear EZ O1 O2 FA FI FK;go_wp2_with fail
 go_loopw [4,5] (fun nv iv wr=>∃ (q n:Int), -1≤q∧q<L∧iv= .int .i64 q∧nv= .int .i64 n∧Hid (n= -(val 10000 (l.drop (q+1).toNat):Int))∧wr=ws) (fun _ iv _=>(intOf iv+1).toNat)
 case atStart =>
  have e:((L:Int) - 1+1).toNat=l.length:=by have:=HL.out;omega
  exact ⟨(L:Int) - 1,0,by omega,by omega,by go_num,rfl,zh (by rw [e,List.drop_length];rfl),rfl⟩
 case round =>
  obtain ⟨q,n,hq1,hq2,rfl,rfl,HN,rfl⟩:=hrel
  by_cases hq:q<0
  ·obtain rfl:q= -1:=by omega
   have hn:n= -(z.natAbs:Int):=by have:=HN.out;rw [← Ye.out];simpa using this
   clear HN hq hq1 hq2
   rcases (show z<0∨0≤z by omega) with h0|h0
   ·have hb1:bA=true:=Xj.out.trans (decide_eq_true h0);have hnz:n=z:=by omega
    subst hb1 hnz;go_wp2_with fail
    go_ret2
    exact ⟨rfl,HB.out⟩
   ·have hb1:bA=false:=Xj.out.trans (decide_eq_false zo);have hnz:n= -z:=by omega
    subst hb1 hnz
    have hw:IntKind.i64.wrap (- -z)=z:=by
     have:=HZ0.out;rw [Int.neg_neg];unfold IntKind.wrap;simp [IntKind.bits,IntKind.signed];omega
    have hw2:wrap64 (z.natAbs:Int)=z:=by have:=HZ0.out;unfold wrap64;omega
    go_wp2_with fail
    go_ret2
    refine ⟨?_,HB.out⟩
    show Ending.returned (.tuple #[.int .i64 (wrap64 _),.int .i64 0])=_
    rw [hw2]
  ·obtain ⟨k,rfl⟩:∃ k:Nat,q=(k:Int):=⟨q.toNat,by omega⟩;obtain ⟨b,off,e,h1,h2⟩:=K3.out k zo;have hcl:=(HB.out.cell (p:=⟨b,off+k,none⟩) h1).trans h2;have hst:=Bq (l:=l) (k:=k) (by have:=HL.out;omega);have hle:=qd 10000 zo l k;have hv:=Ye.out;have hz0:=HZ0.out;have hn:=HN.out;rw [show ((k:Int)+1).toNat=k+1 by omega] at hn;obtain ⟨d,ed⟩:∃ d,l.getD k 0=d:=⟨_,rfl⟩;obtain ⟨m,em⟩:∃ m,val 10000 (l.drop (k+1))=m:=⟨_,rfl⟩;rw [ed,em] at hst;rw [ed] at hcl;rw [em] at hn;subst hn
   have hw1:IntKind.i64.wrap (-(m:Int)*10000)= -(m:Int)*10000:=by
    unfold IntKind.wrap;simp [IntKind.bits,IntKind.signed];omega
   have hw2:IntKind.i64.wrap (-(m:Int)*10000 - (d:Int))= -((d+10000*m:Nat):Int):=by
    unfold IntKind.wrap;simp [IntKind.bits,IntKind.signed];omega
   have HS:=zh hst;subst e;have hbl:=Nat.lt_of_lt_of_le h1 HB.out.size;clear hst hle hv hz0 h1 h2 HN;go_wp2_with fail
   go_roundw
   case rel=>exact ⟨(k:Int) - 1,_,by omega,by omega,by go_num,rfl,zh (by rw [show ((k:Int) - 1+1).toNat=k by omega,HS.out];omega),trivial⟩
   case measure=>simp [intOf]<;>omega
theorem xM (x:Value) (z:Int) (w:World) (hx:Pl w x z) (hs:sz 10000 z.natAbs≤549755813888) :
  Calls Tryz.prog 235 #[x] w (fun e w'=>e= .returned (.tuple #[.int .i64 (JI z).1,.int .i64 (JI z).2])∧Below w.heap.size w w'):=by
 unfold JI
 by_cases h: -9223372036854775808≤z∧z≤9223372036854775807
 ·rw [if_pos h];exact GZ x z w hx hs h
 ·rw [if_neg h]
  by_cases h2:z< -9223372036854775808
  ·exact DU x z w hx hs h2
  ·exact BG x z w hx hs zo
end Go.Proofs.aC
namespace Go.Proofs.bJ
open Go Go.RowKit Go.SW Go.Num Go.Mem Go.Proofs Go.Dec Go.cK Go.Proofs.dJ Go.Proofs.aH Go.Proofs.aC
theorem jo (lo hi:Int) (w:World):Calls Tryz.prog 89 #[.agg #[.int .i64 lo,.int .i64 hi]] w (fun e w'=>e= .returned (.bool (gV lo hi))∧Below w.heap.size w w'):=by
 unfold gV;cases h1:decide (-1000000000000000000≤lo)<;>cases h2:decide (lo≤hi)<;>cases h3:decide (hi≤1000000000000000000)
 all_goals
  go_enter Tryz.func89,Tryz.ntmps89
  go_wp2_with fail
  go_ret
  exact ⟨rfl,ah⟩
def un (n:Int):Rat:=(n:Rat) / ((1000000000000:Int):Rat)
theorem mF (n:Int) (h1: -9223372036854775808≤n) (h2:n≤9223372036854775807) (w:World):Calls Tryz.prog 199 #[.int .i64 n] w (mY w (un n)):=by
 have H:=zh (fun W=>A8 n 1000000000000 h1 h2 zo zo zo W);have e:((n:Rat) / ((1000000000000:Int):Rat))=un n:=rfl;rw [e] at H;generalize un n=q at *;go_enter Tryz.func199,Tryz.ntmps199
 go_wp2_with fail
 obtain ⟨fI,EW,hz,X1⟩:=oz w #[.bool false,.slice none 0 0,.bool false,.slice none 0 0] 123;rw [EW];have hk2:=Bt (Below.refl _ _) hz;clear EW hz;refine (H.out _).mono ?_;rintro e kV ⟨v,rfl,hb3,hv4⟩;obtain ⟨bC,GA,lC,Iq,bCd,aI9,lCd,aN9,rfl,hx4,hy4⟩:=id hv4;replace X1:=X1.bl hb3;have hk5:=Bt hk2 hb3;clear hk2;have QC:=zh hv4;clear hb3 hv4 hx4 hy4;obtain ⟨jd,iY,iZ⟩:=X1.clf;have hres:=X1.out;have tJ:=hres.cell;have tH:=hres.free;go_wp2_with fail
 refine dG rfl rfl aT Tryz.underlying123 rfl zk ?_;exact ⟨_,rfl,ah,Ra.rW QC.out hres zd _ _ _ _⟩
def aD6 (w:World) (q:Rat) (e:Ending) (w':World):Prop:=∃ b pa l ca b' pa' l' Po,e= .returned (.agg #[.bool b,.slice pa l ca,.bool b',.slice pa' l' Po])∧Below w.heap.size w w'∧Ra w' (.agg #[.bool b,.slice pa l ca,.bool b',.slice pa' l' Po]) q
theorem Y6 {w:World} {q:Rat} {e:Ending} {w':World} (h:mY w q e w'):aD6 w q e w':=by
 obtain ⟨v,rfl,h,hv⟩:=h;obtain ⟨b,pa,l,ca,b',pa',l',Po,rfl, -⟩:=id hv;exact ⟨b,pa,l,ca,b',pa',l',Po,rfl,h,hv⟩
def kN (a b:Rat):(Int × Int) × Int:=gF (Um (a*((1000000000000:Int):Rat))) (-(Um (-(b*((1000000000000:Int):Rat)))))
theorem am3:((1000000000000:Int):Rat) / ((1:Int):Rat)=((1000000000000:Int):Rat):=by decide+kernel
theorem La:kL 2 ((1000000000000:Int):Rat):=by constructor<;>decide+kernel
theorem Sg {q:Rat} {k:Nat} (h:kL k q) (hk:k≤100000):sz 10000 (Um q).natAbs≤549755813888:=by
 obtain ⟨s1,s2⟩:=kL.four h;have hd:=q.den_pos
 have h1:(Um q).natAbs≤q.num.natAbs:=by
  unfold Um;exact Int.natAbs_ediv_le_natAbs _ _
 exact Nat.le_trans (dM zo h1) zo
theorem Ew {X Y:Int} (h:X< -1000000000000000000∨1000000000000000000<Y∨Y<X):gV X Y=false:=by
 unfold gV
 rcases h with h|h|h
 ·rw [decide_eq_false (show ¬ -1000000000000000000≤X by omega)];rfl
 ·rw [decide_eq_false (show ¬ Y≤1000000000000000000 by omega)];simp
 ·rw [decide_eq_false (show ¬ X≤Y by omega)];simp
theorem EH {X Y:Int} (h:gV X Y=true): -1000000000000000000≤X∧X≤Y∧Y≤1000000000000000000:=by
 unfold gV at h
 simpa using h
theorem AY (x y:Value) (a b:Rat) (w:World) (hx:Ra w x a) (hy:Ra w y b) (h1:kL 1000 a) (h2:kL 1000 b) :
  Calls Tryz.prog 198 #[x,y] w (fun e w'=>e= .returned (dV (kN a b))∧Below w.heap.size w w'):=by
 obtain ⟨bA,jJ,lA,jN,Tx,zq,Ro,AL,rfl, -⟩:=id hx;obtain ⟨bB,nu,lB,nC,bBd,Jz,Zu,Ki,rfl, -⟩:=id hy;have s1:=oP (h1.mono (show 1000≤1000 by omega)) (La.mono (show 2≤1000 by omega));have s2:=oP (h2.mono (show 1000≤1000 by omega)) (La.mono (show 2≤1000 by omega));have hQ:=zh (fun W=>(A8 1000000000000 1 zo zo zo zo zo W).mono fun _ _ q=>Y6 (am3 ▸ q));have T1:=zh (fun v v' W (h:Ra W v a) (h':Ra W v' ((1000000000000:Int):Rat))=>ig v v' a _ W h h' (h1.mono zo) (La.mono zo));have T2:=zh (fun v v' W (h:Ra W v b) (h':Ra W v' ((1000000000000:Int):Rat))=>ig v v' b _ W h h' (h2.mono zo) (La.mono zo));have D1:=zh (fun v W (h:Ra W v (a*((1000000000000:Int):Rat)))=>MN v _ W h (s1.mono zo));have D2:=zh (fun v W (h:Ra W v (-(b*((1000000000000:Int):Rat))))=>MN v _ W h ((Dj s2).mono zo));have z1:=Sg s1 zo
 have z2:=Sg (Dj s2) zo;unfold kN;generalize ((1000000000000:Int):Rat)=E at *;generalize Um (a*E)=X at *;generalize Um (-(b*E))=Y at *;have J1:=zh (fun v W (h:Pl W v X)=>xM v X W h z1);have J2:=zh (fun v W (h:Pl W v Y)=>xM v Y W h z2);obtain ⟨⟨X',e1⟩,EX⟩:∃ y,JI X=y:=⟨_,rfl⟩;obtain ⟨⟨Y',e2⟩,EY⟩:∃ y,JI Y=y:=⟨_,rfl⟩;rw [EX] at J1;rw [EY] at J2;have HEX:=zh EX;have HEY:=zh EY;have QA:=zh hx;have QB:=zh hy;clear hx hy h1 h2 s1 s2 z1 z2 EX EY;go_enter Tryz.func198,Tryz.ntmps198
 go_wp2_with fail
 obtain ⟨u0,EW,hz,HX,HY,HR⟩:=I7 w #[.bool bA,.slice jJ lA jN,.bool Tx,.slice zq Ro AL] 123 #[.bool bB,.slice nu lB nC,.bool bBd,.slice Jz Zu Ki] 123 #[.int .i64 0,.int .i64 0] 69;rw [EW];replace QA:=zh (QA.out.later hz);replace QB:=zh (QB.out.later hz);have HB:=zh hz;clear EW hz;refine (hQ.out _).mono ?_;rintro e u1 ⟨bO,paO,lO,caO,bOd,Qs,lOd,Te,rfl,h,hm⟩;replace HX:=zh (HX.out.later h);replace HY:=zh (HY.out.later h);replace HR:=zh (HR.out.later h);replace QA:=zh (QA.out.later h);replace QB:=zh (QB.out.later h);replace HB:=zh (Bt HB.out h);clear h;have QO:=zh hm;clear hm;have jU:=HX.out.cell;have jM:=HX.out.lt;go_wp2_with fail
 clear jU jM;obtain ⟨v1,EW,hz,HO⟩:=oz u1 #[.bool bO,.slice paO lO caO,.bool bOd,.slice Qs lOd Te] 123;rw [EW];obtain ⟨bq,ebq⟩:∃ y,u1.heap.size=y:=⟨_,rfl⟩;rw [ebq] at HO ⊢;clear EW ebq;replace HX:=zh (HX.out.later hz);replace HY:=zh (HY.out.later hz);replace HR:=zh (HR.out.later hz);replace QA:=zh (QA.out.later hz);replace QB:=zh (QB.out.later hz);replace QO:=zh (QO.out.later hz);replace HB:=zh (Bt HB.out hz);clear hz;refine (T1.out _ _ _ QA.out QO.out).mono ?_;rintro e u2 ⟨vt,rfl,h,hm⟩;replace HX:=zh (HX.out.later h);replace HY:=zh (HY.out.later h);replace HR:=zh (HR.out.later h);replace QA:=zh (QA.out.later h);replace QB:=zh (QB.out.later h);replace QO:=zh (QO.out.later h);replace HO:=zh (HO.out.later h);replace HB:=zh (Bt HB.out h);clear h;have FT:=zh hm;clear hm;go_wp2_with fail
 refine (D1.out _ _ FT.out).mono ?_;rintro e u3 ⟨vd,rfl,h,hm⟩;replace HX:=zh (HX.out.later h);replace HY:=zh (HY.out.later h);replace HR:=zh (HR.out.later h);replace QA:=zh (QA.out.later h);replace QB:=zh (QB.out.later h);replace QO:=zh (QO.out.later h);replace HO:=zh (HO.out.later h);replace FT:=zh (FT.out.later h);replace HB:=zh (Bt HB.out h);clear h;have FD:=zh hm;clear hm;go_wp2_with fail
 refine (J1.out _ _ FD.out).mono ?_;rintro e u4 ⟨rfl,h⟩;replace HX:=zh (HX.out.later h);replace HY:=zh (HY.out.later h);replace HR:=zh (HR.out.later h);replace QA:=zh (QA.out.later h);replace QB:=zh (QB.out.later h);replace QO:=zh (QO.out.later h);replace HO:=zh (HO.out.later h);replace FT:=zh (FT.out.later h);replace FD:=zh (FD.out.later h);replace HB:=zh (Bt HB.out h);clear h;have xZ:=HY.out.cell;have wZ:=HY.out.lt;have cHO:=HO.out.cell;have lHO:=HO.out.lt;go_wp2_with fail
 clear xZ wZ;clear cHO lHO;clear FT FD;refine (T2.out _ _ _ QB.out QO.out).mono ?_;rintro e u5 ⟨vt2,rfl,h,hm⟩;replace HX:=zh (HX.out.later h);replace HY:=zh (HY.out.later h);replace HR:=zh (HR.out.later h);replace QA:=zh (QA.out.later h);replace QB:=zh (QB.out.later h);replace QO:=zh (QO.out.later h);replace HO:=zh (HO.out.later h);replace HB:=zh (Bt HB.out h);clear h;have FT:=zh hm;clear hm;go_wp2_with fail
 refine (aH.rP _ _ _ FT.out).mono ?_;rintro e u6 ⟨vu,rfl,h,hm⟩;replace HX:=zh (HX.out.later h);replace HY:=zh (HY.out.later h);replace HR:=zh (HR.out.later h);replace QA:=zh (QA.out.later h);replace QB:=zh (QB.out.later h);replace QO:=zh (QO.out.later h);replace HO:=zh (HO.out.later h);replace FT:=zh (FT.out.later h);replace HB:=zh (Bt HB.out h);clear h;have FU:=zh hm;clear hm;go_wp2_with fail
 refine (D2.out _ _ FU.out).mono ?_;rintro e u7 ⟨vd2,rfl,h,hm⟩;replace HX:=zh (HX.out.later h);replace HY:=zh (HY.out.later h);replace HR:=zh (HR.out.later h);replace QA:=zh (QA.out.later h);replace QB:=zh (QB.out.later h);replace QO:=zh (QO.out.later h);replace HO:=zh (HO.out.later h);replace FT:=zh (FT.out.later h);replace FU:=zh (FU.out.later h);replace HB:=zh (Bt HB.out h);clear h;have FD:=zh hm;clear hm;go_wp2_with fail
 refine (J2.out _ _ FD.out).mono ?_;rintro e u8 ⟨rfl,h⟩;replace HX:=zh (HX.out.later h);replace HY:=zh (HY.out.later h);replace HR:=zh (HR.out.later h);replace QA:=zh (QA.out.later h);replace QB:=zh (QB.out.later h);replace QO:=zh (QO.out.later h);replace HO:=zh (HO.out.later h);replace FT:=zh (FT.out.later h);replace FU:=zh (FU.out.later h);replace FD:=zh (FD.out.later h);replace HB:=zh (Bt HB.out h);clear h;have hr:=HR.out;have cr:=hr.cell;have fr:=hr.free;have hb:=HB.out;have EX:=HEX.out;have EY:=HEY.out;unfold JI at EX EY;clear HX HY HO QA QB QO FT FU FD HB HR T1 T2 D1 D2 J1 J2 hQ HEX HEY;have bad:gV X (-Y)=false→gF X (-Y)=((0,0),6):=fun h=>by unfold gF;rw [h];rfl
 have Sl:∀ {r:(Int × Int) × Int},gF X (-Y)=r→gF X (-Y)=r:=fun h=>h
 by_cases gx: -9223372036854775808≤X∧X≤9223372036854775807
 ·rw [if_pos gx] at EX;simp only [Prod.mk.injEq] at EX;obtain ⟨rfl,rfl⟩:=EX
  by_cases gy: -9223372036854775808≤Y∧Y≤9223372036854775807
  ·rw [if_pos gy] at EY;simp only [Prod.mk.injEq] at EY;obtain ⟨rfl,rfl⟩:=EY
   by_cases g0:Y= -9223372036854775808
   ·subst g0;have hm:=bad (Ew zo);clear bad Sl gx gy;go_wp2_with fail
    refine aP rfl rfl ((hr.set 0 _).set 1 _) Tryz.underlying69 rfl zk ?_;exact ⟨by rw [hm];rfl,(hb.setCell (p:=⟨w.heap.size+1+1,0,none⟩) (by show w.heap.size≤w.heap.size+1+1;omega) _).setCell (p:=⟨w.heap.size+1+1,1,none⟩) (by show w.heap.size≤w.heap.size+1+1;omega) _⟩
   ·have hy0:(Y == -9223372036854775808)=false:=by simpa using g0
    have hw:wrap64 (-Y)= -Y:=by unfold wrap64;omega
    have RT:=zh (fun W=>jo X (-Y) W);cases hbk:gV X (-Y)
    ·have hm:=bad hbk;rw [hbk] at RT;clear bad Sl gx gy hbk;go_wp2_with fail
     refine (RT.out _).mono ?_;rintro e u9 ⟨rfl,h⟩;replace hr:=hr.later h;replace hb:=Bt hb h;clear cr fr h;have cr:=hr.cell;have fr:=hr.free;go_wp2_with fail
     refine aP rfl rfl ((hr.set 0 _).set 1 _) Tryz.underlying69 rfl zk ?_;exact ⟨by rw [hm];rfl,(hb.setCell (p:=⟨w.heap.size+1+1,0,none⟩) (by show w.heap.size≤w.heap.size+1+1;omega) _).setCell (p:=⟨w.heap.size+1+1,1,none⟩) (by show w.heap.size≤w.heap.size+1+1;omega) _⟩
    ·have hm:gF X (-Y)=((X, -Y),0):=by unfold gF;rw [hbk];rfl
     rw [hbk] at RT;clear bad Sl gx gy hbk;go_wp2_with fail
     refine (RT.out _).mono ?_;rintro e u9 ⟨rfl,h⟩;replace hr:=hr.later h;replace hb:=Bt hb h;clear cr fr h;have cr:=hr.cell;have fr:=hr.free;go_wp2_with fail
     refine aP rfl rfl ((hr.set 0 _).set 1 _) Tryz.underlying69 rfl zk ?_;exact ⟨by rw [hm];rfl,(hb.setCell (p:=⟨w.heap.size+1+1,0,none⟩) (by show w.heap.size≤w.heap.size+1+1;omega) _).setCell (p:=⟨w.heap.size+1+1,1,none⟩) (by show w.heap.size≤w.heap.size+1+1;omega) _⟩
  ·rw [if_neg gy] at EY;simp only [Prod.mk.injEq] at EY;obtain ⟨rfl,rfl⟩:=EY;have hm:=bad (Ew zo);clear bad Sl gx gy;go_wp2_with fail
   refine aP rfl rfl ((hr.set 0 _).set 1 _) Tryz.underlying69 rfl zk ?_;exact ⟨by rw [hm];rfl,(hb.setCell (p:=⟨w.heap.size+1+1,0,none⟩) (by show w.heap.size≤w.heap.size+1+1;omega) _).setCell (p:=⟨w.heap.size+1+1,1,none⟩) (by show w.heap.size≤w.heap.size+1+1;omega) _⟩
 ·rw [if_neg gx] at EX;simp only [Prod.mk.injEq] at EX;obtain ⟨rfl,rfl⟩:=EX;have hm:=bad (Ew zo);clear bad Sl gx;go_wp2_with fail
  refine aP rfl rfl ((hr.set 0 _).set 1 _) Tryz.underlying69 rfl zk ?_;exact ⟨by rw [hm];rfl,(hb.setCell (p:=⟨w.heap.size+1+1,0,none⟩) (by show w.heap.size≤w.heap.size+1+1;omega) _).setCell (p:=⟨w.heap.size+1+1,1,none⟩) (by show w.heap.size≤w.heap.size+1+1;omega) _⟩
end Go.Proofs.bJ
namespace Go.Proofs.bJ
open Go Go.Num Go.cK Go.Proofs.dJ Go.Proofs.aH
theorem wI (q:Rat):Um q=q.floor:=(Rat.floor_def q).symm
theorem GI (a b:Rat): -(a / b)= -a / b:=by rw [Rat.div_def,Rat.div_def,Rat.neg_mul]
theorem rM (n:Int) {d:Int} (hd:0<d):((n:Rat) / (d:Rat)).floor=n / d:=by
 have hd':(0:Rat)<(d:Rat):=by exact_mod_cast hd
 have key:∀ x:Int,x≤((n:Rat) / (d:Rat)).floor↔x≤n / d:=fun x=>by
  rw [Rat.le_floor_iff,Int.le_ediv_iff_mul_le hd];have e:(n:Rat) / (d:Rat)*(d:Rat)=(n:Rat):=Rat.div_mul_cancel (fun h=>by rw [h] at hd';exact absurd hd' zd)
  constructor
  ·intro h;have:=Rat.mul_le_mul_of_nonneg_right h (Rat.le_of_lt hd');rw [e] at this
   exact_mod_cast this
  ·intro h;refine Rat.le_of_mul_le_mul_right (c:=(d:Rat)) ?_ hd';rw [e]
   exact_mod_cast h
 exact Int.le_antisymm ((key _).1 (Int.le_refl _)) ((key _).2 (Int.le_refl _))
theorem YA:(0:Rat)<((1000000000000:Int):Rat):=by decide+kernel
theorem av9:((1000000000000:Int):Rat)≠0:=by decide+kernel
theorem UL (n:Int):un n*((1000000000000:Int):Rat)=(n:Rat):=by
 have:=av9;unfold un;generalize ((1000000000000:Int):Rat)=E at *
 grind
theorem K6 (x y:Int):un x*un y*((1000000000000:Int):Rat)=((x*y:Int):Rat) / ((1000000000000:Int):Rat):=by
 have:=av9;unfold un;rw [Rat.intCast_mul];generalize ((1000000000000:Int):Rat)=E at *
 grind
theorem M8 (a b c d:Int):kN (un a+un b) (un c+un d)=gF (a+b) (c+d):=by
 unfold kN;rw [wI,wI,Rat.add_mul,Rat.add_mul,UL,UL,UL,UL,← Rat.intCast_add,← Rat.intCast_add,← Rat.intCast_neg,Rat.floor_intCast,Rat.floor_intCast]
 congr 1
 omega
theorem Di (q:Rat):kN q q=gF (ow (q.num*1000000000000) q.den false) (ow (q.num*1000000000000) q.den true):=by
 have hd:(0:Int)<(q.den:Int):=by have:=q.den_pos;omega
 have hd0:((q.den:Int):Rat)≠0:=by
  have:(q.den:Int)≠0:=by omega
  exact_mod_cast this
 have e:q*((1000000000000:Int):Rat)=((q.num*1000000000000:Int):Rat) / ((q.den:Int):Rat):=by
  rw [Rat.intCast_mul];have h:=uG q;generalize ((1000000000000:Int):Rat)=E at *;generalize (q.num:Rat)=n at *;generalize ((q.den:Int):Rat)=d at *;rw [h]
  grind
 have e2: -(q*((1000000000000:Int):Rat))=((-(q.num*1000000000000):Int):Rat) / ((q.den:Int):Rat):=by
  rw [e,Rat.intCast_neg,GI]
 unfold kN;rw [wI,wI,e2,e,rM _ hd,rM _ hd];rfl
def iI (m:Rat):List Rat→Rat
 | []=>m
 | x::l=>iI (if x<m then x else m) l
def dZ (m:Rat):List Rat→Rat
 | []=>m
 | x::l=>dZ (if m<x then x else m) l
theorem ax9 (p q r s:Rat):(iI p [q,r,s]=p∨iI p [q,r,s]=q∨iI p [q,r,s]=r∨iI p [q,r,s]=s)∧iI p [q,r,s]≤p∧iI p [q,r,s]≤q∧iI p [q,r,s]≤r∧iI p [q,r,s]≤s:=by
 unfold iI iI iI iI
 grind
theorem ap0 (p q r s:Rat):(dZ p [q,r,s]=p∨dZ p [q,r,s]=q∨dZ p [q,r,s]=r∨dZ p [q,r,s]=s)∧p≤dZ p [q,r,s]∧q≤dZ p [q,r,s]∧r≤dZ p [q,r,s]∧s≤dZ p [q,r,s]:=by
 unfold dZ dZ dZ dZ
 grind
theorem Fu {a b:Rat} (h:a≤b):(a*((1000000000000:Int):Rat)).floor≤(b*((1000000000000:Int):Rat)).floor:=Rat.floor_monotone (Rat.mul_le_mul_of_nonneg_right h (Rat.le_of_lt YA))
theorem Fv {a b:Rat} (h:a≤b): -((-(a*((1000000000000:Int):Rat))).floor)≤ -((-(b*((1000000000000:Int):Rat))).floor):=by
 have h2:=Rat.floor_monotone (Rat.neg_le_neg (Rat.mul_le_mul_of_nonneg_right h (Rat.le_of_lt YA)));omega
theorem Dr (n:Int) {d:Nat} (hd:0<d):ow n d false≤ow n d true:=by
 unfold ow;simp only [Bool.false_eq_true,if_false,if_true];have h1:=Int.mul_ediv_self_le (x:=n) (k:=(d:Int)) zo;have h2:=Int.mul_ediv_self_le (x:= -n) (k:=(d:Int)) zo;have h3:(d:Int)*(n / d)≤(d:Int)*(-(-n / d)):=by rw [Int.mul_neg];omega
 exact Int.le_of_mul_le_mul_left h3 zo
theorem Cg (x y:Int):(un x*un y*((1000000000000:Int):Rat)).floor=ow (x*y) 1000000000000 false:=by rw [K6,rM _ zo];rfl
theorem Lh (x y:Int): -((-(un x*un y*((1000000000000:Int):Rat))).floor)=ow (x*y) 1000000000000 true:=by
 rw [K6,GI,← Rat.intCast_neg,rM _ zo];rfl
theorem nN (x y:Int) (up:Bool):((jD x y 1000000000000 up).2=true→(jD x y 1000000000000 up).1=ow (x*y) 1000000000000 up∧(ow (x*y) 1000000000000 up).natAbs≤1000000000000000000)∧((jD x y 1000000000000 up).2=false→1000000000000000000<(ow (x*y) 1000000000000 up).natAbs):=by
 by_cases h:(ow (x*y) 1000000000000 up).natAbs≤1000000000000000000
 ·rw [show jD x y 1000000000000 up=(ow (x*y) 1000000000000 up,true) from if_pos h];exact ⟨fun _=>⟨rfl,h⟩,fun h=>by cases h⟩
 ·rw [show jD x y 1000000000000 up=(0,false) from if_neg h];exact ⟨fun h=>(by cases h),fun _=>by omega⟩
theorem M7 (a b:Int × Int):kN (iI (un a.1*un b.1) [un a.1*un b.2,un a.2*un b.1,un a.2*un b.2]) (dZ (un a.1*un b.1) [un a.1*un b.2,un a.2*un b.1,un a.2*un b.2])=uq a b:=by
 obtain ⟨h1,h2,h3,h4,h5⟩:=ax9 (un a.1*un b.1) (un a.1*un b.2) (un a.2*un b.1) (un a.2*un b.2);obtain ⟨g1,g2,g3,g4,g5⟩:=ap0 (un a.1*un b.1) (un a.1*un b.2) (un a.2*un b.1) (un a.2*un b.2);generalize iI (un a.1*un b.1) [un a.1*un b.2,un a.2*un b.1,un a.2*un b.2]=lo at *;generalize dZ (un a.1*un b.1) [un a.1*un b.2,un a.2*un b.1,un a.2*un b.2]=hi at *;replace h2:=Fu h2;replace h3:=Fu h3;replace h4:=Fu h4;replace h5:=Fu h5;replace g2:=Fv g2;replace g3:=Fv g3;replace g4:=Fv g4;replace g5:=Fv g5
 have h6:(lo*((1000000000000:Int):Rat)).floor=ow (a.1*b.1) 1000000000000 false∨(lo*((1000000000000:Int):Rat)).floor=ow (a.1*b.2) 1000000000000 false∨(lo*((1000000000000:Int):Rat)).floor=ow (a.2*b.1) 1000000000000 false∨(lo*((1000000000000:Int):Rat)).floor=ow (a.2*b.2) 1000000000000 false:=by
  rcases h1 with rfl|rfl|rfl|rfl<;>simp only [Cg,true_or,or_true]
 have g6: -((-(hi*((1000000000000:Int):Rat))).floor)=ow (a.1*b.1) 1000000000000 true∨ -((-(hi*((1000000000000:Int):Rat))).floor)=ow (a.1*b.2) 1000000000000 true∨ -((-(hi*((1000000000000:Int):Rat))).floor)=ow (a.2*b.1) 1000000000000 true∨ -((-(hi*((1000000000000:Int):Rat))).floor)=ow (a.2*b.2) 1000000000000 true:=by
  rcases g1 with rfl|rfl|rfl|rfl<;>simp only [Lh,true_or,or_true]
 rw [Cg] at h2 h3 h4 h5;rw [Lh] at g2 g3 g4 g5;unfold kN;rw [wI,wI];generalize (lo*((1000000000000:Int):Rat)).floor=L at *;generalize -((-(hi*((1000000000000:Int):Rat))).floor)=H at *;have r1:=Dr (a.1*b.1) (d:=1000000000000) zo;have r2:=Dr (a.1*b.2) (d:=1000000000000) zo;have r3:=Dr (a.2*b.1) (d:=1000000000000) zo;have r4:=Dr (a.2*b.2) (d:=1000000000000) zo;have e0:pV a b 0=jD a.1 b.1 1000000000000 false:=rfl;have e1:pV a b 1=jD a.1 b.2 1000000000000 false:=rfl;have e2:pV a b 2=jD a.2 b.1 1000000000000 false:=rfl;have e3:pV a b 3=jD a.2 b.2 1000000000000 false:=rfl;have d0:jl a b 0=jD a.1 b.1 1000000000000 true:=rfl;have d1:jl a b 1=jD a.1 b.2 1000000000000 true:=rfl;have d2:jl a b 2=jD a.2 b.1 1000000000000 true:=rfl;have d3:jl a b 3=jD a.2 b.2 1000000000000 true:=rfl;have q0:=nN a.1 b.1 false
 have q1:=nN a.1 b.2 false;have q2:=nN a.2 b.1 false;have q3:=nN a.2 b.2 false;have p0:=nN a.1 b.1 true;have p1:=nN a.1 b.2 true;have p2:=nN a.2 b.1 true;have p3:=nN a.2 b.2 true
 have fe:Sk a b=((pV a b 0).2&&(jl a b 0).2&&((pV a b 1).2&&(jl a b 1).2)&&((pV a b 2).2&&(jl a b 2).2)&&((pV a b 3).2&&(jl a b 3).2)):=by
  unfold Sk;simp [List.range,List.range.loop,Bool.and_assoc]
 unfold uq;rw [fe,e0,e1,e2,e3,d0,d1,d2,d3];generalize ow (a.1*b.1) 1000000000000 false=l0 at *;generalize ow (a.1*b.2) 1000000000000 false=l1 at *;generalize ow (a.2*b.1) 1000000000000 false=l2 at *;generalize ow (a.2*b.2) 1000000000000 false=l3 at *;generalize ow (a.1*b.1) 1000000000000 true=u0 at *;generalize ow (a.1*b.2) 1000000000000 true=u1 at *;generalize ow (a.2*b.1) 1000000000000 true=u2 at *;generalize ow (a.2*b.2) 1000000000000 true=u3 at *;clear e0 e1 e2 e3 d0 d1 d2 d3 fe h1 g1;generalize jD a.1 b.1 1000000000000 false=A0 at *;generalize jD a.1 b.2 1000000000000 false=A1 at *;generalize jD a.2 b.1 1000000000000 false=A2 at *;generalize jD a.2 b.2 1000000000000 false=A3 at *;generalize jD a.1 b.1 1000000000000 true=B0 at *;generalize jD a.1 b.2 1000000000000 true=B1 at *;generalize jD a.2 b.1 1000000000000 true=B2 at *
 generalize jD a.2 b.2 1000000000000 true=B3 at *;obtain ⟨x0,y0⟩:=A0;obtain ⟨x1,y1⟩:=A1;obtain ⟨x2,y2⟩:=A2;obtain ⟨x3,y3⟩:=A3;obtain ⟨s0,t0⟩:=B0;obtain ⟨s1,t1⟩:=B1;obtain ⟨s2,t2⟩:=B2;obtain ⟨s3,t3⟩:=B3;simp only at q0 q1 q2 q3 p0 p1 p2 p3 ⊢
 by_cases hf:(y0&&t0&&(y1&&t1)&&(y2&&t2)&&(y3&&t3))=true
 ·rw [if_pos hf];simp only [Bool.and_eq_true] at hf;obtain ⟨⟨⟨⟨f1,f2⟩,f3,f4⟩,f5,f6⟩,f7,f8⟩:=hf;obtain ⟨rfl, -⟩:=q0.1 f1;obtain ⟨rfl, -⟩:=q1.1 f3;obtain ⟨rfl, -⟩:=q2.1 f5;obtain ⟨rfl, -⟩:=q3.1 f7;obtain ⟨rfl, -⟩:=p0.1 f2;obtain ⟨rfl, -⟩:=p1.1 f4;obtain ⟨rfl, -⟩:=p2.1 f6;obtain ⟨rfl, -⟩:=p3.1 f8
  have m1:L=[x0,x1,x2,x3].foldl min x0:=by
   simp only [List.foldl];omega
  have m2:H=[s0,s1,s2,s3].foldl max s0:=by
   simp only [List.foldl];omega
  rw [m1,m2]
 ·rw [if_neg hf]
  have hb:gV L H=false:=by
   refine Ew ?_
   have:y0=false∨t0=false∨y1=false∨t1=false∨y2=false∨t2=false∨y3=false∨t3=false:=by
    revert hf
    cases y0<;>cases t0<;>cases y1<;>cases t1<;>cases y2<;>cases t2<;>cases y3<;>cases t3<;>simp
   rcases this with h|h|h|h|h|h|h|h
   ·have:=q0.2 h;omega
   ·have:=p0.2 h;omega
   ·have:=q1.2 h;omega
   ·have:=p1.2 h;omega
   ·have:=q2.2 h;omega
   ·have:=p2.2 h;omega
   ·have:=q3.2 h;omega
   ·have:=p3.2 h;omega
  unfold gF;rw [hb];rfl
end Go.Proofs.bJ
