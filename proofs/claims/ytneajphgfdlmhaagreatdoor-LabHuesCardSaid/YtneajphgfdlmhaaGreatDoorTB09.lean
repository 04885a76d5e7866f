/- Lemmas for the proof. No condition. -/
import Derived.Test.YtneajphgfdlmhaaGreatDoorTB01
import Derived.Test.YtneajphgfdlmhaaGreatDoorTB03
import Derived.Test.YtneajphgfdlmhaaGreatDoorTB04
import Derived.Test.YtneajphgfdlmhaaGreatDoorTB05
import Derived.Test.YtneajphgfdlmhaaGreatDoorTB06
import Derived.Test.YtneajphgfdlmhaaGreatDoorTB07
import Derived.Test.YtneajphgfdlmhaaGreatDoorTB08
import Derived.RegionTactic
import Derived.Defers
import Derived.Recover
import Derived.Tactics2
set_option linter.unusedVariables false
set_option linter.unusedSimpArgs false
set_option maxRecDepth 100000
set_option maxHeartbeats 16000000
namespace Go.Proofs.aF
open Go Go.RowKit Go.SW Go.Num Go.Mem Go.Proofs Go.Dec Go.Proofs.aD Go.eF
theorem Gl {n k:Nat} (h:sz 1000000000 n≤k):sz 10000 n≤3*k:=by
 refine aX zo _ _ ?_;have h1:=iN (B:=1000000000) zo n;have h2:(1000000000:Nat)^sz 1000000000 n≤1000000000^k:=Nat.pow_le_pow_right zo h;have h3:(1000000000:Nat)^k≤(10000^3)^k:=Nat.pow_le_pow_left zd k;rw [Nat.pow_mul];omega
theorem uO (q:Rat):q=(q.num:Rat) / ((q.den:Int):Rat):=by
 have:=Rat.mkRat_self q;rw [Rat.mkRat_eq_div] at this;exact this.symm
theorem La (q:Rat):((q.den:Int):Rat)≠0:=fun e=>by
 have h:(q.den:Int)=0:=by exact_mod_cast e
 have:=q.den_pos;omega
theorem au1 (p q:Rat):((p.num*q.num:Int):Rat) / (((p.den:Int)*(q.den:Int):Int):Rat)=p*q:=by
 have h1:=uO p;have h2:=uO q;have d1:=La p;have d2:=La q;rw [Rat.intCast_mul,Rat.intCast_mul];generalize (p.num:Rat)=a at *;generalize ((p.den:Int):Rat)=b at *;generalize (q.num:Rat)=c at *;generalize ((q.den:Int):Rat)=d at *;subst h1 h2
 grind
theorem aI7 (p q:Rat) (hq:q≠0):((p.num*(q.den:Int):Int):Rat) / (((p.den:Int)*q.num:Int):Rat)=p / q:=by
 have h1:=uO p;have h2:=uO q;have d1:=La p;have d2:=La q;have d3:((q.num:Int):Rat)≠0:=fun e=>hq (by rw [h2,e];grind);rw [Rat.intCast_mul,Rat.intCast_mul];generalize (p.num:Rat)=a at *;generalize ((p.den:Int):Rat)=b at *;generalize (q.num:Rat)=c at *;generalize ((q.den:Int):Rat)=d at *;subst h1 h2
 grind
theorem aI0 (p q:Rat):((p.num*(q.den:Int)+q.num*(p.den:Int):Int):Rat) / (((p.den:Int)*(q.den:Int):Int):Rat)=p+q:=by
 have h1:=uO p;have h2:=uO q;have d1:=La p;have d2:=La q;rw [Rat.intCast_add,Rat.intCast_mul,Rat.intCast_mul,Rat.intCast_mul];generalize (p.num:Rat)=a at *;generalize ((p.den:Int):Rat)=b at *;generalize (q.num:Rat)=c at *;generalize ((q.den:Int):Rat)=d at *;subst h1 h2
 grind
theorem iA.four {k:Nat} {q:Rat} (h:iA k q):sz 10000 q.num.natAbs≤3*k∧sz 10000 (q.den:Int).natAbs≤3*k:=⟨Gl h.1,by rw [Int.natAbs_natCast];exact Gl h.2⟩
theorem pI {a b:Int} {m n:Nat} (h:sz 10000 a.natAbs≤m) (k:sz 10000 b.natAbs≤n):sz 10000 (a*b).natAbs≤m+n:=by
 rw [Int.natAbs_mul];have:=kC (B:=10000) zo a.natAbs b.natAbs;omega
theorem au6 {a b:Int} {m:Nat} (h:sz 10000 a.natAbs≤m) (k:sz 10000 b.natAbs≤m):sz 10000 (a+b).natAbs≤m+1:=by
 have h1:=dB (B:=10000) zo (Int.natAbs_add_le a b);have h2:=yH (B:=10000) zo a.natAbs b.natAbs;omega
theorem vD (x:Value) (p:Rat) (w:World) (hx:Ra w x p):Calls Tryz.prog 268 #[x] w (kE w (-p)):=by
 obtain ⟨bA,jI,lA,jW,Jz,ru,Jy,rE,rfl,hA1,hA2⟩:=id hx;have QA:=zh hx;have NA:=zh hA1;have qX:=zh hA2;obtain ⟨z,ez⟩:∃ z,p.num=z:=⟨_,rfl⟩;obtain ⟨d,ed⟩:∃ d,p.den=d:=⟨_,rfl⟩
 have hq:∀ w v,Ra w v (-p)↔∃ bn pn ln cn bd pd ld cd,v= .agg #[.bool bn,.slice pn ln cn,.bool bd,.slice pd ld cd]∧Pl w (.agg #[.bool bn,.slice pn ln cn]) (-z)∧Pl w (.agg #[.bool bd,.slice pd ld cd]) d:=fun w v=>by
  unfold Ra;rw [Rat.neg_num,Rat.neg_den,ez,ed]
 have HQ:=zh hq;rw [ez] at NA;rw [ed] at qX;clear hx hA1 hA2 ez ed hq;go_enter Tryz.func268,Tryz.ntmps268
 go_wp2_with fail
 obtain ⟨dN,EW,hz,X1,X2⟩:=yA w #[.bool bA,.slice jI lA jW,.bool Jz,.slice ru Jy rE] 163 #[.bool false,.slice none 0 0,.bool false,.slice none 0 0] 163;rw [EW];replace NA:=zh (NA.out.later hz);replace qX:=zh (qX.out.later hz);have hk2:=Bt (Below.refl _ _) hz;clear EW hz;obtain ⟨gJ,gI,gN⟩:=X1.clf;refine aC [(.pure,0),(.read,1),(.pure,3),(.read,4),(.ext,2),(.pure,5),(.fin,6)] zk zk zR zP ?_;refine zV ?_;refine aH rfl rfl (fun xR hb3 J hJ=>?_);go_simp;have hh3:Below dN.heap.size dN xR:=au;clear hb3;refine (aD.vD _ _ _ (NA.out.later hh3)).mono ?_;rintro e uD ⟨v,rfl,hb4,hv5⟩;obtain ⟨bB,oU,lB,pz,rfl⟩:=hv5.agg;refine hJ _ _ hb4 ?_;clear hJ J;have oZ:=Bt hh3 hb4;have NB:=zh hv5;clear hh3 hb4 hv5;refine zV ?_;refine aQ [_] rfl (fun WS hf6=>?_);replace NB:=zh (NB.out.later (show Below uD.heap.size uD WS from au))
 have iL:Below dN.heap.size dN WS:=Bt oZ au;clear hf6 oZ;clear gJ gI gN;replace NA:=zh (NA.out.later iL);replace qX:=zh (qX.out.later iL);replace X1:=X1.bl iL;replace X2:=X2.bl iL;have JV:=Bt hk2 iL;clear hk2;clear iL;obtain ⟨iF,iE,iO⟩:=X2.clf;have hres:=X2.out;have nE:=hres.cell;have nD:=hres.free;go_wp2_with fail
 refine bZ rfl rfl aJ Tryz.underlying163 rfl zk ?_;exact ⟨_,rfl,au,(HQ.out _ _).2 ⟨_,_,_,_,_,_,_,_,rfl,Pl.su NB.out hres zd _ _ _ _,Pl.su qX.out hres zd _ _ _ _⟩⟩
theorem iw (x y:Value) (p q:Rat) (w:World) (hx:Ra w x p) (hy:Ra w y q) (h1:iA 10000000000 p) (h2:iA 10000000000 q):Calls Tryz.prog 218 #[x,y] w (kE w (p*q)):=by
 obtain ⟨bA,jI,lA,jW,Jz,ru,Jy,rE,rfl,hA1,hA2⟩:=id hx;obtain ⟨bB,oU,lB,pz,bBd,He,lBd,Jk,rfl,hB1,hB2⟩:=id hy;have QA:=zh hx;have NA:=zh hA1;have qX:=zh hA2;have QB:=zh hy;have NB:=zh hB1;have Cw:=zh hB2;obtain ⟨s1,s2⟩:=iA.four h1;obtain ⟨s3,s4⟩:=iA.four h2;have S1:Hid (sz 10000 p.num.natAbs≤549755813888):=zh zo;have S2:Hid (sz 10000 (p.den:Int).natAbs≤549755813888):=zh zo;have S3:Hid (sz 10000 q.num.natAbs≤549755813888):=zh zo;have S4:Hid (sz 10000 (q.den:Int).natAbs≤549755813888):=zh zo;have L1:Hid (sz 10000 (p.num*q.num).natAbs≤274877906944):=zh (by have:=pI s1 s3;omega);have L2:Hid (sz 10000 ((p.den:Int)*(q.den:Int)).natAbs≤274877906944):=zh (by have:=pI s2 s4;omega);have L3:Hid ((p.den:Int)*(q.den:Int)≠0):=zh (Int.mul_ne_zero (by have:=p.den_pos;omega) (by have:=q.den_pos;omega))
 have HL:=zh (fun x y w hx hy=>xQ x y (p.num*q.num) ((p.den:Int)*(q.den:Int)) w hx hy L1.out L2.out L3.out);rw [au1] at HL;clear hx hy hA1 hA2 hB1 hB2 h1 h2 s1 s2 s3 s4 L1 L2 L3;go_enter Tryz.func218,Tryz.ntmps218
 go_wp2_with fail
 obtain ⟨dN,EW,hz,X1,X2,X3⟩:=yx w #[.bool bA,.slice jI lA jW,.bool Jz,.slice ru Jy rE] 163 #[.bool bB,.slice oU lB pz,.bool bBd,.slice He lBd Jk] 163 #[.bool false,.slice none 0 0,.bool false,.slice none 0 0] 163;rw [EW];replace NA:=zh (NA.out.later hz);replace qX:=zh (qX.out.later hz);replace NB:=zh (NB.out.later hz);replace Cw:=zh (Cw.out.later hz);have hk2:=Bt (Below.refl _ _) hz;clear EW hz;obtain ⟨gJ,gI,gN⟩:=X1.clf;obtain ⟨iF,iE,iO⟩:=X2.clf;refine aC [(.pure,0),(.read,1),(.pure,2),(.read,3),(.pure,5),(.read,6),(.pure,7),(.read,8),(.ext,4),(.ext,9),(.ext,10),(.fin,11)] zk zk zR zP ?_;refine zV ?_;refine aH rfl rfl (fun xR hb3 J hJ=>?_);go_simp;have hh3:Below dN.heap.size dN xR:=au;clear hb3;refine (aD.iw _ _ _ _ _ (NA.out.later hh3) (NB.out.later hh3) S1.out S3.out).mono ?_;rintro e uD ⟨v,rfl,hb4,hv5⟩
 obtain ⟨bC,JJ,lC,Kh,rfl⟩:=hv5.agg;refine hJ _ _ hb4 ?_;clear hJ J;have oZ:=Bt hh3 hb4;have NC:=zh hv5;clear hh3 hb4 hv5;refine zV ?_;refine aH rfl rfl (fun rM hb6 J hJ=>?_);go_simp;have iL:Below dN.heap.size dN rM:=Bt oZ au;replace NC:=zh (NC.out.later (show Below uD.heap.size uD rM from au));clear hb6 oZ;refine (aD.iw _ _ _ _ _ (qX.out.later iL) (Cw.out.later iL) S2.out S4.out).mono ?_;rintro e jX ⟨v,rfl,fK,kD⟩;obtain ⟨bD,Pb,lD,Pg,rfl⟩:=kD.agg;refine hJ _ _ fK ?_;clear hJ J;have oW:=Bt iL fK;replace NC:=zh (NC.out.later fK);have ND:=zh kD;clear iL fK kD;refine zV ?_;refine aH rfl rfl (fun vI qW J hJ=>?_);go_simp;have iM:Below dN.heap.size dN vI:=Bt oW au;replace NC:=zh (NC.out.later (show Below jX.heap.size jX vI from au));replace ND:=zh (ND.out.later (show Below jX.heap.size jX vI from au))
 clear qW oW;refine (HL.out _ _ _ NC.out ND.out).mono ?_;rintro e gV ⟨v,rfl,eX,mM⟩;obtain ⟨bE,paE,lE,caE,bEd,aI6,lEd,aP9,rfl,aL5,aL4⟩:=id mM;refine hJ _ _ eX ?_;clear hJ J;have jw:=Bt iM eX;replace NC:=zh (NC.out.later eX);replace ND:=zh (ND.out.later eX);have QE:=zh mM;clear iM eX mM aL5 aL4;refine zV ?_;refine aQ [_] rfl (fun oM Cb=>?_);replace NC:=zh (NC.out.later (show Below gV.heap.size gV oM from au));replace ND:=zh (ND.out.later (show Below gV.heap.size gV oM from au));replace QE:=zh (QE.out.later (show Below gV.heap.size gV oM from au));have hh12:Below dN.heap.size dN oM:=Bt jw au;clear Cb jw;clear gJ gI gN iF iE iO;replace NA:=zh (NA.out.later hh12);replace qX:=zh (qX.out.later hh12);replace NB:=zh (NB.out.later hh12);replace Cw:=zh (Cw.out.later hh12);replace X1:=X1.bl hh12
 replace X2:=X2.bl hh12;replace X3:=X3.bl hh12;have Vd:=Bt hk2 hh12;clear hk2;clear hh12;clear NC;clear ND;obtain ⟨rF,rA,sH⟩:=X3.clf;have hres:=X3.out;have nE:=hres.cell;have nD:=hres.free;go_wp2_with fail
 refine bZ rfl rfl aJ Tryz.underlying163 rfl zk ?_;exact ⟨_,rfl,au,Ra.su QE.out hres zd _ _ _ _⟩
theorem YE (x y:Value) (p q:Rat) (w:World) (hx:Ra w x p) (hy:Ra w y q) (h1:iA 10000000000 p) (h2:iA 10000000000 q) (h0:q≠0):Calls Tryz.prog 134 #[x,y] w (kE w (p / q)):=by
 obtain ⟨bA,jI,lA,jW,Jz,ru,Jy,rE,rfl,hA1,hA2⟩:=id hx;obtain ⟨bB,oU,lB,pz,bBd,He,lBd,Jk,rfl,hB1,hB2⟩:=id hy;have QA:=zh hx;have NA:=zh hA1;have qX:=zh hA2;have QB:=zh hy;have NB:=zh hB1;have Cw:=zh hB2;obtain ⟨s1,s2⟩:=iA.four h1;obtain ⟨s3,s4⟩:=iA.four h2;have S1:Hid (sz 10000 p.num.natAbs≤549755813888):=zh zo;have S2:Hid (sz 10000 (p.den:Int).natAbs≤549755813888):=zh zo;have S3:Hid (sz 10000 q.num.natAbs≤549755813888):=zh zo;have S4:Hid (sz 10000 (q.den:Int).natAbs≤549755813888):=zh zo;have L1:Hid (sz 10000 (p.num*(q.den:Int)).natAbs≤274877906944):=zh (by have:=pI s1 s4;omega);have L2:Hid (sz 10000 ((p.den:Int)*q.num).natAbs≤274877906944):=zh (by have:=pI s2 s3;omega);have L3:Hid ((p.den:Int)*q.num≠0):=zh (Int.mul_ne_zero (by have:=p.den_pos;omega) (fun e=>h0 (Rat.num_eq_zero.1 e)))
 have HL:=zh (fun x y w hx hy=>xQ x y (p.num*(q.den:Int)) ((p.den:Int)*q.num) w hx hy L1.out L2.out L3.out);rw [aI7 p q h0] at HL;clear hx hy hA1 hA2 hB1 hB2 h1 h2 s1 s2 s3 s4 L1 L2 L3 h0;go_enter Tryz.func134,Tryz.ntmps134
 go_wp2_with fail
 obtain ⟨dN,EW,hz,X1,X2,X3⟩:=yx w #[.bool bA,.slice jI lA jW,.bool Jz,.slice ru Jy rE] 163 #[.bool bB,.slice oU lB pz,.bool bBd,.slice He lBd Jk] 163 #[.bool false,.slice none 0 0,.bool false,.slice none 0 0] 163;rw [EW];replace NA:=zh (NA.out.later hz);replace qX:=zh (qX.out.later hz);replace NB:=zh (NB.out.later hz);replace Cw:=zh (Cw.out.later hz);have hk2:=Bt (Below.refl _ _) hz;clear EW hz;obtain ⟨gJ,gI,gN⟩:=X1.clf;obtain ⟨iF,iE,iO⟩:=X2.clf;refine aC [(.pure,0),(.read,1),(.pure,2),(.read,3),(.pure,5),(.read,6),(.pure,7),(.read,8),(.ext,4),(.ext,9),(.ext,10),(.fin,11)] zk zk zR zP ?_;refine zV ?_;refine aH rfl rfl (fun xR hb3 J hJ=>?_);go_simp;have hh3:Below dN.heap.size dN xR:=au;clear hb3;refine (aD.iw _ _ _ _ _ (NA.out.later hh3) (Cw.out.later hh3) S1.out S4.out).mono ?_;rintro e uD ⟨v,rfl,hb4,hv5⟩
 obtain ⟨bC,JJ,lC,Kh,rfl⟩:=hv5.agg;refine hJ _ _ hb4 ?_;clear hJ J;have oZ:=Bt hh3 hb4;have NC:=zh hv5;clear hh3 hb4 hv5;refine zV ?_;refine aH rfl rfl (fun rM hb6 J hJ=>?_);go_simp;have iL:Below dN.heap.size dN rM:=Bt oZ au;replace NC:=zh (NC.out.later (show Below uD.heap.size uD rM from au));clear hb6 oZ;refine (aD.iw _ _ _ _ _ (qX.out.later iL) (NB.out.later iL) S2.out S3.out).mono ?_;rintro e jX ⟨v,rfl,fK,kD⟩;obtain ⟨bD,Pb,lD,Pg,rfl⟩:=kD.agg;refine hJ _ _ fK ?_;clear hJ J;have oW:=Bt iL fK;replace NC:=zh (NC.out.later fK);have ND:=zh kD;clear iL fK kD;refine zV ?_;refine aH rfl rfl (fun vI qW J hJ=>?_);go_simp;have iM:Below dN.heap.size dN vI:=Bt oW au;replace NC:=zh (NC.out.later (show Below jX.heap.size jX vI from au));replace ND:=zh (ND.out.later (show Below jX.heap.size jX vI from au))
 clear qW oW;refine (HL.out _ _ _ NC.out ND.out).mono ?_;rintro e gV ⟨v,rfl,eX,mM⟩;obtain ⟨bE,paE,lE,caE,bEd,aI6,lEd,aP9,rfl,aL5,aL4⟩:=id mM;refine hJ _ _ eX ?_;clear hJ J;have jw:=Bt iM eX;replace NC:=zh (NC.out.later eX);replace ND:=zh (ND.out.later eX);have QE:=zh mM;clear iM eX mM aL5 aL4;refine zV ?_;refine aQ [_] rfl (fun oM Cb=>?_);replace NC:=zh (NC.out.later (show Below gV.heap.size gV oM from au));replace ND:=zh (ND.out.later (show Below gV.heap.size gV oM from au));replace QE:=zh (QE.out.later (show Below gV.heap.size gV oM from au));have hh12:Below dN.heap.size dN oM:=Bt jw au;clear Cb jw;clear gJ gI gN iF iE iO;replace NA:=zh (NA.out.later hh12);replace qX:=zh (qX.out.later hh12);replace NB:=zh (NB.out.later hh12);replace Cw:=zh (Cw.out.later hh12);replace X1:=X1.bl hh12
 replace X2:=X2.bl hh12;replace X3:=X3.bl hh12;have Vd:=Bt hk2 hh12;clear hk2;clear hh12;clear NC;clear ND;obtain ⟨rF,rA,sH⟩:=X3.clf;have hres:=X3.out;have nE:=hres.cell;have nD:=hres.free;go_wp2_with fail
 refine bZ rfl rfl aJ Tryz.underlying163 rfl zk ?_;exact ⟨_,rfl,au,Ra.su QE.out hres zd _ _ _ _⟩
theorem rW (x y:Value) (p q:Rat) (w:World) (hx:Ra w x p) (hy:Ra w y q) (h1:iA 10000000000 p) (h2:iA 10000000000 q):Calls Tryz.prog 234 #[x,y] w (kE w (p+q)):=by
 obtain ⟨bA,jI,lA,jW,Jz,ru,Jy,rE,rfl,hA1,hA2⟩:=id hx;obtain ⟨bB,oU,lB,pz,bBd,He,lBd,Jk,rfl,hB1,hB2⟩:=id hy;have QA:=zh hx;have NA:=zh hA1;have qX:=zh hA2;have QB:=zh hy;have NB:=zh hB1;have Cw:=zh hB2;obtain ⟨s1,s2⟩:=iA.four h1;obtain ⟨s3,s4⟩:=iA.four h2;have S1:Hid (sz 10000 p.num.natAbs≤549755813888):=zh zo;have S2:Hid (sz 10000 (p.den:Int).natAbs≤549755813888):=zh zo;have S3:Hid (sz 10000 q.num.natAbs≤549755813888):=zh zo;have S4:Hid (sz 10000 (q.den:Int).natAbs≤549755813888):=zh zo;have a1:=pI s1 s4;have a2:=pI s3 s2;have P1:Hid (sz 10000 (p.num*(q.den:Int)).natAbs≤549755813888):=zh zo;have P2:Hid (sz 10000 (q.num*(p.den:Int)).natAbs≤549755813888):=zh zo;have L1:Hid (sz 10000 (p.num*(q.den:Int)+q.num*(p.den:Int)).natAbs≤274877906944):=zh (by have:=au6 a1 a2;omega)
 have L2:Hid (sz 10000 ((p.den:Int)*(q.den:Int)).natAbs≤274877906944):=zh (by have:=pI s2 s4;omega);have L3:Hid ((p.den:Int)*(q.den:Int)≠0):=zh (Int.mul_ne_zero (by have:=p.den_pos;omega) (by have:=q.den_pos;omega));have HL:=zh (fun x y w hx hy=>xQ x y (p.num*(q.den:Int)+q.num*(p.den:Int)) ((p.den:Int)*(q.den:Int)) w hx hy L1.out L2.out L3.out);rw [aI0] at HL;clear hx hy hA1 hA2 hB1 hB2 h1 h2 s1 s2 s3 s4 L1 L2 L3 a1 a2;go_enter Tryz.func234,Tryz.ntmps234
 go_wp2_with fail
 obtain ⟨dN,EW,hz,X1,X2,X3⟩:=yx w #[.bool bA,.slice jI lA jW,.bool Jz,.slice ru Jy rE] 163 #[.bool bB,.slice oU lB pz,.bool bBd,.slice He lBd Jk] 163 #[.bool false,.slice none 0 0,.bool false,.slice none 0 0] 163;rw [EW];replace NA:=zh (NA.out.later hz);replace qX:=zh (qX.out.later hz);replace NB:=zh (NB.out.later hz);replace Cw:=zh (Cw.out.later hz);have hk2:=Bt (Below.refl _ _) hz;clear EW hz;obtain ⟨gJ,gI,gN⟩:=X1.clf;obtain ⟨iF,iE,iO⟩:=X2.clf;refine aC [(.pure,0),(.read,1),(.pure,2),(.read,3),(.pure,5),(.read,6),(.pure,7),(.read,8),(.ext,4),(.ext,9),(.ext,10),(.alloc #[.bool false,.slice none 0 0] 161,11),(.fin,12)] zk zk zR zP ?_;refine zV ?_;refine aH rfl rfl (fun xR hb3 J hJ=>?_);go_simp;have hh3:Below dN.heap.size dN xR:=au;clear hb3
 refine (aD.iw _ _ _ _ _ (NA.out.later hh3) (Cw.out.later hh3) S1.out S4.out).mono ?_;rintro e uD ⟨v,rfl,hb4,hv5⟩;obtain ⟨bC,JJ,lC,Kh,rfl⟩:=hv5.agg;refine hJ _ _ hb4 ?_;clear hJ J;have oZ:=Bt hh3 hb4;have NC:=zh hv5;clear hh3 hb4 hv5;refine zV ?_;refine aH rfl rfl (fun rM hb6 J hJ=>?_);go_simp;have iL:Below dN.heap.size dN rM:=Bt oZ au;replace NC:=zh (NC.out.later (show Below uD.heap.size uD rM from au));clear hb6 oZ;refine (aD.iw _ _ _ _ _ (NB.out.later iL) (qX.out.later iL) S3.out S2.out).mono ?_;rintro e jX ⟨v,rfl,fK,kD⟩;obtain ⟨bD,Pb,lD,Pg,rfl⟩:=kD.agg;refine hJ _ _ fK ?_;clear hJ J;have oW:=Bt iL fK;replace NC:=zh (NC.out.later fK);have ND:=zh kD;clear iL fK kD;refine zV ?_;refine aH rfl rfl (fun vI qW J hJ=>?_);go_simp;have iM:Below dN.heap.size dN vI:=Bt oW au
 replace NC:=zh (NC.out.later (show Below jX.heap.size jX vI from au));replace ND:=zh (ND.out.later (show Below jX.heap.size jX vI from au));clear qW oW;refine (aD.rW _ _ _ _ _ NC.out ND.out P1.out P2.out).mono ?_;rintro e gV ⟨v,rfl,eX,mM⟩;obtain ⟨bF,paF,lF,caF,rfl⟩:=mM.agg;refine hJ _ _ eX ?_;clear hJ J;have jw:=Bt iM eX;replace NC:=zh (NC.out.later eX);replace ND:=zh (ND.out.later eX);have NF:=zh mM;clear iM eX mM;refine zV ?_;refine dw rfl (fun ji aW9 QJ kU Av IK jE=>?_);go_simp;replace jE:ah _ _ _ _:=jE;have IE:w.heap.size≤ji:=(by first|omega|exact Nat.le_trans (Below.size (B:=w.heap.size) au) kU);refine aQ [_] rfl (fun ac9 bb4=>?_);replace NC:=zh (NC.out.later (show Below gV.heap.size gV ac9 from au))
 replace ND:=zh (ND.out.later (show Below gV.heap.size gV ac9 from au));replace NF:=zh (NF.out.later (show Below gV.heap.size gV ac9 from au));have Ir:Below dN.heap.size dN ac9:=Bt jw au;have hq0:=jE.later bb4;have cq0:=hq0.cell;have fq0:=hq0.free;clear jE bb4 jw;clear gJ gI gN iF iE iO;go_wp2_with fail
 obtain ⟨Pm,EW⟩:∃ y,((ac9.setCell ⟨ji,0,none⟩ (.bool bF)).setCell ⟨ji,1,none⟩ (.slice paF lF caF))=y:=⟨_,rfl⟩;have hz:Below dN.heap.size dN Pm:=by rw [← EW];exact ((Ir.setCell kU _).setCell kU _)
 have X4:Hid (ah Pm ji #[.bool bF,.slice paF lF caF] 161):=zh (by rw [← EW];exact ((hq0.set 0 _).set 1 _));clear NC;clear ND;have t:=((NF.out.setOther hq0 zd 0 (.bool bF)).setOther (hq0.set 0 _) zd 1 (.slice paF lF caF));rw [EW] at t;replace NF:=zh t;clear t;rw [EW];clear EW hq0 cq0 fq0 Ir;replace NA:=zh (NA.out.later hz);replace qX:=zh (qX.out.later hz);replace NB:=zh (NB.out.later hz);replace Cw:=zh (Cw.out.later hz);replace X1:=X1.bl hz;replace X2:=X2.bl hz;replace X3:=X3.bl hz;have ak8:=Bt hk2 hz;clear hk2;clear hz;clear QJ kU Av IK IE;go_wp2_with fail
 obtain ⟨cX4,ZF,fX4⟩:=X4.clf;obtain ⟨gJ,gI,gN⟩:=X1.clf;obtain ⟨iF,iE,iO⟩:=X2.clf;refine aC [(.read,0),(.pure,1),(.read,2),(.pure,3),(.read,4),(.ext,5),(.ext,6),(.fin,7)] zk zk zR zP ?_;refine zV ?_;refine aH rfl rfl (fun bi0 bm8 J hJ=>?_);go_simp;have az2:Below Pm.heap.size Pm bi0:=au;clear bm8;refine (aD.iw _ _ _ _ _ (qX.out.later az2) (Cw.out.later az2) S2.out S4.out).mono ?_;rintro e ad2 ⟨v,rfl,Cc,aL6⟩;obtain ⟨bG,paG,lG,caG,rfl⟩:=aL6.agg;refine hJ _ _ Cc ?_;clear hJ J;have Iq:=Bt az2 Cc;have NG:=zh aL6;clear az2 Cc aL6;refine zV ?_;refine aH rfl rfl (fun aW4 bm7 J hJ=>?_);go_simp;have aM7:Below Pm.heap.size Pm aW4:=Bt Iq au;replace NG:=zh (NG.out.later (show Below ad2.heap.size ad2 aW4 from au));clear bm7 Iq;refine (HL.out _ _ _ (NF.out.later aM7) NG.out).mono ?_
 rintro e ad1 ⟨v,rfl,Iy,UY⟩;obtain ⟨bE,paE,lE,caE,bEd,aI6,lEd,aP9,rfl,bl0,bk9⟩:=id UY;refine hJ _ _ Iy ?_;clear hJ J;have ba6:=Bt aM7 Iy;replace NG:=zh (NG.out.later Iy);have QE:=zh UY;clear aM7 Iy UY bl0 bk9;refine zV ?_;refine aQ [_] rfl (fun aG9 bm3=>?_);replace NG:=zh (NG.out.later (show Below ad1.heap.size ad1 aG9 from au));replace QE:=zh (QE.out.later (show Below ad1.heap.size ad1 aG9 from au));have Ip:Below Pm.heap.size Pm aG9:=Bt ba6 au;clear bm3 ba6;clear cX4 ZF fX4 gJ gI gN iF iE iO;replace NA:=zh (NA.out.later Ip);replace qX:=zh (qX.out.later Ip);replace NB:=zh (NB.out.later Ip);replace Cw:=zh (Cw.out.later Ip);replace X1:=X1.bl Ip;replace X2:=X2.bl Ip;replace X3:=X3.bl Ip;replace X4:=X4.bl Ip;replace NF:=zh (NF.out.later Ip);have bB1:=Bt ak8 Ip;clear ak8;clear Ip;clear NG
 obtain ⟨rF,rA,sH⟩:=X3.clf;have hres:=X3.out;have nE:=hres.cell;have nD:=hres.free;go_wp2_with fail
 refine bZ rfl rfl aJ Tryz.underlying163 rfl zk ?_;exact ⟨_,rfl,au,Ra.su QE.out hres zd _ _ _ _⟩
theorem oI (x y:Value) (p q:Rat) (w:World) (hx:Ra w x p) (hy:Ra w y q) (h1:iA 10000000000 p) (h2:iA 10000000000 q):Calls Tryz.prog 215 #[x,y] w (kE w (p - q)):=by
 obtain ⟨bA,jI,lA,jW,Jz,ru,Jy,rE,rfl,hA1,hA2⟩:=id hx;obtain ⟨bB,oU,lB,pz,bBd,He,lBd,Jk,rfl,hB1,hB2⟩:=id hy;have QA:=zh hx;have NA:=zh hA1;have qX:=zh hA2;have QB:=zh hy;have NB:=zh hB1;have Cw:=zh hB2;have H1:=zh h1;have H2:=zh (uI h2);have HP:=zh (fun x y w hx hy=>rW x y p (-q) w hx hy h1 (uI h2));rw [← Rat.sub_eq_add_neg] at HP;clear hx hy hA1 hA2 hB1 hB2 h1 h2;go_enter Tryz.func215,Tryz.ntmps215
 go_wp2_with fail
 obtain ⟨dN,EW,hz,X1,X2,X3⟩:=yx w #[.bool bA,.slice jI lA jW,.bool Jz,.slice ru Jy rE] 163 #[.bool bB,.slice oU lB pz,.bool bBd,.slice He lBd Jk] 163 #[.bool false,.slice none 0 0,.bool false,.slice none 0 0] 163;rw [EW];replace QA:=zh (QA.out.later hz);replace QB:=zh (QB.out.later hz);have hk2:=Bt (Below.refl _ _) hz;clear EW hz;obtain ⟨gJ,gI,gN⟩:=X1.clf;obtain ⟨iF,iE,iO⟩:=X2.clf;refine aC [(.read,0),(.read,1),(.ext,2),(.ext,3),(.fin,4)] zk zk zR zP ?_;refine zV ?_;refine aH rfl rfl (fun xR hb3 J hJ=>?_);go_simp;have hh3:Below dN.heap.size dN xR:=au;clear hb3;refine (vD _ _ _ (QB.out.later hh3)).mono ?_;rintro e uD ⟨v,rfl,hb4,hv5⟩;obtain ⟨bC,JJ,lC,Kh,bCd,aY3,lCd,be6,rfl,hx5,hy5⟩:=id hv5;refine hJ _ _ hb4 ?_;clear hJ J;have oZ:=Bt hh3 hb4;have QC:=zh hv5;clear hh3 hb4 hv5 hx5 hy5;refine zV ?_
 refine aH rfl rfl (fun rM hb6 J hJ=>?_);go_simp;have iL:Below dN.heap.size dN rM:=Bt oZ au;replace QC:=zh (QC.out.later (show Below uD.heap.size uD rM from au));clear hb6 oZ;refine (HP.out _ _ _ (QA.out.later iL) QC.out).mono ?_;rintro e jX ⟨v,rfl,fK,kD⟩;obtain ⟨bE,paE,lE,caE,bEd,aI6,lEd,aP9,rfl,hx8,hy8⟩:=id kD;refine hJ _ _ fK ?_;clear hJ J;have oW:=Bt iL fK;replace QC:=zh (QC.out.later fK);have QE:=zh kD;clear iL fK kD hx8 hy8;refine zV ?_;refine aQ [_] rfl (fun zD ZQ=>?_);replace QC:=zh (QC.out.later (show Below jX.heap.size jX zD from au));replace QE:=zh (QE.out.later (show Below jX.heap.size jX zD from au));have iM:Below dN.heap.size dN zD:=Bt oW au;clear ZQ oW;clear gJ gI gN iF iE iO;replace QA:=zh (QA.out.later iM);replace QB:=zh (QB.out.later iM);replace X1:=X1.bl iM;replace X2:=X2.bl iM
 replace X3:=X3.bl iM;have hk10:=Bt hk2 iM;clear hk2;clear iM;clear QC;obtain ⟨rF,rA,sH⟩:=X3.clf;have hres:=X3.out;have nE:=hres.cell;have nD:=hres.free;go_wp2_with fail
 refine bZ rfl rfl aJ Tryz.underlying163 rfl zk ?_;exact ⟨_,rfl,au,Ra.su QE.out hres zd _ _ _ _⟩
theorem aP1 (p q:Rat):AQ (p.num*(q.den:Int)) (q.num*(p.den:Int))=jA p q:=by
 rw [← zX];unfold AQ vT;split
 ·rw [if_neg zo,if_pos zo]
 ·split
  ·rw [if_neg zo,if_neg zo]
  ·rw [if_pos zo]
theorem je (x y:Value) (p q:Rat) (w:World) (hx:Ra w x p) (hy:Ra w y q) (h1:iA 10000000000 p) (h2:iA 10000000000 q):Calls Tryz.prog 212 #[x,y] w (fun e w'=>e= .returned (.int .i64 (jA p q))∧Below w.heap.size w w'):=by
 obtain ⟨bA,jI,lA,jW,Jz,ru,Jy,rE,rfl,hA1,hA2⟩:=id hx;obtain ⟨bB,oU,lB,pz,bBd,He,lBd,Jk,rfl,hB1,hB2⟩:=id hy;have QA:=zh hx;have NA:=zh hA1;have qX:=zh hA2;have QB:=zh hy;have NB:=zh hB1;have Cw:=zh hB2;obtain ⟨s1,s2⟩:=iA.four h1;obtain ⟨s3,s4⟩:=iA.four h2;have S1:Hid (sz 10000 p.num.natAbs≤549755813888):=zh zo;have S2:Hid (sz 10000 (p.den:Int).natAbs≤549755813888):=zh zo;have S3:Hid (sz 10000 q.num.natAbs≤549755813888):=zh zo;have S4:Hid (sz 10000 (q.den:Int).natAbs≤549755813888):=zh zo;have a1:=pI s1 s4;have a2:=pI s3 s2;have P1:Hid (sz 10000 (p.num*(q.den:Int)).natAbs≤549755813888):=zh zo;have P2:Hid (sz 10000 (q.num*(p.den:Int)).natAbs≤549755813888):=zh zo;have HO:=zh (fun x y w hx hy=>aD.je x y (p.num*(q.den:Int)) (q.num*(p.den:Int)) w hx hy P1.out P2.out);rw [aP1] at HO;clear hx hy hA1 hA2 hB1 hB2 h1 h2 s1 s2 s3 s4 a1 a2
 generalize jA p q=cc at *;go_enter Tryz.func212,Tryz.ntmps212
 go_wp2_with fail
 obtain ⟨dN,EW,hz,X1,X2⟩:=yA w #[.bool bA,.slice jI lA jW,.bool Jz,.slice ru Jy rE] 163 #[.bool bB,.slice oU lB pz,.bool bBd,.slice He lBd Jk] 163;rw [EW];replace NA:=zh (NA.out.later hz);replace qX:=zh (qX.out.later hz);replace NB:=zh (NB.out.later hz);replace Cw:=zh (Cw.out.later hz);have hk2:=Bt (Below.refl _ _) hz;clear EW hz;obtain ⟨gJ,gI,gN⟩:=X1.clf;obtain ⟨iF,iE,iO⟩:=X2.clf;refine aC [(.pure,0),(.read,1),(.pure,2),(.read,3),(.pure,5),(.read,6),(.pure,7),(.read,8),(.ext,4),(.ext,9),(.ext,10),(.fin,11)] zk zk zR zP ?_;refine zV ?_;refine aH rfl rfl (fun xR hb3 J hJ=>?_);go_simp;have hh3:Below dN.heap.size dN xR:=au;clear hb3;refine (aD.iw _ _ _ _ _ (NA.out.later hh3) (Cw.out.later hh3) S1.out S4.out).mono ?_;rintro e uD ⟨v,rfl,hb4,hv5⟩;obtain ⟨bC,JJ,lC,Kh,rfl⟩:=hv5.agg;refine hJ _ _ hb4 ?_;clear hJ J
 have oZ:=Bt hh3 hb4;have NC:=zh hv5;clear hh3 hb4 hv5;refine zV ?_;refine aH rfl rfl (fun rM hb6 J hJ=>?_);go_simp;have iL:Below dN.heap.size dN rM:=Bt oZ au;replace NC:=zh (NC.out.later (show Below uD.heap.size uD rM from au));clear hb6 oZ;refine (aD.iw _ _ _ _ _ (NB.out.later iL) (qX.out.later iL) S3.out S2.out).mono ?_;rintro e jX ⟨v,rfl,fK,kD⟩;obtain ⟨bD,Pb,lD,Pg,rfl⟩:=kD.agg;refine hJ _ _ fK ?_;clear hJ J;have oW:=Bt iL fK;replace NC:=zh (NC.out.later fK);have ND:=zh kD;clear iL fK kD;refine zV ?_;refine aH rfl rfl (fun vI qW J hJ=>?_);go_simp;have iM:Below dN.heap.size dN vI:=Bt oW au;replace NC:=zh (NC.out.later (show Below jX.heap.size jX vI from au));replace ND:=zh (ND.out.later (show Below jX.heap.size jX vI from au));clear qW oW;refine (HO.out _ _ _ NC.out ND.out).mono ?_
 rintro e gV ⟨rfl,eX⟩;refine hJ _ _ eX ?_;clear hJ J;have jw:=Bt iM eX;replace NC:=zh (NC.out.later eX);replace ND:=zh (ND.out.later eX);clear iM eX;refine zV ?_;refine aQ [_] rfl (fun oM Cb=>?_);replace NC:=zh (NC.out.later (show Below gV.heap.size gV oM from au));replace ND:=zh (ND.out.later (show Below gV.heap.size gV oM from au));have hh12:Below dN.heap.size dN oM:=Bt jw au;clear Cb jw;clear gJ gI gN iF iE iO;replace NA:=zh (NA.out.later hh12);replace qX:=zh (qX.out.later hh12);replace NB:=zh (NB.out.later hh12);replace Cw:=zh (Cw.out.later hh12);replace X1:=X1.bl hh12;replace X2:=X2.bl hh12;have Vd:=Bt hk2 hh12;clear hk2;clear hh12;clear NC;clear ND;go_wp2_with fail
 go_ret
 exact ⟨rfl,Vd⟩
end Go.Proofs.aF
namespace Go.Proofs.aD
open Go Go.RowKit Go.SW Go.Num Go.Mem Go.Proofs
theorem ZA {a b:Int} (ha:a<0) (hb:0<b) (h:¬ b ∣ a):iD (a.natAbs / b.natAbs) true= -((a.natAbs / b.natAbs:Nat):Int)∧iD (a.natAbs%b.natAbs) true= -((a.natAbs%b.natAbs:Nat):Int)∧0<a.natAbs%b.natAbs∧a / b= -((a.natAbs / b.natAbs:Nat):Int) - 1∧a%b= -((a.natAbs%b.natAbs:Nat):Int)+b:=by
 obtain ⟨n,rfl⟩:∃ n:Nat,a= -(n:Int):=⟨a.natAbs,by omega⟩;obtain ⟨d,rfl⟩:∃ d:Nat,b=(d:Int):=⟨b.natAbs,by omega⟩;rw [Int.natAbs_neg,Int.natAbs_natCast,Int.natAbs_natCast];have hm:n%d≠0:=fun e=>h (Int.dvd_neg.2 (Int.natCast_dvd_natCast.2 (Nat.dvd_of_mod_eq_zero e)));have hlt:=Nat.mod_lt n (show 0<d by omega);have Vg:=Nat.div_add_mod n d
 have e1: -(n:Int)=(d:Int)*(-((n / d:Nat):Int) - 1)+((d:Int) - ((n%d:Nat):Int)):=by
  have:(n:Int)=(d:Int)*((n / d:Nat):Int)+((n%d:Nat):Int):=by exact_mod_cast Vg.symm
  rw [this];grind
 refine ⟨by unfold iD;simp,by unfold iD;simp,by omega,?_,?_⟩
 ·rw [e1,Int.add_comm,Int.add_mul_ediv_left _ _ zo,Int.ediv_eq_zero_of_lt zo zo];omega
 ·rw [e1,Int.add_comm,Int.add_mul_emod_self_left,Int.emod_eq_of_lt zo zo];omega
def aR0 (w:World) (z:Int) (e:Ending) (w':World):Prop:=∃ b pa l ca,e= .returned (.agg #[.bool b,.slice pa l ca])∧Below w.heap.size w w'∧Pl w' (.agg #[.bool b,.slice pa l ca]) z
theorem aG0 {w:World} {z:Int} {e:Ending} {w':World} (h:∃ v',e= .returned v'∧Below w.heap.size w w'∧Pl w' v' z):aR0 w z e w':=by
 obtain ⟨v,rfl,h,hv⟩:=h;obtain ⟨b,pa,l,ca,rfl⟩:=hv.agg;exact ⟨b,pa,l,ca,rfl,h,hv⟩
theorem aC8 (x y:Value) (a b:Int) (w:World) (hx:Pl w x a) (hy:Pl w y b) (ha:sz 10000 a.natAbs≤549755813888) (hb:sz 10000 b.natAbs≤549755813888):Calls Tryz.prog 279 #[x,y] w (aR0 w (a+b)):=(rW x y a b w hx hy ha hb).mono fun _ _ h=>aG0 h
theorem ar4 (x y:Value) (a b:Int) (w:World) (hx:Pl w x a) (hy:Pl w y b) (ha:sz 10000 a.natAbs≤549755813888) (hb:sz 10000 b.natAbs≤549755813888):Calls Tryz.prog 301 #[x,y] w (aR0 w (a - b)):=(oI x y a b w hx hy ha hb).mono fun _ _ h=>aG0 h
theorem ad9 {n:Nat} {k:Nat} (h:sz 10000 n≤k):sz 10000 (-(n:Int)).natAbs≤k:=by rwa [Int.natAbs_neg,Int.natAbs_natCast]
theorem aH3:sz 10000 (1:Int).natAbs≤549755813888:=by decide+kernel
theorem ac0 (x y:Value) (a b:Int) (w:World) (hx:Pl w x a) (hy:Pl w y b) (ha:sz 10000 a.natAbs≤274877906944) (hb:sz 10000 b.natAbs≤274877906944) (ha0:a<0) (hb0:0<b) (hd:¬ b ∣ a) :
  Calls Tryz.prog 262 #[x,y] w (zy w (a / b) (a%b)):=by
 obtain ⟨bA,jI,lA,jW,rfl⟩:=hx.agg;obtain ⟨bB,oU,lB,pz,rfl⟩:=hy.agg;obtain ⟨nA,eA⟩:=hx.nm;obtain ⟨nB,eB⟩:=hy.nm;have hbf:bB=false:=by rw [eB];simp;omega
 subst hbf;have hbt:bA=true:=by rw [eA];simp;omega
 subst hbt;obtain ⟨s1,s2,s3,s4,s5⟩:=ZA ha0 hb0 hd;have hqz:sz 10000 (a.natAbs / b.natAbs)≤549755813888:=Nat.le_trans (dB zo (Nat.div_le_self _ _)) zo;have hrz:sz 10000 (a.natAbs%b.natAbs)≤549755813888:=Nat.le_trans (dB zo (Nat.mod_le _ _)) zo;have vN:=zh nA;have Bo:=zh nB;have NBp:=zh hy;have KA:=zh ha;have KB:=zh hb;have H0:Hid (0<b.natAbs):=zh zo;have HS1:=zh s1;have HS2:=zh s2;have HS3:=zh s3;have HQ:=zh hqz;have HRz:=zh hrz;rw [s4,s5];clear hx hy ha hb hb0 ha0 hd nA nB eA eB s1 s2 s3 s4 s5 hqz hrz;go_enter Tryz.func262,Tryz.ntmps262
 go_wp2_with fail
 obtain ⟨dN,EW,hz,X1,X2,X3,X4⟩:=al4 w #[.bool true,.slice jI lA jW] 161 #[.bool false,.slice oU lB pz] 161 #[.bool false,.slice none 0 0] 161 #[.bool false,.slice none 0 0] 161;rw [EW];have hk2:=Bt (Below.refl _ _) hz;clear EW hz;refine (GN _ _ _ _ _ (vN.out.later hk2) (Bo.out.later hk2) H0.out KA.out KB.out).mono ?_;rintro e ko ⟨q,r,rfl,hb3,hq,hr⟩;obtain ⟨paQ,lQ,caQ,rfl⟩:=hq.slice;obtain ⟨paR,lR,caR,rfl⟩:=hr.slice;replace X1:=X1.bl hb3;replace X2:=X2.bl hb3;replace X3:=X3.bl hb3;replace X4:=X4.bl hb3;have hk5:=Bt hk2 hb3;clear hk2;have NQ:=zh hq;have NR:=zh hr;clear hb3 hq hr;have HL4:=zh X4.out.lt;go_wp2_with fail
 obtain ⟨gJ,gI,gN⟩:=X1.clf;obtain ⟨iF,iE,iO⟩:=X2.clf;refine aC [(.pure,0),(.read,1),(.pure,2),(.read,3),(.pure,4),(.pure,5),(.pure,7),(.read,8),(.pure,9),(.ext,6),(.ext,10),(.alloc #[.bool false,.slice none 0 0] 161,11),(.alloc #[.bool false,.slice none 0 0] 161,12),(.fin,13),(.fin,14)] zk zk zR zP ?_;refine zV ?_;refine aH rfl rfl (fun rM hb6 J hJ=>?_);go_simp;have iL:Below ko.heap.size ko rM:=au;clear hb6;refine (uQ _ _ _ _ _ (NQ.out.later iL) HS1.out).mono ?_;rintro e jX ⟨v,rfl,fK,kD⟩;obtain ⟨bU,Qi,lU,RP,rfl⟩:=kD.agg;refine hJ _ _ fK ?_;clear hJ J;have oW:=Bt iL fK;have NU:=zh kD;clear iL fK kD;refine zV ?_;refine aH rfl rfl (fun vI qW J hJ=>?_);go_simp;have iM:Below ko.heap.size ko vI:=Bt oW au;replace NU:=zh (NU.out.later (show Below jX.heap.size jX vI from au));clear qW oW
 refine (uQ _ _ _ _ _ (NR.out.later iM) HS2.out).mono ?_;rintro e gV ⟨v,rfl,eX,hv⟩;obtain ⟨bV,Qh,lV,RO,rfl⟩:=hv.agg;have hbv:bV=true:=hv.nm.2.trans (decide_eq_true (by have:=HS3.out;omega));subst hbv;refine hJ _ _ eX ?_;clear hJ J;have jw:=Bt iM eX;replace NU:=zh (NU.out.later eX);have NV:=zh hv;clear iM eX hv;refine zV ?_;refine dw rfl (fun ji aW9 QJ kU Av IK jE=>?_);go_simp;replace jE:ah _ _ _ _:=jE;have IE:w.heap.size≤ji:=(by first|omega|exact Nat.le_trans (Below.size (B:=w.heap.size) au) kU);refine dw rfl (fun mg bi1 QI sG NZ IJ uR=>?_);go_simp;replace uR:ah _ _ _ _:=uR;have Vk:w.heap.size≤mg:=(by first|omega|exact Nat.le_trans (Below.size (B:=w.heap.size) au) sG);replace jE:=ah.later jE QI;have hne:ji≠mg:=fun h=>IJ (by simp [h])
 have hne2:mg≠ji:=fun h=>hne h.symm;refine aQ [_,_] rfl (fun wf hf=>?_);replace NU:=zh (NU.out.later (show Below gV.heap.size gV wf from au));replace NV:=zh (NV.out.later (show Below gV.heap.size gV wf from au));have ZP:Below ko.heap.size ko wf:=Bt jw au;have hq0:=jE.later hf;have cq0:=hq0.cell;have fq0:=hq0.free;have hq1:=uR.later hf;have cq1:=hq1.cell;have fq1:=hq1.free;have Y2:=X2.out.later ZP;have c2:=Y2.cell;have l2:=Y2.lt;have hl2:=X2.out.lt;have hl3:=X3.out.lt;have hl4:=HL4.out;have m1:ji≠w.heap.size+1:=by omega
 have m2:mg≠w.heap.size+1:=by omega
 clear jE uR hf jw gJ gI gN iF iE iO;go_wp2_with fail
 obtain ⟨w4,EW⟩:∃ y,((((wf.setCell ⟨ji,0,none⟩ (.bool bU)).setCell ⟨ji,1,none⟩ (.slice Qi lU RP)).setCell ⟨mg,0,none⟩ (.bool true)).setCell ⟨mg,1,none⟩ (.slice Qh lV RO))=y:=⟨_,rfl⟩;have hz:Below ko.heap.size ko w4:=by rw [← EW];exact ((((ZP.setCell kU _).setCell kU _).setCell sG _).setCell sG _)
 have X5:Hid (ah w4 ji #[.bool bU,.slice Qi lU RP] 161):=zh (by rw [← EW];exact ((((hq0.set 0 _).set 1 _).setOther _ hne).setOther _ hne));have X6:Hid (ah w4 mg #[.bool true,.slice Qh lV RO] 161):=zh (by rw [← EW];exact ((((hq1.setOther _ hne2).setOther _ hne2).set 0 _).set 1 _));have t:=(NU.out.set2 hq0 zd 0 1 (.bool bU) (.slice Qi lU RP)).set2 ((hq1.setOther (a:=⟨ji,0,none⟩) _ hne2).setOther (a:=⟨ji,1,none⟩) _ hne2) zd 0 1 (.bool true) (.slice Qh lV RO);rw [EW] at t;replace NU:=zh t;clear t;have t:=(NV.out.set2 hq0 zd 0 1 (.bool bU) (.slice Qi lU RP)).set2 ((hq1.setOther (a:=⟨ji,0,none⟩) _ hne2).setOther (a:=⟨ji,1,none⟩) _ hne2) zd 0 1 (.bool true) (.slice Qh lV RO);rw [EW] at t;replace NV:=zh t;clear t;rw [EW];have HB:=zh (Bt hk5 hz);replace X2:=X2.bl hz;replace X3:=X3.bl hz;replace X4:=X4.bl hz;have ba9:w.heap.size≤ji:=by omega
 have ba8:w.heap.size≤mg:=by omega
 have n1:mg≠w.heap.size+1+1:=by omega
 have n2:mg≠w.heap.size+1+1+1:=by omega
 have n3:ji≠w.heap.size+1+1:=by omega
 have n4:ji≠w.heap.size+1+1+1:=by omega
 have NBq:=zh (NBp.out.later HB.out);have K1:sz 10000 b.natAbs≤549755813888:=by have:=KB.out;omega
 clear EW hq0 cq0 fq0 hq1 cq1 fq1 ZP hz vN Bo NBp NQ NR X1 hk5 QJ QI IK IJ IE Vk kU sG Av NZ Y2 c2 l2 hl2 hl3 hl4 HS1 HS2 HS3 H0 KA KB HL4;refine (aC8 _ _ _ _ _ NV.out NBq.out (ad9 HRz.out) K1).mono ?_;rintro e w5 ⟨bP,Xr,lP,Yq,rfl,h,hm⟩;replace X2:=X2.bl h;replace X3:=X3.bl h;replace X4:=X4.bl h;replace X5:=X5.bl h;replace X6:=X6.bl h;replace NU:=zh (NU.out.later h);replace HB:=zh (Bt HB.out h);have NP:=zh hm;clear h hm NV NBq K1;have c6:=X6.out.cell;have f6:=X6.out.free;have Y2:=X2.out;have c2:=Y2.cell;have l2:=Y2.lt;have Y5:=X5.out;have c5:=Y5.cell;have l5:=Y5.lt;go_wp2_with fail
 clear c6 f6 c2 l2 c5 l5;obtain ⟨w6,EW⟩:∃ y,((w5.setCell ⟨mg,0,none⟩ (.bool bP)).setCell ⟨mg,1,none⟩ (.slice Xr lP Yq))=y:=⟨_,rfl⟩;have q6:=X6.out;have q5:=X5.out;have t:=(HB.out.setCell (p:=⟨mg,0,none⟩) ba8 (.bool bP)).setCell (p:=⟨mg,1,none⟩) ba8 (.slice Xr lP Yq);rw [EW] at t;replace HB:=zh t;clear t;have t:=(q6.set 0 (.bool bP)).set 1 (.slice Xr lP Yq);rw [EW] at t;replace X6:Hid (ah w6 mg #[.bool bP,.slice Xr lP Yq] 161):=zh t;clear t;have t:=(q5.setOther (a:=⟨mg,0,none⟩) (.bool bP) hne).setOther (a:=⟨mg,1,none⟩) (.slice Xr lP Yq) hne;rw [EW] at t;replace X5:=zh t;clear t;have t:=(X3.out.setOther (a:=⟨mg,0,none⟩) (.bool bP) (Ne.symm n1)).setOther (a:=⟨mg,1,none⟩) (.slice Xr lP Yq) (Ne.symm n1);rw [EW] at t;replace X3:=zh t;clear t
 have t:=(X4.out.setOther (a:=⟨mg,0,none⟩) (.bool bP) (Ne.symm n2)).setOther (a:=⟨mg,1,none⟩) (.slice Xr lP Yq) (Ne.symm n2);rw [EW] at t;replace X4:=zh t;clear t;have t:=NU.out.set2 q6 zd 0 1 (.bool bP) (.slice Xr lP Yq);rw [EW] at t;replace NU:=zh t;clear t;have t:=NP.out.set2 q6 zd 0 1 (.bool bP) (.slice Xr lP Yq);rw [EW] at t;replace NP:=zh t;clear t q5 q6 X2 Y2 Y5;rw [EW];clear EW;have vO:=zh (Below.refl w6.heap.size w6);refine aC [(.read,0),(.ext,1),(.ext,2),(.fin,3)] zk zk zR zP ?_;refine Wk.out ?_;have cX5:=X5.out.cell;have lX5:=X5.out.lt;refine zS ?_;clear cX5 lX5;refine dP rfl rfl (fun we hbe J hJ=>?_);go_simp;have hx:Below w6.heap.size w6 we:=au;have yB:=zh (Bt HB.out hx);refine (jk 1 _ zo zo).mono ?_;rintro e u1 ⟨vi,rfl,h,hm⟩;have hy:=Bt hx h;refine hJ _ _ h ?_;clear hJ J hbe hx h yB;replace X3:=X3.bl hy;replace X4:=X4.bl hy
 replace X5:=X5.bl hy;replace X6:=X6.bl hy;replace NU:=zh (NU.out.later hy);replace NP:=zh (NP.out.later hy);replace HB:=zh (Bt HB.out hy);replace vO:=zh (Bt vO.out hy);clear hy;have FI:=zh hm;clear hm;have cX5:=X5.out.cell;have lX5:=X5.out.lt;refine zS ?_;clear cX5 lX5;refine dP rfl rfl (fun we hbe J hJ=>?_);go_simp;have hx:Below u1.heap.size u1 we:=au;have yB:=zh (Bt HB.out hx);refine (ar4 _ _ _ _ _ (NU.out.later hx) (FI.out.later hx) (ad9 HQ.out) aH3).mono ?_;rintro e u2 ⟨bX,JH,lX,JZ,rfl,h,hm⟩;have hy:=Bt hx h;refine hJ _ _ h ?_;clear hJ J hbe hx h yB;replace X3:=X3.bl hy;replace X4:=X4.bl hy;replace X5:=X5.bl hy;replace X6:=X6.bl hy;replace NU:=zh (NU.out.later hy);replace NP:=zh (NP.out.later hy);replace FI:=zh (FI.out.later hy);replace HB:=zh (Bt HB.out hy);replace vO:=zh (Bt vO.out hy);clear hy;have FX:=zh hm;clear hm;have cX5:=X5.out.cell
 have lX5:=X5.out.lt;refine zS ?_;clear cX5 lX5;refine rY [_] rfl (fun u3 hbf=>?_);have hy:Below u2.heap.size u2 u3:=au;replace X3:=X3.bl hy;replace X4:=X4.bl hy;replace X5:=X5.bl hy;replace X6:=X6.bl hy;replace NU:=zh (NU.out.later hy);replace NP:=zh (NP.out.later hy);replace FI:=zh (FI.out.later hy);replace FX:=zh (FX.out.later hy);replace HB:=zh (Bt HB.out hy);clear hy hbf vO;have q5:=X5.out;have c5:=q5.cell;have f5:=q5.free;clear FI NU;go_wp2_with fail
 clear c5 f5;obtain ⟨w8,EW⟩:∃ y,((u3.setCell ⟨ji,0,none⟩ (.bool bX)).setCell ⟨ji,1,none⟩ (.slice JH lX JZ))=y:=⟨_,rfl⟩;have t:=(HB.out.setCell (p:=⟨ji,0,none⟩) ba9 (.bool bX)).setCell (p:=⟨ji,1,none⟩) ba9 (.slice JH lX JZ);rw [EW] at t;replace HB:=zh t;clear t;have t:=(q5.set 0 (.bool bX)).set 1 (.slice JH lX JZ);rw [EW] at t;replace X5:Hid (ah w8 ji #[.bool bX,.slice JH lX JZ] 161):=zh t;clear t;have t:=(X6.out.setOther (a:=⟨ji,0,none⟩) (.bool bX) hne2).setOther (a:=⟨ji,1,none⟩) (.slice JH lX JZ) hne2;rw [EW] at t;replace X6:=zh t;clear t;have t:=(X3.out.setOther (a:=⟨ji,0,none⟩) (.bool bX) (Ne.symm n3)).setOther (a:=⟨ji,1,none⟩) (.slice JH lX JZ) (Ne.symm n3);rw [EW] at t;have h3:=t;clear t;have t:=(X4.out.setOther (a:=⟨ji,0,none⟩) (.bool bX) (Ne.symm n4)).setOther (a:=⟨ji,1,none⟩) (.slice JH lX JZ) (Ne.symm n4);rw [EW] at t;have h4:=t;clear t
 have t:=NP.out.set2 q5 zd 0 1 (.bool bX) (.slice JH lX JZ);rw [EW] at t;replace NP:=zh t;clear t;have t:=FX.out.set2 q5 zd 0 1 (.bool bX) (.slice JH lX JZ);rw [EW] at t;replace FX:=zh t;clear t q5 X3 X4;rw [EW];clear EW;have c5:=X5.out.cell;have c6:=X6.out.cell;have c3:=h3.cell;have c4:=h4.cell;have f3:=h3.free;have f4:=h4.free;clear X5 X6 hne hne2 HQ HRz;go_region
 go_wp2_with fail
 have h4b:=(h4.setOther (a:=⟨w.heap.size+1+1,0,none⟩) (.bool bX) zi).setOther (a:=⟨w.heap.size+1+1,1,none⟩) (.slice JH lX JZ) zi;have h3b:=(((h3.set 0 (.bool bX)).set 1 (.slice JH lX JZ)).setOther (a:=⟨w.heap.size+1+1+1,0,none⟩) (.bool bP) zi).setOther (a:=⟨w.heap.size+1+1+1,1,none⟩) (.slice Xr lP Yq) zi;have hU:=(FX.out.set2 h3 zd 0 1 (.bool bX) (.slice JH lX JZ)).set2 h4b zd 0 1 (.bool bP) (.slice Xr lP Yq);have hV:=(NP.out.set2 h3 zd 0 1 (.bool bX) (.slice JH lX JZ)).set2 h4b zd 0 1 (.bool bP) (.slice Xr lP Yq);have hk:=HB.out;refine af7 rfl rfl (ah.drew h3b) Tryz.underlying161 rfl zk rfl (ah.drew ((h4b.set 0 (.bool bP)).set 1 (.slice Xr lP Yq))) Tryz.underlying161 rfl zk ?_;exact ⟨_,_,rfl,au,hU.later (Below.drew (Below.refl _ _)),hV.later (Below.drew (Below.refl _ _))⟩
theorem ac1 (x y:Value) (a b:Int) (w:World) (hx:Pl w x a) (hy:Pl w y b) (ha:sz 10000 a.natAbs≤274877906944) (hb:sz 10000 b.natAbs≤274877906944) (hb0:0<b):Calls Tryz.prog 262 #[x,y] w (zy w (a / b) (a%b)):=by
 by_cases h:0≤a∨b ∣ a
 ·exact wY x y a b w hx hy ha hb hb0 h
 ·exact ac0 x y a b w hx hy ha hb zo hb0 (fun e=>h (.inr e))
end Go.Proofs.aD
namespace Go.Proofs.aF
open Go Go.RowKit Go.SW Go.Num Go.Mem Go.Proofs Go.Dec Go.Proofs.aD Go.eF
def Ti (q:Rat):Int:=q.num / (q.den:Int)
theorem _root_.Go.Mem.Pl.alloc {w:World} {v:Value} {z:Int} (h:Pl w v z) (o:Obj):Pl (w.alloc o) v z:=h.later ((Below.refl _ _).alloc (Nat.le_refl _) _)
theorem YL (x:Value) (p:Rat) (w:World) (hx:Ra w x p) (h1:iA 10000000000 p):Calls Tryz.prog 267 #[x] w (Cv w (Ti p)):=by
 obtain ⟨bA,jI,lA,jW,Jz,ru,Jy,rE,rfl,hA1,hA2⟩:=id hx;have QA:=zh hx;have NA:=zh hA1;have qX:=zh hA2;obtain ⟨s1,s2⟩:=iA.four h1;have S1:Hid (sz 10000 p.num.natAbs≤274877906944):=zh zo;have S2:Hid (sz 10000 (p.den:Int).natAbs≤274877906944):=zh zo;have S3:Hid ((0:Int)<(p.den:Int)):=zh (by have:=p.den_pos;omega);clear hx hA1 hA2 s1 s2 h1;unfold Ti;go_enter Tryz.func267,Tryz.ntmps267
 go_wp2_with fail
 obtain ⟨dN,EW,hz,X1,X2⟩:=yA w #[.bool bA,.slice jI lA jW,.bool Jz,.slice ru Jy rE] 163 #[.bool false,.slice none 0 0] 161;rw [EW];replace NA:=zh (NA.out.later hz);replace qX:=zh (qX.out.later hz);have hk2:=Bt (Below.refl _ _) hz;clear EW hz;refine (aD.ac1 _ _ _ _ _ NA.out qX.out S1.out S2.out S3.out).mono ?_;rintro e ko ⟨q,r,rfl,hb3,hq,hr⟩;obtain ⟨bT,paQ,lQ,caQ,rfl⟩:=hq.agg;obtain ⟨bS,paR,lR,caR,rfl⟩:=hr.agg;replace NA:=zh (NA.out.later hb3);replace qX:=zh (qX.out.later hb3);replace X1:=X1.bl hb3;replace X2:=X2.bl hb3;have hk5:=Bt hk2 hb3;clear hk2;have NQ:=zh hq;clear hb3 hq;obtain ⟨iF,iE,iO⟩:=X2.clf;have hres:=((X2.out.alloc (.cells #[.bool bT,.slice paQ lQ caQ] 161)).alloc (.cells #[.bool bS,.slice paR lR caR] 161));have nE:=hres.cell;have nD:=hres.free;go_wp2_with fail
 have hQ:=(NQ.out.alloc (.cells #[.bool bT,.slice paQ lQ caQ] 161)).alloc (.cells #[.bool bS,.slice paR lR caR] 161);refine bZ rfl rfl aJ Tryz.underlying161 rfl zk ?_;exact ⟨_,rfl,au,hQ.set2 hres zd _ _ _ _⟩
end Go.Proofs.aF
namespace Go.Proofs.aD
open Go Go.RowKit Go.SW Go.Num Go.Mem Go.Proofs Go.Dec
def JU (z:Int):Int × Int:=if -9223372036854775808≤z∧z≤9223372036854775807 then (z,0) else (0,6)
theorem TL:sz 10000 (-9223372036854775808:Int).natAbs≤549755813888:=by decide+kernel
theorem ad8:sz 10000 (9223372036854775807:Int).natAbs≤549755813888:=by decide+kernel
theorem JC {l:List Nat} {k:Nat} (h:k<l.length):val 10000 (l.drop k)=l.getD k 0+10000*val 10000 (l.drop (k+1)):=by
 rw [List.drop_eq_getElem_cons h];simp [val,h]
theorem Nz (x:Value) (z:Int) (w:World) (hx:Pl w x z) (hs:sz 10000 z.natAbs≤549755813888) (hz0:z< -9223372036854775808) :
  Calls Tryz.prog 266 #[x] w (fun e w'=>e= .returned (.tuple #[.int .i64 0,.int .i64 6])∧Below w.heap.size w w'):=by
 obtain ⟨bA,jI,lA,jW,rfl⟩:=hx.agg
 have O1:Hid (∀ v v' W,Pl W v z→Pl W v' (-9223372036854775808)→Calls Tryz.prog 264 #[v,v'] W (fun e w'=>e= .returned (.int .i64 (-1))∧Below W.heap.size W w')):=zh fun v v' W h h'=>by
  have:=je v v' z (-9223372036854775808) W h h' hs TL
  rwa [show AQ z (-9223372036854775808)= -1 by unfold AQ;rw [if_pos hz0]] at this
 clear hs hz0;have FA:=zh hx;go_enter Tryz.func266,Tryz.ntmps266
 go_wp2_with fail
 obtain ⟨u0,EW,hz,HX⟩:=rG w #[.bool bA,.slice jI lA jW] 161;rw [EW];replace FA:=zh (FA.out.later hz);have HB:=zh hz;clear EW hz hx;have vO:=zh (Below.refl u0.heap.size u0);refine aC [(.read,0),(.ext,1),(.ext,2),(.pure,3),(.pure,4),(.read,5),(.ext,6),(.ext,7),(.pure,8),(.pure,9)] zk zk zR zP ?_;refine Wk.out ?_;have xZ:=HX.out.cell;have xV:=HX.out.lt;refine zS ?_;clear xZ xV;refine dP rfl rfl (fun we hbe J hJ=>?_);go_simp;have hx:Below u0.heap.size u0 we:=au;have yB:=zh (Bt HB.out hx);refine (jk _ _ zo zo).mono ?_;rintro e u1 ⟨vi,rfl,h,hm⟩;have hy:=Bt hx h;refine hJ _ _ h ?_;clear hJ J hbe hx h yB;replace HX:=zh (HX.out.later hy);replace FA:=zh (FA.out.later hy);replace HB:=zh (Bt HB.out hy);replace vO:=zh (Bt vO.out hy);clear hy;have FI:=zh hm;clear hm;have xZ:=HX.out.cell;have xV:=HX.out.lt;refine zS ?_;clear xZ xV
 refine dP rfl rfl (fun we hbe J hJ=>?_);go_simp;have hx:Below u1.heap.size u1 we:=au;have yB:=zh (Bt HB.out hx);refine (O1.out _ _ _ (FA.out.later hx) (FI.out.later hx)).mono ?_;rintro e u2 ⟨rfl,h⟩;have hy:=Bt hx h;refine hJ _ _ h ?_;clear hJ J hbe hx h yB;replace HX:=zh (HX.out.later hy);replace FA:=zh (FA.out.later hy);replace FI:=zh (FI.out.later hy);replace HB:=zh (Bt HB.out hy);replace vO:=zh (Bt vO.out hy);clear hy;have xZ:=HX.out.cell;have xV:=HX.out.lt;refine zS ?_;clear xZ xV;refine nJ (fun u3 hbf=>?_);have hy:Below u2.heap.size u2 u3:=au;replace HX:=zh (HX.out.later hy);replace FA:=zh (FA.out.later hy);replace FI:=zh (FI.out.later hy);replace HB:=zh (Bt HB.out hy);clear hy hbf vO;go_wp2_with fail
 go_ret2
 exact ⟨rfl,HB.out⟩
theorem JR (x:Value) (z:Int) (w:World) (hx:Pl w x z) (hs:sz 10000 z.natAbs≤549755813888) (hz0:9223372036854775807<z) :
  Calls Tryz.prog 266 #[x] w (fun e w'=>e= .returned (.tuple #[.int .i64 0,.int .i64 6])∧Below w.heap.size w w'):=by
 obtain ⟨bA,jI,lA,jW,rfl⟩:=hx.agg
 have O1:Hid (∀ v v' W,Pl W v z→Pl W v' (-9223372036854775808)→Calls Tryz.prog 264 #[v,v'] W (fun e w'=>e= .returned (.int .i64 1)∧Below W.heap.size W w')):=zh fun v v' W h h'=>by
  have:=je v v' z (-9223372036854775808) W h h' hs TL
  rwa [show AQ z (-9223372036854775808)=1 by unfold AQ;rw [if_neg zo,if_pos zo]] at this
 have O2:Hid (∀ v v' W,Pl W v z→Pl W v' 9223372036854775807→Calls Tryz.prog 264 #[v,v'] W (fun e w'=>e= .returned (.int .i64 1)∧Below W.heap.size W w')):=zh fun v v' W h h'=>by
  have:=je v v' z 9223372036854775807 W h h' hs ad8
  rwa [show AQ z 9223372036854775807=1 by unfold AQ;rw [if_neg zo,if_pos hz0]] at this
 clear hs hz0;have FA:=zh hx;go_enter Tryz.func266,Tryz.ntmps266
 go_wp2_with fail
 obtain ⟨u0,EW,hz,HX⟩:=rG w #[.bool bA,.slice jI lA jW] 161;rw [EW];replace FA:=zh (FA.out.later hz);have HB:=zh hz;clear EW hz hx;have vO:=zh (Below.refl u0.heap.size u0);refine aC [(.read,0),(.ext,1),(.ext,2),(.pure,3),(.pure,4),(.read,5),(.ext,6),(.ext,7),(.pure,8),(.pure,9)] zk zk zR zP ?_;refine Wk.out ?_;have xZ:=HX.out.cell;have xV:=HX.out.lt;refine zS ?_;clear xZ xV;refine dP rfl rfl (fun we hbe J hJ=>?_);go_simp;have hx:Below u0.heap.size u0 we:=au;have yB:=zh (Bt HB.out hx);refine (jk _ _ zo zo).mono ?_;rintro e u1 ⟨vi,rfl,h,hm⟩;have hy:=Bt hx h;refine hJ _ _ h ?_;clear hJ J hbe hx h yB;replace HX:=zh (HX.out.later hy);replace FA:=zh (FA.out.later hy);replace HB:=zh (Bt HB.out hy);replace vO:=zh (Bt vO.out hy);clear hy;have FI:=zh hm;clear hm;have xZ:=HX.out.cell;have xV:=HX.out.lt;refine zS ?_;clear xZ xV
 refine dP rfl rfl (fun we hbe J hJ=>?_);go_simp;have hx:Below u1.heap.size u1 we:=au;have yB:=zh (Bt HB.out hx);refine (O1.out _ _ _ (FA.out.later hx) (FI.out.later hx)).mono ?_;rintro e u2 ⟨rfl,h⟩;have hy:=Bt hx h;refine hJ _ _ h ?_;clear hJ J hbe hx h yB;replace HX:=zh (HX.out.later hy);replace FA:=zh (FA.out.later hy);replace FI:=zh (FI.out.later hy);replace HB:=zh (Bt HB.out hy);replace vO:=zh (Bt vO.out hy);clear hy;have xZ:=HX.out.cell;have xV:=HX.out.lt;refine zS ?_;clear xZ xV;refine dP rfl rfl (fun we hbe J hJ=>?_);go_simp;have hx:Below u2.heap.size u2 we:=au;have yB:=zh (Bt HB.out hx);refine (jk _ _ zo zo).mono ?_;rintro e u3 ⟨vk,rfl,h,hm⟩;have hy:=Bt hx h;refine hJ _ _ h ?_;clear hJ J hbe hx h yB;replace HX:=zh (HX.out.later hy);replace FA:=zh (FA.out.later hy);replace FI:=zh (FI.out.later hy);replace HB:=zh (Bt HB.out hy)
 replace vO:=zh (Bt vO.out hy);clear hy;have FK:=zh hm;clear hm;have xZ:=HX.out.cell;have xV:=HX.out.lt;refine zS ?_;clear xZ xV;refine dP rfl rfl (fun we hbe J hJ=>?_);go_simp;have hx:Below u3.heap.size u3 we:=au;have yB:=zh (Bt HB.out hx);refine (O2.out _ _ _ (FA.out.later hx) (FK.out.later hx)).mono ?_;rintro e u4 ⟨rfl,h⟩;have hy:=Bt hx h;refine hJ _ _ h ?_;clear hJ J hbe hx h yB;replace HX:=zh (HX.out.later hy);replace FA:=zh (FA.out.later hy);replace FI:=zh (FI.out.later hy);replace FK:=zh (FK.out.later hy);replace HB:=zh (Bt HB.out hy);replace vO:=zh (Bt vO.out hy);clear hy;have xZ:=HX.out.cell;have xV:=HX.out.lt;refine zS ?_;clear xZ xV;refine nJ (fun u5 hbf=>?_);have hy:Below u4.heap.size u4 u5:=au;replace HX:=zh (HX.out.later hy);replace FA:=zh (FA.out.later hy);replace FI:=zh (FI.out.later hy);replace FK:=zh (FK.out.later hy)
 replace HB:=zh (Bt HB.out hy);clear hy hbf vO;go_wp2_with fail
 go_ret2
 exact ⟨rfl,HB.out⟩
theorem QD (x:Value) (z:Int) (w:World) (hx:Pl w x z) (hs:sz 10000 z.natAbs≤549755813888) (hz0: -9223372036854775808≤z∧z≤9223372036854775807) :
  Calls Tryz.prog 266 #[x] w (fun e w'=>e= .returned (.tuple #[.int .i64 z,.int .i64 0])∧Below w.heap.size w w'):=by
 obtain ⟨bA,jI,lA,jW,rfl⟩:=hx.agg;have O1:Hid (∃ o:Int,0≤o∧∀ v v' W,Pl W v z→Pl W v' (-9223372036854775808)→Calls Tryz.prog 264 #[v,v'] W (fun e w'=>e= .returned (.int .i64 o)∧Below W.heap.size W w')):=zh ⟨AQ z (-9223372036854775808),by unfold AQ;rw [if_neg zo];split<;>omega,fun v v' W h h'=>je v v' z (-9223372036854775808) W h h' hs TL⟩;have O2:Hid (∃ o:Int,o≤0∧∀ v v' W,Pl W v z→Pl W v' 9223372036854775807→Calls Tryz.prog 264 #[v,v'] W (fun e w'=>e= .returned (.int .i64 o)∧Below W.heap.size W w')):=zh ⟨AQ z 9223372036854775807,by unfold AQ;split;omega;rw [if_neg zo];omega,fun v v' W h h'=>je v v' z 9223372036854775807 W h h' hs ad8⟩;obtain ⟨o1,ho1,O1⟩:=O1.out;obtain ⟨o2,ho2,O2⟩:=O2.out;replace O1:=zh O1;replace O2:=zh O2;have q1:decide (o1<0)=false:=decide_eq_false zo;have q2:decide (0<o2)=false:=decide_eq_false zo;obtain ⟨hn,hbz⟩:=hx.nm
 obtain ⟨l,El⟩:∃ l,cK 10000 z.natAbs=l:=⟨_,rfl⟩;obtain ⟨pa',ca',e,k1,k2,k3⟩:=hn.read;simp only [Value.slice.injEq] at e;obtain ⟨rfl,rfl,rfl⟩:=e;rw [El] at k3;have hl:l.length=sz 10000 z.natAbs:=by rw [← El];rfl
 have hvl:val 10000 l=z.natAbs:=by rw [← El];exact aT zo _
 have hlL:sz 10000 z.natAbs≤549755813888:=hs;obtain ⟨L,EL⟩:∃ L,sz 10000 z.natAbs=L:=⟨_,rfl⟩;rw [EL] at hl k1 k3 hx hlL;have K3:=zh k3;have HL:=zh hl;have HVL:=zh hvl;have HBZ:=zh hbz;have HZ0:=zh hz0;clear hs hz0 ho1 ho2 k3 hl hvl hbz hn El;rw [EL];clear EL;have FA:=zh hx;go_enter Tryz.func266,Tryz.ntmps266
 go_wp2_with fail
 obtain ⟨u0,EW,hz,HX⟩:=rG w #[.bool bA,.slice jI L jW] 161;rw [EW];replace FA:=zh (FA.out.later hz);have HB:=zh hz;clear EW hz hx;have vO:=zh (Below.refl u0.heap.size u0);refine aC [(.read,0),(.ext,1),(.ext,2),(.pure,3),(.pure,4),(.read,5),(.ext,6),(.ext,7),(.pure,8),(.pure,9)] zk zk zR zP ?_;refine Wk.out ?_;have xZ:=HX.out.cell;have xV:=HX.out.lt;refine zS ?_;clear xZ xV;refine dP rfl rfl (fun we hbe J hJ=>?_);go_simp;have hx:Below u0.heap.size u0 we:=au;have yB:=zh (Bt HB.out hx);refine (jk _ _ zo zo).mono ?_;rintro e u1 ⟨vi,rfl,h,hm⟩;have hy:=Bt hx h;refine hJ _ _ h ?_;clear hJ J hbe hx h yB;replace HX:=zh (HX.out.later hy);replace FA:=zh (FA.out.later hy);replace HB:=zh (Bt HB.out hy);replace vO:=zh (Bt vO.out hy);clear hy;have FI:=zh hm;clear hm;have xZ:=HX.out.cell;have xV:=HX.out.lt;refine zS ?_;clear xZ xV
 refine dP rfl rfl (fun we hbe J hJ=>?_);go_simp;have hx:Below u1.heap.size u1 we:=au;have yB:=zh (Bt HB.out hx);refine (O1.out _ _ _ (FA.out.later hx) (FI.out.later hx)).mono ?_;rintro e u2 ⟨rfl,h⟩;have hy:=Bt hx h;refine hJ _ _ h ?_;clear hJ J hbe hx h yB;replace HX:=zh (HX.out.later hy);replace FA:=zh (FA.out.later hy);replace FI:=zh (FI.out.later hy);replace HB:=zh (Bt HB.out hy);replace vO:=zh (Bt vO.out hy);clear hy;have xZ:=HX.out.cell;have xV:=HX.out.lt;refine zS ?_;clear xZ xV;refine dP rfl rfl (fun we hbe J hJ=>?_);go_simp;have hx:Below u2.heap.size u2 we:=au;have yB:=zh (Bt HB.out hx);refine (jk _ _ zo zo).mono ?_;rintro e u3 ⟨vk,rfl,h,hm⟩;have hy:=Bt hx h;refine hJ _ _ h ?_;clear hJ J hbe hx h yB;replace HX:=zh (HX.out.later hy);replace FA:=zh (FA.out.later hy);replace FI:=zh (FI.out.later hy);replace HB:=zh (Bt HB.out hy)
 replace vO:=zh (Bt vO.out hy);clear hy;have FK:=zh hm;clear hm;have xZ:=HX.out.cell;have xV:=HX.out.lt;refine zS ?_;clear xZ xV;refine dP rfl rfl (fun we hbe J hJ=>?_);go_simp;have hx:Below u3.heap.size u3 we:=au;have yB:=zh (Bt HB.out hx);refine (O2.out _ _ _ (FA.out.later hx) (FK.out.later hx)).mono ?_;rintro e u4 ⟨rfl,h⟩;have hy:=Bt hx h;refine hJ _ _ h ?_;clear hJ J hbe hx h yB;replace HX:=zh (HX.out.later hy);replace FA:=zh (FA.out.later hy);replace FI:=zh (FI.out.later hy);replace FK:=zh (FK.out.later hy);replace HB:=zh (Bt HB.out hy);replace vO:=zh (Bt vO.out hy);clear hy;have xZ:=HX.out.cell;have xV:=HX.out.lt;refine zS ?_;clear xZ xV;refine nJ (fun u5 hbf=>?_);have hy:Below u4.heap.size u4 u5:=au;replace HX:=zh (HX.out.later hy);replace FA:=zh (FA.out.later hy);replace FI:=zh (FI.out.later hy);replace FK:=zh (FK.out.later hy)
 replace HB:=zh (Bt HB.out hy);clear hy hbf vO;obtain ⟨ws,EZ⟩:∃ y,y=u5:=⟨_,rfl⟩;have c0:=HX.out.cell;have l0:=HX.out.lt;rw [← EZ] at HX HB c0 l0 ⊢;clear EZ O1 O2 FA FI FK;go_wp2_with fail
 go_loopw [4,5] (fun nv iv wr=>∃ (q n:Int), -1≤q∧q<L∧iv= .int .i64 q∧nv= .int .i64 n∧Hid (n= -(val 10000 (l.drop (q+1).toNat):Int))∧wr=ws) (fun _ iv _=>(intOf iv+1).toNat)
 case atStart =>
  have e:((L:Int) - 1+1).toNat=l.length:=by have:=HL.out;omega
  exact ⟨(L:Int) - 1,0,by omega,by omega,by go_num,rfl,zh (by rw [e,List.drop_length];rfl),rfl⟩
 case round =>
  obtain ⟨q,n,hq1,hq2,rfl,rfl,HN,rfl⟩:=hrel
  by_cases hq:q<0
  ·obtain rfl:q= -1:=by omega
   have hn:n= -(z.natAbs:Int):=by have:=HN.out;rw [← HVL.out];simpa using this
   clear HN hq hq1 hq2
   rcases (show z<0∨0≤z by omega) with h0|h0
   ·have hb1:bA=true:=HBZ.out.trans (decide_eq_true h0);have hnz:n=z:=by omega
    subst hb1 hnz;go_wp2_with fail
    go_ret2
    exact ⟨rfl,HB.out⟩
   ·have hb1:bA=false:=HBZ.out.trans (decide_eq_false zo);have hnz:n= -z:=by omega
    subst hb1 hnz
    have hw:IntKind.i64.wrap (- -z)=z:=by
     have:=HZ0.out;rw [Int.neg_neg];unfold IntKind.wrap;simp [IntKind.bits,IntKind.signed];omega
    have hw2:wrap64 (z.natAbs:Int)=z:=by have:=HZ0.out;unfold wrap64;omega
    go_wp2_with fail
    go_ret2
    refine ⟨?_,HB.out⟩
    show Ending.returned (.tuple #[.int .i64 (wrap64 _),.int .i64 0])=_
    rw [hw2]
  ·obtain ⟨k,rfl⟩:∃ k:Nat,q=(k:Int):=⟨q.toNat,by omega⟩;obtain ⟨b,off,e,h1,h2⟩:=K3.out k zo;have hcl:=(HB.out.cell (p:=⟨b,off+k,none⟩) h1).trans h2;have hst:=JC (l:=l) (k:=k) (by have:=HL.out;omega);have hle:=vQ 10000 zo l k;have hv:=HVL.out;have hz0:=HZ0.out;have hn:=HN.out;rw [show ((k:Int)+1).toNat=k+1 by omega] at hn;obtain ⟨d,ed⟩:∃ d,l.getD k 0=d:=⟨_,rfl⟩;obtain ⟨m,em⟩:∃ m,val 10000 (l.drop (k+1))=m:=⟨_,rfl⟩;rw [ed,em] at hst;rw [ed] at hcl;rw [em] at hn;subst hn
   have hw1:IntKind.i64.wrap (-(m:Int)*10000)= -(m:Int)*10000:=by
    unfold IntKind.wrap;simp [IntKind.bits,IntKind.signed];omega
   have hw2:IntKind.i64.wrap (-(m:Int)*10000 - (d:Int))= -((d+10000*m:Nat):Int):=by
    unfold IntKind.wrap;simp [IntKind.bits,IntKind.signed];omega
   have HS:=zh hst;subst e;have hbl:=Nat.lt_of_lt_of_le h1 HB.out.size;clear hst hle hv hz0 h1 h2 HN;go_wp2_with fail
   go_roundw
   case rel=>exact ⟨(k:Int) - 1,_,by omega,by omega,by go_num,rfl,zh (by rw [show ((k:Int) - 1+1).toNat=k by omega,HS.out];omega),trivial⟩
   case measure=>simp [intOf]<;>omega
theorem Dv (x:Value) (z:Int) (w:World) (hx:Pl w x z) (hs:sz 10000 z.natAbs≤549755813888) :
  Calls Tryz.prog 266 #[x] w (fun e w'=>e= .returned (.tuple #[.int .i64 (JU z).1,.int .i64 (JU z).2])∧Below w.heap.size w w'):=by
 unfold JU
 by_cases h: -9223372036854775808≤z∧z≤9223372036854775807
 ·rw [if_pos h];exact QD x z w hx hs h
 ·rw [if_neg h]
  by_cases h2:z< -9223372036854775808
  ·exact Nz x z w hx hs h2
  ·exact JR x z w hx hs zo
end Go.Proofs.aD
namespace Go.Proofs.aN
open Go Go.RowKit Go.SW Go.Num Go.Mem Go.Proofs Go.Dec Go.eF Go.Proofs.aL Go.Proofs.aF Go.Proofs.aD
theorem dG (lo hi:Int) (w:World):Calls Tryz.prog 164 #[.agg #[.int .i64 lo,.int .i64 hi]] w (fun e w'=>e= .returned (.bool (dA lo hi))∧Below w.heap.size w w'):=by
 unfold dA;cases h1:decide (-1000000000000000000≤lo)<;>cases h2:decide (lo≤hi)<;>cases h3:decide (hi≤1000000000000000000)
 all_goals
  go_enter Tryz.func164,Tryz.ntmps164
  go_wp2_with fail
  go_ret
  exact ⟨rfl,au⟩
def un (n:Int):Rat:=(n:Rat) / ((1000000000000:Int):Rat)
theorem gF (n:Int) (h1: -9223372036854775808≤n) (h2:n≤9223372036854775807) (w:World):Calls Tryz.prog 216 #[.int .i64 n] w (kE w (un n)):=by
 have H:=zh (fun W=>uq n 1000000000000 h1 h2 zo zo zo W);have e:((n:Rat) / ((1000000000000:Int):Rat))=un n:=rfl;rw [e] at H;generalize un n=q at *;go_enter Tryz.func216,Tryz.ntmps216
 go_wp2_with fail
 obtain ⟨dN,EW,hz,X1⟩:=rG w #[.bool false,.slice none 0 0,.bool false,.slice none 0 0] 163;rw [EW];have hk2:=Bt (Below.refl _ _) hz;clear EW hz;refine (H.out _).mono ?_;rintro e ko ⟨v,rfl,hb3,hv4⟩;obtain ⟨bC,JJ,lC,Kh,bCd,aY3,lCd,be6,rfl,hx4,hy4⟩:=id hv4;replace X1:=X1.bl hb3;have hk5:=Bt hk2 hb3;clear hk2;have QC:=zh hv4;clear hb3 hv4 hx4 hy4;obtain ⟨gJ,gI,gN⟩:=X1.clf;have hres:=X1.out;have nE:=hres.cell;have nD:=hres.free;go_wp2_with fail
 refine bZ rfl rfl aJ Tryz.underlying163 rfl zk ?_;exact ⟨_,rfl,au,Ra.su QC.out hres zd _ _ _ _⟩
def ig (a b:Rat):(Int × Int) × Int:=dI (Ti (a*((1000000000000:Int):Rat))) (-(Ti (-(b*((1000000000000:Int):Rat)))))
theorem aY4:((1000000000000:Int):Rat) / ((1:Int):Rat)=((1000000000000:Int):Rat):=by decide+kernel
theorem Xc:iA 2 ((1000000000000:Int):Rat):=by constructor<;>decide+kernel
theorem am5 {q:Rat} {k:Nat} (h:iA k q) (hk:k≤100000):sz 10000 (Ti q).natAbs≤549755813888:=by
 obtain ⟨s1,s2⟩:=iA.four h;have hd:=q.den_pos
 have h1:(Ti q).natAbs≤q.num.natAbs:=by
  unfold Ti;exact Int.natAbs_ediv_le_natAbs _ _
 exact Nat.le_trans (dB zo h1) zo
theorem Jm {X Y:Int} (h:X< -1000000000000000000∨1000000000000000000<Y∨Y<X):dA X Y=false:=by
 unfold dA
 rcases h with h|h|h
 ·rw [decide_eq_false (show ¬ -1000000000000000000≤X by omega)];rfl
 ·rw [decide_eq_false (show ¬ Y≤1000000000000000000 by omega)];simp
 ·rw [decide_eq_false (show ¬ X≤Y by omega)];simp
theorem sK {X Y:Int} (h:dA X Y=true): -1000000000000000000≤X∧X≤Y∧Y≤1000000000000000000:=by
 unfold dA at h
 simpa using h
theorem Bf (x y:Value) (a b:Rat) (w:World) (hx:Ra w x a) (hy:Ra w y b) (h1:iA 1000 a) (h2:iA 1000 b) :
  Calls Tryz.prog 214 #[x,y] w (fun e w'=>e= .returned (bK (ig a b))∧Below w.heap.size w w'):=by
 obtain ⟨bA,jI,lA,jW,Jz,ru,Jy,rE,rfl, -⟩:=id hx;obtain ⟨bB,oU,lB,pz,bBd,He,lBd,Jk,rfl, -⟩:=id hy;have s1:=kM (h1.mono (show 1000≤1000 by omega)) (Xc.mono (show 2≤1000 by omega));have s2:=kM (h2.mono (show 1000≤1000 by omega)) (Xc.mono (show 2≤1000 by omega));have hQ:=zh (fun W=>(uq 1000000000000 1 zo zo zo zo zo W).mono fun _ _ q=>jo (aY4 ▸ q));have T1:=zh (fun v v' W (h:Ra W v a) (h':Ra W v' ((1000000000000:Int):Rat))=>iw v v' a _ W h h' (h1.mono zo) (Xc.mono zo));have T2:=zh (fun v v' W (h:Ra W v b) (h':Ra W v' ((1000000000000:Int):Rat))=>iw v v' b _ W h h' (h2.mono zo) (Xc.mono zo));have D1:=zh (fun v W (h:Ra W v (a*((1000000000000:Int):Rat)))=>YL v _ W h (s1.mono zo));have D2:=zh (fun v W (h:Ra W v (-(b*((1000000000000:Int):Rat))))=>YL v _ W h ((uI s2).mono zo));have z1:=am5 s1 zo
 have z2:=am5 (uI s2) zo;unfold ig;generalize ((1000000000000:Int):Rat)=E at *;generalize Ti (a*E)=X at *;generalize Ti (-(b*E))=Y at *;have J1:=zh (fun v W (h:Pl W v X)=>Dv v X W h z1);have J2:=zh (fun v W (h:Pl W v Y)=>Dv v Y W h z2);obtain ⟨⟨X',e1⟩,EX⟩:∃ y,JU X=y:=⟨_,rfl⟩;obtain ⟨⟨Y',e2⟩,EY⟩:∃ y,JU Y=y:=⟨_,rfl⟩;rw [EX] at J1;rw [EY] at J2;have HEX:=zh EX;have HEY:=zh EY;have QA:=zh hx;have QB:=zh hy;clear hx hy h1 h2 s1 s2 z1 z2 EX EY;go_enter Tryz.func214,Tryz.ntmps214
 go_wp2_with fail
 obtain ⟨u0,EW,hz,HX,HY,HR⟩:=yx w #[.bool bA,.slice jI lA jW,.bool Jz,.slice ru Jy rE] 163 #[.bool bB,.slice oU lB pz,.bool bBd,.slice He lBd Jk] 163 #[.int .i64 0,.int .i64 0] 40;rw [EW];replace QA:=zh (QA.out.later hz);replace QB:=zh (QB.out.later hz);have HB:=zh hz;clear EW hz;refine (hQ.out _).mono ?_;rintro e u1 ⟨bO,paO,lO,caO,bOd,ah3,lOd,ap1,rfl,h,hm⟩;replace HX:=zh (HX.out.later h);replace HY:=zh (HY.out.later h);replace HR:=zh (HR.out.later h);replace QA:=zh (QA.out.later h);replace QB:=zh (QB.out.later h);replace HB:=zh (Bt HB.out h);clear h;have QO:=zh hm;clear hm;have xZ:=HX.out.cell;have xV:=HX.out.lt;go_wp2_with fail
 clear xZ xV;obtain ⟨v1,EW,hz,HO⟩:=rG u1 #[.bool bO,.slice paO lO caO,.bool bOd,.slice ah3 lOd ap1] 163;rw [EW];obtain ⟨bq,ebq⟩:∃ y,u1.heap.size=y:=⟨_,rfl⟩;rw [ebq] at HO ⊢;clear EW ebq;replace HX:=zh (HX.out.later hz);replace HY:=zh (HY.out.later hz);replace HR:=zh (HR.out.later hz);replace QA:=zh (QA.out.later hz);replace QB:=zh (QB.out.later hz);replace QO:=zh (QO.out.later hz);replace HB:=zh (Bt HB.out hz);clear hz;refine (T1.out _ _ _ QA.out QO.out).mono ?_;rintro e u2 ⟨vt,rfl,h,hm⟩;replace HX:=zh (HX.out.later h);replace HY:=zh (HY.out.later h);replace HR:=zh (HR.out.later h);replace QA:=zh (QA.out.later h);replace QB:=zh (QB.out.later h);replace QO:=zh (QO.out.later h);replace HO:=zh (HO.out.later h);replace HB:=zh (Bt HB.out h);clear h;have FT:=zh hm;clear hm;go_wp2_with fail
 refine (D1.out _ _ FT.out).mono ?_;rintro e u3 ⟨vd,rfl,h,hm⟩;replace HX:=zh (HX.out.later h);replace HY:=zh (HY.out.later h);replace HR:=zh (HR.out.later h);replace QA:=zh (QA.out.later h);replace QB:=zh (QB.out.later h);replace QO:=zh (QO.out.later h);replace HO:=zh (HO.out.later h);replace FT:=zh (FT.out.later h);replace HB:=zh (Bt HB.out h);clear h;have FD:=zh hm;clear hm;go_wp2_with fail
 refine (J1.out _ _ FD.out).mono ?_;rintro e u4 ⟨rfl,h⟩;replace HX:=zh (HX.out.later h);replace HY:=zh (HY.out.later h);replace HR:=zh (HR.out.later h);replace QA:=zh (QA.out.later h);replace QB:=zh (QB.out.later h);replace QO:=zh (QO.out.later h);replace HO:=zh (HO.out.later h);replace FT:=zh (FT.out.later h);replace FD:=zh (FD.out.later h);replace HB:=zh (Bt HB.out h);clear h;have cHY:=HY.out.cell;have lHY:=HY.out.lt;have cHO:=HO.out.cell;have lHO:=HO.out.lt;go_wp2_with fail
 clear cHY lHY;clear cHO lHO;clear FT FD;refine (T2.out _ _ _ QB.out QO.out).mono ?_;rintro e u5 ⟨vt2,rfl,h,hm⟩;replace HX:=zh (HX.out.later h);replace HY:=zh (HY.out.later h);replace HR:=zh (HR.out.later h);replace QA:=zh (QA.out.later h);replace QB:=zh (QB.out.later h);replace QO:=zh (QO.out.later h);replace HO:=zh (HO.out.later h);replace HB:=zh (Bt HB.out h);clear h;have FT:=zh hm;clear hm;go_wp2_with fail
 refine (aF.vD _ _ _ FT.out).mono ?_;rintro e u6 ⟨vu,rfl,h,hm⟩;replace HX:=zh (HX.out.later h);replace HY:=zh (HY.out.later h);replace HR:=zh (HR.out.later h);replace QA:=zh (QA.out.later h);replace QB:=zh (QB.out.later h);replace QO:=zh (QO.out.later h);replace HO:=zh (HO.out.later h);replace FT:=zh (FT.out.later h);replace HB:=zh (Bt HB.out h);clear h;have FU:=zh hm;clear hm;go_wp2_with fail
 refine (D2.out _ _ FU.out).mono ?_;rintro e u7 ⟨vd2,rfl,h,hm⟩;replace HX:=zh (HX.out.later h);replace HY:=zh (HY.out.later h);replace HR:=zh (HR.out.later h);replace QA:=zh (QA.out.later h);replace QB:=zh (QB.out.later h);replace QO:=zh (QO.out.later h);replace HO:=zh (HO.out.later h);replace FT:=zh (FT.out.later h);replace FU:=zh (FU.out.later h);replace HB:=zh (Bt HB.out h);clear h;have FD:=zh hm;clear hm;go_wp2_with fail
 refine (J2.out _ _ FD.out).mono ?_;rintro e u8 ⟨rfl,h⟩;replace HX:=zh (HX.out.later h);replace HY:=zh (HY.out.later h);replace HR:=zh (HR.out.later h);replace QA:=zh (QA.out.later h);replace QB:=zh (QB.out.later h);replace QO:=zh (QO.out.later h);replace HO:=zh (HO.out.later h);replace FT:=zh (FT.out.later h);replace FU:=zh (FU.out.later h);replace FD:=zh (FD.out.later h);replace HB:=zh (Bt HB.out h);clear h;have hr:=HR.out;have cr:=hr.cell;have fr:=hr.free;have hb:=HB.out;have EX:=HEX.out;have EY:=HEY.out;unfold JU at EX EY;clear HX HY HO QA QB QO FT FU FD HB HR T1 T2 D1 D2 J1 J2 hQ HEX HEY;have bad:dA X (-Y)=false→dI X (-Y)=((0,0),6):=fun h=>by unfold dI;rw [h];rfl
 have an2:∀ {r:(Int × Int) × Int},dI X (-Y)=r→dI X (-Y)=r:=fun h=>h
 by_cases gx: -9223372036854775808≤X∧X≤9223372036854775807
 ·rw [if_pos gx] at EX;simp only [Prod.mk.injEq] at EX;obtain ⟨rfl,rfl⟩:=EX
  by_cases gy: -9223372036854775808≤Y∧Y≤9223372036854775807
  ·rw [if_pos gy] at EY;simp only [Prod.mk.injEq] at EY;obtain ⟨rfl,rfl⟩:=EY
   by_cases g0:Y= -9223372036854775808
   ·subst g0;have hm:=bad (Jm zo);clear bad an2 gx gy;go_wp2_with fail
    refine aM rfl rfl ((hr.set 0 _).set 1 _) Tryz.underlying40 rfl zk ?_;exact ⟨by rw [hm];rfl,(hb.setCell (p:=⟨w.heap.size+1+1,0,none⟩) (by show w.heap.size≤w.heap.size+1+1;omega) _).setCell (p:=⟨w.heap.size+1+1,1,none⟩) (by show w.heap.size≤w.heap.size+1+1;omega) _⟩
   ·have hy0:(Y == -9223372036854775808)=false:=by simpa using g0
    have hw:wrap64 (-Y)= -Y:=by unfold wrap64;omega
    have RT:=zh (fun W=>dG X (-Y) W);cases hbk:dA X (-Y)
    ·have hm:=bad hbk;rw [hbk] at RT;clear bad an2 gx gy hbk;go_wp2_with fail
     refine (RT.out _).mono ?_;rintro e u9 ⟨rfl,h⟩;replace hr:=hr.later h;replace hb:=Bt hb h;clear cr fr h;have cr:=hr.cell;have fr:=hr.free;go_wp2_with fail
     refine aM rfl rfl ((hr.set 0 _).set 1 _) Tryz.underlying40 rfl zk ?_;exact ⟨by rw [hm];rfl,(hb.setCell (p:=⟨w.heap.size+1+1,0,none⟩) (by show w.heap.size≤w.heap.size+1+1;omega) _).setCell (p:=⟨w.heap.size+1+1,1,none⟩) (by show w.heap.size≤w.heap.size+1+1;omega) _⟩
    ·have hm:dI X (-Y)=((X, -Y),0):=by unfold dI;rw [hbk];rfl
     rw [hbk] at RT;clear bad an2 gx gy hbk;go_wp2_with fail
     refine (RT.out _).mono ?_;rintro e u9 ⟨rfl,h⟩;replace hr:=hr.later h;replace hb:=Bt hb h;clear cr fr h;have cr:=hr.cell;have fr:=hr.free;go_wp2_with fail
     refine aM rfl rfl ((hr.set 0 _).set 1 _) Tryz.underlying40 rfl zk ?_;exact ⟨by rw [hm];rfl,(hb.setCell (p:=⟨w.heap.size+1+1,0,none⟩) (by show w.heap.size≤w.heap.size+1+1;omega) _).setCell (p:=⟨w.heap.size+1+1,1,none⟩) (by show w.heap.size≤w.heap.size+1+1;omega) _⟩
  ·rw [if_neg gy] at EY;simp only [Prod.mk.injEq] at EY;obtain ⟨rfl,rfl⟩:=EY;have hm:=bad (Jm zo);clear bad an2 gx gy;go_wp2_with fail
   refine aM rfl rfl ((hr.set 0 _).set 1 _) Tryz.underlying40 rfl zk ?_;exact ⟨by rw [hm];rfl,(hb.setCell (p:=⟨w.heap.size+1+1,0,none⟩) (by show w.heap.size≤w.heap.size+1+1;omega) _).setCell (p:=⟨w.heap.size+1+1,1,none⟩) (by show w.heap.size≤w.heap.size+1+1;omega) _⟩
 ·rw [if_neg gx] at EX;simp only [Prod.mk.injEq] at EX;obtain ⟨rfl,rfl⟩:=EX;have hm:=bad (Jm zo);clear bad an2 gx;go_wp2_with fail
  refine aM rfl rfl ((hr.set 0 _).set 1 _) Tryz.underlying40 rfl zk ?_;exact ⟨by rw [hm];rfl,(hb.setCell (p:=⟨w.heap.size+1+1,0,none⟩) (by show w.heap.size≤w.heap.size+1+1;omega) _).setCell (p:=⟨w.heap.size+1+1,1,none⟩) (by show w.heap.size≤w.heap.size+1+1;omega) _⟩
end Go.Proofs.aN
namespace Go.Proofs.aN
open Go Go.Num Go.eF Go.Proofs.aL Go.Proofs.aF
theorem mX (q:Rat):Ti q=q.floor:=(Rat.floor_def q).symm
theorem qE (a b:Rat): -(a / b)= -a / b:=by rw [Rat.div_def,Rat.div_def,Rat.neg_mul]
theorem qb (n:Int) {d:Int} (hd:0<d):((n:Rat) / (d:Rat)).floor=n / d:=by
 have hd':(0:Rat)<(d:Rat):=by exact_mod_cast hd
 have key:∀ x:Int,x≤((n:Rat) / (d:Rat)).floor↔x≤n / d:=fun x=>by
  rw [Rat.le_floor_iff,Int.le_ediv_iff_mul_le hd];have e:(n:Rat) / (d:Rat)*(d:Rat)=(n:Rat):=Rat.div_mul_cancel (fun h=>by rw [h] at hd';exact absurd hd' zd)
  constructor
  ·intro h;have:=Rat.mul_le_mul_of_nonneg_right h (Rat.le_of_lt hd');rw [e] at this
   exact_mod_cast this
  ·intro h;refine Rat.le_of_mul_le_mul_right (c:=(d:Rat)) ?_ hd';rw [e]
   exact_mod_cast h
 exact Int.le_antisymm ((key _).1 (Int.le_refl _)) ((key _).2 (Int.le_refl _))
theorem Bp:(0:Rat)<((1000000000000:Int):Rat):=by decide+kernel
theorem WL:((1000000000000:Int):Rat)≠0:=by decide+kernel
theorem xS (n:Int):un n*((1000000000000:Int):Rat)=(n:Rat):=by
 have:=WL;unfold un;generalize ((1000000000000:Int):Rat)=E at *
 grind
theorem MJ (x y:Int):un x*un y*((1000000000000:Int):Rat)=((x*y:Int):Rat) / ((1000000000000:Int):Rat):=by
 have:=WL;unfold un;rw [Rat.intCast_mul];generalize ((1000000000000:Int):Rat)=E at *
 grind
theorem KF (a b c d:Int):ig (un a+un b) (un c+un d)=dI (a+b) (c+d):=by
 unfold ig;rw [mX,mX,Rat.add_mul,Rat.add_mul,xS,xS,xS,xS,← Rat.intCast_add,← Rat.intCast_add,← Rat.intCast_neg,Rat.floor_intCast,Rat.floor_intCast]
 congr 1
 omega
theorem uG (q:Rat):ig q q=dI (qZ (q.num*1000000000000) q.den false) (qZ (q.num*1000000000000) q.den true):=by
 have hd:(0:Int)<(q.den:Int):=by have:=q.den_pos;omega
 have hd0:((q.den:Int):Rat)≠0:=by
  have:(q.den:Int)≠0:=by omega
  exact_mod_cast this
 have e:q*((1000000000000:Int):Rat)=((q.num*1000000000000:Int):Rat) / ((q.den:Int):Rat):=by
  rw [Rat.intCast_mul];have h:=uO q;generalize ((1000000000000:Int):Rat)=E at *;generalize (q.num:Rat)=n at *;generalize ((q.den:Int):Rat)=d at *;rw [h]
  grind
 have e2: -(q*((1000000000000:Int):Rat))=((-(q.num*1000000000000):Int):Rat) / ((q.den:Int):Rat):=by
  rw [e,Rat.intCast_neg,qE]
 unfold ig;rw [mX,mX,e2,e,qb _ hd,qb _ hd];rfl
def gH (m:Rat):List Rat→Rat
 | []=>m
 | x::l=>gH (if x<m then x else m) l
def dD (m:Rat):List Rat→Rat
 | []=>m
 | x::l=>dD (if m<x then x else m) l
theorem aK0 (p q r s:Rat):(gH p [q,r,s]=p∨gH p [q,r,s]=q∨gH p [q,r,s]=r∨gH p [q,r,s]=s)∧gH p [q,r,s]≤p∧gH p [q,r,s]≤q∧gH p [q,r,s]≤r∧gH p [q,r,s]≤s:=by
 unfold gH gH gH gH
 grind
theorem ak9 (p q r s:Rat):(dD p [q,r,s]=p∨dD p [q,r,s]=q∨dD p [q,r,s]=r∨dD p [q,r,s]=s)∧p≤dD p [q,r,s]∧q≤dD p [q,r,s]∧r≤dD p [q,r,s]∧s≤dD p [q,r,s]:=by
 unfold dD dD dD dD
 grind
theorem sU {a b:Rat} (h:a≤b):(a*((1000000000000:Int):Rat)).floor≤(b*((1000000000000:Int):Rat)).floor:=Rat.floor_monotone (Rat.mul_le_mul_of_nonneg_right h (Rat.le_of_lt Bp))
theorem vF {a b:Rat} (h:a≤b): -((-(a*((1000000000000:Int):Rat))).floor)≤ -((-(b*((1000000000000:Int):Rat))).floor):=by
 have h2:=Rat.floor_monotone (Rat.neg_le_neg (Rat.mul_le_mul_of_nonneg_right h (Rat.le_of_lt Bp)));omega
theorem Ng (n:Int) {d:Nat} (hd:0<d):qZ n d false≤qZ n d true:=by
 unfold qZ;simp only [Bool.false_eq_true,if_false,if_true];have h1:=Int.mul_ediv_self_le (x:=n) (k:=(d:Int)) zo;have h2:=Int.mul_ediv_self_le (x:= -n) (k:=(d:Int)) zo;have h3:(d:Int)*(n / d)≤(d:Int)*(-(-n / d)):=by rw [Int.mul_neg];omega
 exact Int.le_of_mul_le_mul_left h3 zo
theorem Lb (x y:Int):(un x*un y*((1000000000000:Int):Rat)).floor=qZ (x*y) 1000000000000 false:=by rw [MJ,qb _ zo];rfl
theorem Xk (x y:Int): -((-(un x*un y*((1000000000000:Int):Rat))).floor)=qZ (x*y) 1000000000000 true:=by
 rw [MJ,qE,← Rat.intCast_neg,qb _ zo];rfl
theorem rP (x y:Int) (up:Bool):((jY x y 1000000000000 up).2=true→(jY x y 1000000000000 up).1=qZ (x*y) 1000000000000 up∧(qZ (x*y) 1000000000000 up).natAbs≤1000000000000000000)∧((jY x y 1000000000000 up).2=false→1000000000000000000<(qZ (x*y) 1000000000000 up).natAbs):=by
 by_cases h:(qZ (x*y) 1000000000000 up).natAbs≤1000000000000000000
 ·rw [show jY x y 1000000000000 up=(qZ (x*y) 1000000000000 up,true) from if_pos h];exact ⟨fun _=>⟨rfl,h⟩,fun h=>by cases h⟩
 ·rw [show jY x y 1000000000000 up=(0,false) from if_neg h];exact ⟨fun h=>(by cases h),fun _=>by omega⟩
theorem Kz (a b:Int × Int):ig (gH (un a.1*un b.1) [un a.1*un b.2,un a.2*un b.1,un a.2*un b.2]) (dD (un a.1*un b.1) [un a.1*un b.2,un a.2*un b.1,un a.2*un b.2])=Na a b:=by
 obtain ⟨h1,h2,h3,h4,h5⟩:=aK0 (un a.1*un b.1) (un a.1*un b.2) (un a.2*un b.1) (un a.2*un b.2);obtain ⟨g1,g2,g3,g4,g5⟩:=ak9 (un a.1*un b.1) (un a.1*un b.2) (un a.2*un b.1) (un a.2*un b.2);generalize gH (un a.1*un b.1) [un a.1*un b.2,un a.2*un b.1,un a.2*un b.2]=lo at *;generalize dD (un a.1*un b.1) [un a.1*un b.2,un a.2*un b.1,un a.2*un b.2]=hi at *;replace h2:=sU h2;replace h3:=sU h3;replace h4:=sU h4;replace h5:=sU h5;replace g2:=vF g2;replace g3:=vF g3;replace g4:=vF g4;replace g5:=vF g5
 have h6:(lo*((1000000000000:Int):Rat)).floor=qZ (a.1*b.1) 1000000000000 false∨(lo*((1000000000000:Int):Rat)).floor=qZ (a.1*b.2) 1000000000000 false∨(lo*((1000000000000:Int):Rat)).floor=qZ (a.2*b.1) 1000000000000 false∨(lo*((1000000000000:Int):Rat)).floor=qZ (a.2*b.2) 1000000000000 false:=by
  rcases h1 with rfl|rfl|rfl|rfl<;>simp only [Lb,true_or,or_true]
 have g6: -((-(hi*((1000000000000:Int):Rat))).floor)=qZ (a.1*b.1) 1000000000000 true∨ -((-(hi*((1000000000000:Int):Rat))).floor)=qZ (a.1*b.2) 1000000000000 true∨ -((-(hi*((1000000000000:Int):Rat))).floor)=qZ (a.2*b.1) 1000000000000 true∨ -((-(hi*((1000000000000:Int):Rat))).floor)=qZ (a.2*b.2) 1000000000000 true:=by
  rcases g1 with rfl|rfl|rfl|rfl<;>simp only [Xk,true_or,or_true]
 rw [Lb] at h2 h3 h4 h5;rw [Xk] at g2 g3 g4 g5;unfold ig;rw [mX,mX];generalize (lo*((1000000000000:Int):Rat)).floor=L at *;generalize -((-(hi*((1000000000000:Int):Rat))).floor)=H at *;have r1:=Ng (a.1*b.1) (d:=1000000000000) zo;have r2:=Ng (a.1*b.2) (d:=1000000000000) zo;have r3:=Ng (a.2*b.1) (d:=1000000000000) zo;have r4:=Ng (a.2*b.2) (d:=1000000000000) zo;have e0:XG a b 0=jY a.1 b.1 1000000000000 false:=rfl;have e1:XG a b 1=jY a.1 b.2 1000000000000 false:=rfl;have e2:XG a b 2=jY a.2 b.1 1000000000000 false:=rfl;have e3:XG a b 3=jY a.2 b.2 1000000000000 false:=rfl;have d0:Ca a b 0=jY a.1 b.1 1000000000000 true:=rfl;have d1:Ca a b 1=jY a.1 b.2 1000000000000 true:=rfl;have d2:Ca a b 2=jY a.2 b.1 1000000000000 true:=rfl;have d3:Ca a b 3=jY a.2 b.2 1000000000000 true:=rfl;have q0:=rP a.1 b.1 false
 have q1:=rP a.1 b.2 false;have q2:=rP a.2 b.1 false;have q3:=rP a.2 b.2 false;have p0:=rP a.1 b.1 true;have p1:=rP a.1 b.2 true;have p2:=rP a.2 b.1 true;have p3:=rP a.2 b.2 true
 have fe:aO4 a b=((XG a b 0).2&&(Ca a b 0).2&&((XG a b 1).2&&(Ca a b 1).2)&&((XG a b 2).2&&(Ca a b 2).2)&&((XG a b 3).2&&(Ca a b 3).2)):=by
  unfold aO4;simp [List.range,List.range.loop,Bool.and_assoc]
 unfold Na;rw [fe,e0,e1,e2,e3,d0,d1,d2,d3];generalize qZ (a.1*b.1) 1000000000000 false=l0 at *;generalize qZ (a.1*b.2) 1000000000000 false=l1 at *;generalize qZ (a.2*b.1) 1000000000000 false=l2 at *;generalize qZ (a.2*b.2) 1000000000000 false=l3 at *;generalize qZ (a.1*b.1) 1000000000000 true=u0 at *;generalize qZ (a.1*b.2) 1000000000000 true=u1 at *;generalize qZ (a.2*b.1) 1000000000000 true=u2 at *;generalize qZ (a.2*b.2) 1000000000000 true=u3 at *;clear e0 e1 e2 e3 d0 d1 d2 d3 fe h1 g1;generalize jY a.1 b.1 1000000000000 false=A0 at *;generalize jY a.1 b.2 1000000000000 false=A1 at *;generalize jY a.2 b.1 1000000000000 false=A2 at *;generalize jY a.2 b.2 1000000000000 false=A3 at *;generalize jY a.1 b.1 1000000000000 true=B0 at *;generalize jY a.1 b.2 1000000000000 true=B1 at *;generalize jY a.2 b.1 1000000000000 true=B2 at *
 generalize jY a.2 b.2 1000000000000 true=B3 at *;obtain ⟨x0,y0⟩:=A0;obtain ⟨x1,y1⟩:=A1;obtain ⟨x2,y2⟩:=A2;obtain ⟨x3,y3⟩:=A3;obtain ⟨s0,t0⟩:=B0;obtain ⟨s1,t1⟩:=B1;obtain ⟨s2,t2⟩:=B2;obtain ⟨s3,t3⟩:=B3;simp only at q0 q1 q2 q3 p0 p1 p2 p3 ⊢
 by_cases hf:(y0&&t0&&(y1&&t1)&&(y2&&t2)&&(y3&&t3))=true
 ·rw [if_pos hf];simp only [Bool.and_eq_true] at hf;obtain ⟨⟨⟨⟨f1,f2⟩,f3,f4⟩,f5,f6⟩,f7,f8⟩:=hf;obtain ⟨rfl, -⟩:=q0.1 f1;obtain ⟨rfl, -⟩:=q1.1 f3;obtain ⟨rfl, -⟩:=q2.1 f5;obtain ⟨rfl, -⟩:=q3.1 f7;obtain ⟨rfl, -⟩:=p0.1 f2;obtain ⟨rfl, -⟩:=p1.1 f4;obtain ⟨rfl, -⟩:=p2.1 f6;obtain ⟨rfl, -⟩:=p3.1 f8
  have m1:L=[x0,x1,x2,x3].foldl min x0:=by
   simp only [List.foldl];omega
  have m2:H=[s0,s1,s2,s3].foldl max s0:=by
   simp only [List.foldl];omega
  rw [m1,m2]
 ·rw [if_neg hf]
  have hb:dA L H=false:=by
   refine Jm ?_
   have:y0=false∨t0=false∨y1=false∨t1=false∨y2=false∨t2=false∨y3=false∨t3=false:=by
    revert hf
    cases y0<;>cases t0<;>cases y1<;>cases t1<;>cases y2<;>cases t2<;>cases y3<;>cases t3<;>simp
   rcases this with h|h|h|h|h|h|h|h
   ·have:=q0.2 h;omega
   ·have:=p0.2 h;omega
   ·have:=q1.2 h;omega
   ·have:=p1.2 h;omega
   ·have:=q2.2 h;omega
   ·have:=p2.2 h;omega
   ·have:=q3.2 h;omega
   ·have:=p3.2 h;omega
  unfold dI;rw [hb];rfl
end Go.Proofs.aN
namespace Go.Proofs.aN
open Go Go.RowKit Go.SW Go.Num Go.Mem Go.Proofs Go.eF Go.Proofs.aL Go.Proofs.aF
def xX (q:Rat):Int:=(q*((1000000000000:Int):Rat)).floor
def zH (q:Rat):Int:= -((-(q*((1000000000000:Int):Rat))).floor)
theorem am6 (x:Rat):x.floor≤ -((-x).floor):=by
 have h1:=Rat.floor_le x;have h2:=Rat.floor_le (-x)
 have h3:((x.floor:Int):Rat)≤((-((-x).floor):Int):Rat):=by
  rw [Rat.intCast_neg]
  grind
 exact Rat.intCast_le_intCast.1 h3
theorem Yh (q:Rat):xX q≤zH q:=am6 _
def Ol (z:Int):Int × Bool:=if z.natAbs≤1000000000000000000 then (z,true) else (0,false)
theorem ou {A:Int × Bool} {l:Int} (h:A=Ol l):(A.2=true→A.1=l∧l.natAbs≤1000000000000000000)∧(A.2=false→1000000000000000000<l.natAbs):=by
 subst h;unfold Ol
 by_cases h:l.natAbs≤1000000000000000000
 ·rw [if_pos h];exact ⟨fun _=>⟨rfl,h⟩,fun h=>by cases h⟩
 ·rw [if_neg h];exact ⟨fun h=>(by cases h),fun _=>by omega⟩
def Sy (Q:Int→Int→Bool→Int × Bool) (V:Int→Int→Rat) (x y:Int):Prop:=Q x y false=Ol (xX (V x y))∧Q x y true=Ol (zH (V x y))
theorem KE (Q:Int→Int→Bool→Int × Bool) (V:Int→Int→Rat) (a b:Int × Int) (k0:Sy Q V a.1 b.1) (k1:Sy Q V a.1 b.2) (k2:Sy Q V a.2 b.1) (k3:Sy Q V a.2 b.2) :
  ig (gH (V a.1 b.1) [V a.1 b.2,V a.2 b.1,V a.2 b.2]) (dD (V a.1 b.1) [V a.1 b.2,V a.2 b.1,V a.2 b.2])=qy Q a b:=by
 have r1:=Yh (V a.1 b.1);have r2:=Yh (V a.1 b.2);have r3:=Yh (V a.2 b.1);have r4:=Yh (V a.2 b.2);have q0:=ou k0.1;have q1:=ou k1.1;have q2:=ou k2.1;have q3:=ou k3.1;have p0:=ou k0.2;have p1:=ou k1.2;have p2:=ou k2.2;have p3:=ou k3.2
 have fe:an1 Q a b=((Q a.1 b.1 false).2&&(Q a.1 b.1 true).2&&((Q a.1 b.2 false).2&&(Q a.1 b.2 true).2)&&((Q a.2 b.1 false).2&&(Q a.2 b.1 true).2)&&((Q a.2 b.2 false).2&&(Q a.2 b.2 true).2)):=by
  unfold an1;simp [List.range,List.range.loop,Bool.and_assoc,xC,xG,Xn,SN]
 have e0:xC Q a b 0=Q a.1 b.1 false:=rfl;have e1:xC Q a b 1=Q a.1 b.2 false:=rfl;have e2:xC Q a b 2=Q a.2 b.1 false:=rfl;have e3:xC Q a b 3=Q a.2 b.2 false:=rfl;have d0:xG Q a b 0=Q a.1 b.1 true:=rfl;have d1:xG Q a b 1=Q a.1 b.2 true:=rfl;have d2:xG Q a b 2=Q a.2 b.1 true:=rfl;have d3:xG Q a b 3=Q a.2 b.2 true:=rfl;unfold qy;rw [fe,e0,e1,e2,e3,d0,d1,d2,d3];clear fe e0 e1 e2 e3 d0 d1 d2 d3 k0 k1 k2 k3;generalize Q a.1 b.1 false=A0 at *;generalize Q a.1 b.2 false=A1 at *;generalize Q a.2 b.1 false=A2 at *;generalize Q a.2 b.2 false=A3 at *;generalize Q a.1 b.1 true=B0 at *;generalize Q a.1 b.2 true=B1 at *;generalize Q a.2 b.1 true=B2 at *;generalize Q a.2 b.2 true=B3 at *;generalize V a.1 b.1=v0 at *;generalize V a.1 b.2=v1 at *;generalize V a.2 b.1=v2 at *;generalize V a.2 b.2=v3 at *;obtain ⟨h1,h2,h3,h4,h5⟩:=aK0 v0 v1 v2 v3;obtain ⟨g1,g2,g3,g4,g5⟩:=ak9 v0 v1 v2 v3
 generalize gH v0 [v1,v2,v3]=lo at *;generalize dD v0 [v1,v2,v3]=hi at *;replace h2:xX lo≤xX v0:=sU h2;replace h3:xX lo≤xX v1:=sU h3;replace h4:xX lo≤xX v2:=sU h4;replace h5:xX lo≤xX v3:=sU h5;replace g2:zH v0≤zH hi:=vF g2;replace g3:zH v1≤zH hi:=vF g3;replace g4:zH v2≤zH hi:=vF g4;replace g5:zH v3≤zH hi:=vF g5
 have h6:xX lo=xX v0∨xX lo=xX v1∨xX lo=xX v2∨xX lo=xX v3:=by
  rcases h1 with rfl|rfl|rfl|rfl
  ·exact .inl rfl
  ·exact .inr (.inl rfl)
  ·exact .inr (.inr (.inl rfl))
  ·exact .inr (.inr (.inr rfl))
 have g6:zH hi=zH v0∨zH hi=zH v1∨zH hi=zH v2∨zH hi=zH v3:=by
  rcases g1 with rfl|rfl|rfl|rfl
  ·exact .inl rfl
  ·exact .inr (.inl rfl)
  ·exact .inr (.inr (.inl rfl))
  ·exact .inr (.inr (.inr rfl))
 unfold ig;rw [mX,mX]
 show dI (xX lo) (zH hi)=_
 clear h1 g1;generalize xX lo=L at *;generalize zH hi=H at *;generalize xX v0=l0 at *;generalize xX v1=l1 at *;generalize xX v2=l2 at *;generalize xX v3=l3 at *;generalize zH v0=u0 at *;generalize zH v1=u1 at *;generalize zH v2=u2 at *;generalize zH v3=u3 at *;obtain ⟨x0,y0⟩:=A0;obtain ⟨x1,y1⟩:=A1;obtain ⟨x2,y2⟩:=A2;obtain ⟨x3,y3⟩:=A3;obtain ⟨s0,t0⟩:=B0;obtain ⟨s1,t1⟩:=B1;obtain ⟨s2,t2⟩:=B2;obtain ⟨s3,t3⟩:=B3;simp only at q0 q1 q2 q3 p0 p1 p2 p3 ⊢
 by_cases hf:(y0&&t0&&(y1&&t1)&&(y2&&t2)&&(y3&&t3))=true
 ·rw [if_pos hf];simp only [Bool.and_eq_true] at hf;obtain ⟨⟨⟨⟨f1,f2⟩,f3,f4⟩,f5,f6⟩,f7,f8⟩:=hf;obtain ⟨rfl, -⟩:=q0.1 f1;obtain ⟨rfl, -⟩:=q1.1 f3;obtain ⟨rfl, -⟩:=q2.1 f5;obtain ⟨rfl, -⟩:=q3.1 f7;obtain ⟨rfl, -⟩:=p0.1 f2;obtain ⟨rfl, -⟩:=p1.1 f4;obtain ⟨rfl, -⟩:=p2.1 f6;obtain ⟨rfl, -⟩:=p3.1 f8
  have m1:L=[x0,x1,x2,x3].foldl min x0:=by
   simp only [List.foldl];omega
  have m2:H=[s0,s1,s2,s3].foldl max s0:=by
   simp only [List.foldl];omega
  rw [m1,m2]
 ·rw [if_neg hf]
  have hb:dA L H=false:=by
   refine Jm ?_
   have:y0=false∨t0=false∨y1=false∨t1=false∨y2=false∨t2=false∨y3=false∨t3=false:=by
    revert hf
    cases y0<;>cases t0<;>cases y1<;>cases t1<;>cases y2<;>cases t2<;>cases y3<;>cases t3<;>simp
   rcases this with h|h|h|h|h|h|h|h
   ·have:=q0.2 h;omega
   ·have:=p0.2 h;omega
   ·have:=q1.2 h;omega
   ·have:=p1.2 h;omega
   ·have:=q2.2 h;omega
   ·have:=p2.2 h;omega
   ·have:=q3.2 h;omega
   ·have:=p3.2 h;omega
  unfold dI;rw [hb];rfl
theorem YV (a b c d:Int):ig (un a - un d) (un b - un c)=dI (a - d) (b - c):=by
 have h:=KF a (-d) b (-c)
 have e:∀ n:Int,un (-n)= -un n:=fun n=>by
  unfold un;rw [Rat.intCast_neg,qE]
 rw [e,e,← Rat.sub_eq_add_neg,← Rat.sub_eq_add_neg,← Int.sub_eq_add_neg,← Int.sub_eq_add_neg] at h;exact h
theorem PZ (x y:Int) (d:Nat) (up:Bool):jY x y d up=Ol (qZ (x*y) d up):=rfl
theorem aF8 {q:Rat} {n:Int} {d:Nat} (hd:0<d) (h:q*((1000000000000:Int):Rat)=(n:Rat) / ((d:Int):Rat)):xX q=qZ n d false∧zH q=qZ n d true:=by
 unfold xX zH;rw [h]
 constructor
 ·rw [qb _ zo];rfl
 ·rw [qE,← Rat.intCast_neg,qb _ zo];rfl
theorem Fg (x y:Int) (hy:y≠0):Sy (fun x y up=>kI x 1000000000000 y up) (fun x y=>un x / un y) x y:=by
 have hE:=WL;have e1:=xS x;have e2:=xS y;have hy':(y:Rat)≠0:=fun h=>hy (by exact_mod_cast h);have hu:un y≠0:=fun h=>hy' (by rw [← e2,h];exact Rat.zero_mul _)
 have key:un x / un y*((1000000000000:Int):Rat)=(((if y<0 then -x else x)*1000000000000:Int):Rat) / ((y.natAbs:Int):Rat):=by
  have h1:un x / un y=(x:Rat) / (y:Rat):=by
   rw [← e1,← e2]
   grind
  rw [h1,Rat.intCast_mul]
  by_cases h:y<0
  ·rw [if_pos h];have:((y.natAbs:Int):Rat)= -(y:Rat):=by rw [← Rat.intCast_neg];congr 1;omega
   rw [this,Rat.intCast_neg]
   grind
  ·rw [if_neg h];have:((y.natAbs:Int):Rat)=(y:Rat):=by congr 1;omega
   rw [this]
   grind
 have h:=aF8 zo key;unfold Sy kI;simp only [PZ];exact ⟨congrArg Ol h.1.symm,congrArg Ol h.2.symm⟩
theorem Fe (d:Int) (hd:0<d) (x n:Int):Sy (fun x y up=>kI x y d up) (fun x y=>un x*((y:Rat) / (d:Rat))) x n:=by
 have e1:=xS x
 have hd':(d:Rat)≠0:=fun h=>by
  have:d=0:=by exact_mod_cast h
  omega
 have key:un x*((n:Rat) / (d:Rat))*((1000000000000:Int):Rat)=((x*n:Int):Rat) / ((d.natAbs:Int):Rat):=by
  have:((d.natAbs:Int):Rat)=(d:Rat):=by congr 1;omega
  rw [this,Rat.intCast_mul,← e1]
  grind
 have h:=aF8 zo key;unfold Sy kI;simp only [PZ,if_neg (show ¬ d<0 by omega)];exact ⟨congrArg Ol h.1.symm,congrArg Ol h.2.symm⟩
theorem YW (a b:Int × Int) (h1:b.1≠0) (h2:b.2≠0):ig (gH (un a.1 / un b.1) [un a.1 / un b.2,un a.2 / un b.1,un a.2 / un b.2]) (dD (un a.1 / un b.1) [un a.1 / un b.2,un a.2 / un b.1,un a.2 / un b.2])=qy (fun x y up=>kI x 1000000000000 y up) a b :=
 KE _ (fun x y=>un x / un y) a b (Fg _ _ h1) (Fg _ _ h2) (Fg _ _ h1) (Fg _ _ h2)
theorem Ky (a:Int × Int) (n d:Int) (hd:0<d):ig (gH (un a.1*((n:Rat) / (d:Rat))) [un a.2*((n:Rat) / (d:Rat))]) (dD (un a.1*((n:Rat) / (d:Rat))) [un a.2*((n:Rat) / (d:Rat))])=qy (fun x y up=>kI x y d up) a (n,n):=by
 rw [← KE _ (fun x y=>un x*((y:Rat) / (d:Rat))) a (n,n) (Fe d hd _ _) (Fe d hd _ _) (Fe d hd _ _) (Fe d hd _ _)];simp only;generalize un a.1*((n:Rat) / (d:Rat))=p;generalize un a.2*((n:Rat) / (d:Rat))=q;have h1:gH p [p,q,q]=gH p [q]:=by unfold gH gH gH gH;grind
 have h2:dD p [p,q,q]=dD p [q]:=by unfold dD dD dD dD;grind
 rw [h1,h2]
end Go.Proofs.aN
namespace Go.Proofs.aF
open Go Go.RowKit Go.SW Go.Num Go.Mem Go.Proofs Go.Dec Go.Proofs.aD Go.eF
theorem nu (n d:Int) (h1: -9223372036854775808≤n) (h2:n≤9223372036854775807) (h3: -9223372036854775808≤d) (h4:d≤9223372036854775807) (w:World) :
  Calls Tryz.prog 118 #[.int .i64 n,.int .i64 d] w (sS w (kN n d)):=by
 unfold kN
 by_cases hd:d=0
 ·subst hd;rw [if_pos rfl];clear h1 h2 h3 h4;go_enter Tryz.func118,Tryz.ntmps118
  go_wp2_with fail
  refine aM rfl rfl aJ Tryz.underlying32 rfl zk ?_;exact ⟨rfl,au⟩
 ·rw [if_neg hd];have H1:=zh (fun W=>uq n d h1 h2 h3 h4 hd W);obtain ⟨l1,l2⟩:=yU (n:=n) hd;have H2:=zh (fun x W hx=>sQ x ((n:Rat) / (d:Rat)) W hx (Nat.le_trans (dB zo l1) (Nat.le_trans (MX h1 h2) zo)) (Nat.le_trans (dB zo l2) (Nat.le_trans (MX h3 h4) zo)));clear l1 l2;generalize (n:Rat) / (d:Rat)=q at *;obtain ⟨⟨⟨s1,s2⟩,k⟩,E⟩:∃ y,wr q=y:=⟨_,rfl⟩;rw [E] at H2 ⊢;replace H2:Hid (∀ x W,Ra W x q→Calls Tryz.prog 133 #[x] W (fun e w'=>e= .returned (.tuple #[.agg #[.string s1,.string s2],.int .i64 k])∧Below W.heap.size W w')):=H2;clear E h1 h2 h3 h4;go_enter Tryz.func118,Tryz.ntmps118
  go_wp2_with fail
  obtain ⟨dN,EW,hz,X1⟩:=rG w #[.string ⟨#[]⟩,.string ⟨#[]⟩] 32;rw [EW];have hk2:=Bt (Below.refl _ _) hz;clear EW hz;refine (H1.out _).mono ?_;rintro e ko ⟨vq,rfl,hb3,hq⟩;replace X1:=X1.bl hb3;have hk5:=Bt hk2 hb3;clear hk2;have NQ:=zh hq;clear hb3 hq;go_wp2_with fail
  refine (H2.out _ _ NQ.out).mono ?_;rintro e yg ⟨rfl,hb6⟩;replace X1:=X1.bl hb6;replace NQ:=zh (NQ.out.later hb6);have Oa:=Bt hk5 hb6;clear hk5;clear hb6;obtain ⟨gJ,gI,gN⟩:=X1.clf;have hres:=X1.out;have nE:=hres.cell;have nD:=hres.free;go_wp2_with fail
  refine aM rfl rfl aJ Tryz.underlying32 rfl zk ?_;exact ⟨rfl,au⟩
end Go.Proofs.aF
namespace Go.eF
open Go Go.Num Go.Proofs
def Hq (k:Nat) (q:Rat):Prop:=∃ n d:Int,0<d∧d.natAbs≤iC k∧n.natAbs≤iC k∧q=(n:Rat) / (d:Rat)
theorem Pq (k:Nat):0<iC k:=Nat.pow_pos zo
theorem zL (a b:Nat):iC (a+b)=iC a*iC b:=Nat.pow_add _ _ _
theorem YZ {a b:Nat} (h:a≤b):iC a≤iC b:=Nat.pow_le_pow_right zo h
theorem au4 {a b:Nat} (h:a<b):iC a<iC b:=Nat.pow_lt_pow_right zo h
theorem Hq.mono {a b:Nat} {q:Rat} (h:Hq a q) (k:a≤b):Hq b q:=by
 obtain ⟨n,d,h1,h2,h3,h4⟩:=h;have:=YZ k;exact ⟨n,d,h1,by omega,by omega,h4⟩
theorem Hq.ok {a:Nat} {q:Rat} (h:Hq a q) (k:a<600):rz q=true:=by
 obtain ⟨n,d,h1,h2,h3,rfl⟩:=h;obtain ⟨l1,l2⟩:=aF.yU (n:=n) (d:=d) zo;have:=au4 k;unfold rz jG;generalize iC 600=X at *;rw [Bool.and_eq_true];exact ⟨decide_eq_true zo,decide_eq_true zo⟩
theorem qK {d:Int} (h:0<d):(d:Rat)≠0:=fun e=>by
 have:d=0:=by exact_mod_cast e
 omega
theorem Hq.mul {a b:Nat} {p q:Rat} (h:Hq a p) (k:Hq b q):Hq (a+b) (p*q):=by
 obtain ⟨n,d,h1,h2,h3,rfl⟩:=h;obtain ⟨n',d',k1,k2,k3,rfl⟩:=k;refine ⟨n*n',d*d',Int.mul_pos h1 k1,?_,?_,?_⟩
 ·rw [zL,Int.natAbs_mul];exact Nat.mul_le_mul h2 k2
 ·rw [zL,Int.natAbs_mul];exact Nat.mul_le_mul h3 k3
 ·have e1:=qK h1;have e2:=qK k1;rw [Rat.intCast_mul,Rat.intCast_mul]
  grind
theorem Hq.add {a b:Nat} {p q:Rat} (h:Hq a p) (k:Hq b q):Hq (a+b+1) (p+q):=by
 obtain ⟨n,d,h1,h2,h3,rfl⟩:=h;obtain ⟨n',d',k1,k2,k3,rfl⟩:=k;have t:iC (a+b+1)=10*(iC a*iC b):=by rw [zL,zL];show _*10=_;omega
 refine ⟨n*d'+n'*d,d*d',Int.mul_pos h1 k1,?_,?_,?_⟩
 ·have:=Nat.mul_le_mul h2 k2;rw [t,Int.natAbs_mul];omega
 ·have x1:=Nat.mul_le_mul h3 k2;have x2:=Nat.mul_le_mul k3 h2;rw [Nat.mul_comm (iC b)] at x2;have x3:=Int.natAbs_add_le (n*d') (n'*d);rw [Int.natAbs_mul,Int.natAbs_mul] at x3;rw [t];omega
 ·have e1:=qK h1;have e2:=qK k1;rw [Rat.intCast_add,Rat.intCast_mul,Rat.intCast_mul,Rat.intCast_mul]
  grind
theorem Hq.neg {a:Nat} {p:Rat} (h:Hq a p):Hq a (-p):=by
 obtain ⟨n,d,h1,h2,h3,rfl⟩:=h;exact ⟨-n,d,h1,h2,by rw [Int.natAbs_neg];exact h3,by rw [Rat.intCast_neg];grind⟩
theorem Hq.sub {a b:Nat} {p q:Rat} (h:Hq a p) (k:Hq b q):Hq (a+b+1) (p - q):=by
 rw [Rat.sub_eq_add_neg];exact h.add k.neg
theorem Hq.zero:Hq 0 0:=⟨0,1,by omega,by decide,by decide,by decide+kernel⟩
theorem Hq.one:Hq 0 1:=⟨1,1,by omega,by decide,by decide,by decide+kernel⟩
theorem Hq.inv {a:Nat} {p:Rat} (h:Hq a p):Hq a (p⁻¹):=by
 obtain ⟨n,d,h1,h2,h3,rfl⟩:=h;have e1:=qK h1
 rcases Int.lt_trichotomy n 0 with h|rfl|h
 ·have e2:((-n:Int):Rat)≠0:=qK zo;rw [Rat.intCast_neg] at e2;refine ⟨-d, -n,by omega,by omega,by omega,?_⟩;rw [Rat.intCast_neg,Rat.intCast_neg]
  grind
 ·exact ⟨0,1,by omega,by have:=Pq a;omega,by have:=Pq a;omega,by simp [Rat.div_def]⟩
 ·have e2:=qK h;exact ⟨d,n,h,h3,h2,by grind⟩
theorem Hq.div {a b:Nat} {p q:Rat} (h:Hq a p) (k:Hq b q):Hq (a+b) (p / q):=by
 rw [Rat.div_def];exact h.mul k.inv
end Go.eF
namespace Go.Proofs
open Go Go.RowKit Go.SW Go.Num Go.Mem Go.eF
theorem Rp (n:Int) (h:n.natAbs≤1000000000000000000):(kN n 1000000000000).2=0:=by
 have hq:Hq 18 ((n:Rat) / ((1000000000000:Int):Rat)):=⟨n,1000000000000,by omega,by decide+kernel,Nat.le_trans h (by decide+kernel),rfl⟩;unfold kN wr;rw [if_neg zo,if_pos (hq.ok zo)]
theorem bo7 {s t s' t' y y':ByteArray} {k:Int} (hx:rH ⟨s,t⟩ ⟨s',t'⟩=(⟨y,y'⟩,k)) (w:World) (ht:fM.Pow w):Calls Tryz.prog 168 #[.agg #[.string s,.string t],.agg #[.string s',.string t']] w (fun e w'=>e= .returned (.tuple #[.agg #[.string y,.string y'],.int .i64 k])∧Below w.heap.size w w'):=by
 have h:=dF.qV ⟨s,t⟩ ⟨s',t'⟩ w ht;rw [hx] at h;exact h
theorem bo0 {s t s' t' y y':ByteArray} {k:Int} (hx:vS ⟨s,t⟩ ⟨s',t'⟩=(⟨y,y'⟩,k)) (w:World) (ht:fM.Pow w):Calls Tryz.prog 171 #[.agg #[.string s,.string t],.agg #[.string s',.string t']] w (fun e w'=>e= .returned (.tuple #[.agg #[.string y,.string y'],.int .i64 k])∧Below w.heap.size w w'):=by
 have h:=dF.vE ⟨s,t⟩ ⟨s',t'⟩ w ht;rw [hx] at h;exact h
theorem bo2 {s t s' t' y y':ByteArray} {k:Int} (hx:og ⟨s,t⟩ ⟨s',t'⟩=(⟨y,y'⟩,k)) (w:World) (ht:fM.Pow w):Calls Tryz.prog 18 #[.agg #[.string s,.string t],.agg #[.string s',.string t']] w (fun e w'=>e= .returned (.tuple #[.agg #[.string y,.string y'],.int .i64 k])∧Below w.heap.size w w'):=by
 have h:=dF.qP ⟨s,t⟩ ⟨s',t'⟩ w ht;rw [hx] at h;exact h
theorem bo4 {s t s' t' y y':ByteArray} {k:Int} (hx:lW ⟨s,t⟩ ⟨s',t'⟩=(⟨y,y'⟩,k)) (w:World) (ht:fM.Pow w):Calls Tryz.prog 128 #[.agg #[.string s,.string t],.agg #[.string s',.string t']] w (fun e w'=>e= .returned (.tuple #[.agg #[.string y,.string y'],.int .i64 k])∧Below w.heap.size w w'):=by
 have h:=dF.oQ ⟨s,t⟩ ⟨s',t'⟩ w ht;rw [hx] at h;exact h
theorem bo5 {s t s' t':ByteArray} {v k:Int} (hx:sJ ⟨s,t⟩ ⟨s',t'⟩=(v,k)) (w:World):Calls Tryz.prog 19 #[.agg #[.string s,.string t],.agg #[.string s',.string t']] w (fun e w'=>e= .returned (.tuple #[.int .i64 v,.int .i64 k])∧Below w.heap.size w w'):=by
 have h:=dF.zB ⟨s,t⟩ ⟨s',t'⟩ w;rw [hx] at h;exact h
theorem ap2 {s t:ByteArray} {v k:Int} (hx:oO ⟨s,t⟩=(v,k)) (w:World):Calls Tryz.prog 104 #[.agg #[.string s,.string t]] w (fun e w'=>e= .returned (.tuple #[.int .i64 v,.int .i64 k])∧Below w.heap.size w w'):=by
 have h:=dF.Fp ⟨s,t⟩ w;rw [hx] at h;exact h
theorem cOf {n d:Int} {y y':ByteArray} {k:Int} (hx:kN n d=(⟨y,y'⟩,k)) (w:World) (ht:fM.Pow w) (n0: -9223372036854775808≤n:=by omega) (n1:n≤9223372036854775807:=by omega) (d0: -9223372036854775808≤d:=by omega) (d1:d≤9223372036854775807:=by omega) :
  Calls Tryz.prog 115 #[.int .i64 n,.int .i64 d] w (fun e w'=>e= .returned (.tuple #[.agg #[.string y,.string y'],.int .i64 k])∧Below w.heap.size w w'):=by
 have h:=dF.nu n d n0 n1 d0 d1 w ht;rw [hx] at h;exact h
theorem Yt {s t:ByteArray} {x y k:Int} (hx:aL.dO ⟨s,t⟩=((x,y),k)) (w:World) (ht:fM.Pow w) (he:whole.Er w):Calls Tryz.prog 36 #[.agg #[.string s,.string t]] w (fun e w'=>e= .returned (.tuple #[.agg #[.int .i64 x,.int .i64 y],.int .i64 k])∧Below w.heap.size w w'):=by
 have h:=aL.CQ ⟨s,t⟩ w ht he;rw [hx] at h;exact h
theorem be7 {lo hi q x y k:Int} (hx:power.Qa lo hi 1 q=((x,y),k)) (w:World) (ht:fM.Pow w) (he:whole.Er w):Calls Tryz.prog 124 #[.agg #[.int .i64 lo,.int .i64 hi],.int .i64 q] w (fun e w'=>e= .returned (.tuple #[.agg #[.int .i64 x,.int .i64 y],.int .i64 k])∧Below w.heap.size w w'):=by
 have h:=power.Bh lo hi q w ht he;rw [hx] at h;exact h
theorem aF9 {x y x' y' u v k:Int} (hx:aL.jH (x,y) (x',y')=((u,v),k)) (w:World):Calls Tryz.prog 30 #[.agg #[.int .i64 x,.int .i64 y],.agg #[.int .i64 x',.int .i64 y']] w (fun e w'=>e= .returned (.tuple #[.agg #[.int .i64 u,.int .i64 v],.int .i64 k])∧Below w.heap.size w w'):=by
 have h:=aL.qV x y x' y' w;rw [hx] at h;exact h
theorem Yr {x y x' y' u v k:Int} (hx:aL.qY (x,y) (x',y')=((u,v),k)) (w:World):Calls Tryz.prog 50 #[.agg #[.int .i64 x,.int .i64 y],.agg #[.int .i64 x',.int .i64 y']] w (fun e w'=>e= .returned (.tuple #[.agg #[.int .i64 u,.int .i64 v],.int .i64 k])∧Below w.heap.size w w'):=by
 have h:=aL.vE x y x' y' w;rw [hx] at h;exact h
theorem ap4 {x y x' y' u v k:Int} (hx:aL.Ai (x,y) (x',y')=((u,v),k)) (w:World):Calls Tryz.prog 31 #[.agg #[.int .i64 x,.int .i64 y],.agg #[.int .i64 x',.int .i64 y']] w (fun e w'=>e= .returned (.tuple #[.agg #[.int .i64 u,.int .i64 v],.int .i64 k])∧Below w.heap.size w w'):=by
 have h:=aL.qP x y x' y' w;rw [hx] at h;exact h
theorem be9 {x y x' y' u v k:Int} (hx:aL.Vq (x,y) (x',y')=((u,v),k)) (w:World):Calls Tryz.prog 74 #[.agg #[.int .i64 x,.int .i64 y],.agg #[.int .i64 x',.int .i64 y']] w (fun e w'=>e= .returned (.tuple #[.agg #[.int .i64 u,.int .i64 v],.int .i64 k])∧Below w.heap.size w w'):=by
 have h:=aL.oQ x y x' y' w;rw [hx] at h;exact h
theorem aB5 {x y n d u v k:Int} (hx:aL.nZ (x,y) n d=((u,v),k)) (w:World):Calls Tryz.prog 130 #[.agg #[.int .i64 x,.int .i64 y],.int .i64 n,.int .i64 d] w (fun e w'=>e= .returned (.tuple #[.agg #[.int .i64 u,.int .i64 v],.int .i64 k])∧Below w.heap.size w w'):=by
 have h:=aL.Ju x y n d w;rw [hx] at h;exact h
theorem aB6 {x y n d u v k:Int} (hx:aL.Vt (x,y) n d=((u,v),k)) (w:World):Calls Tryz.prog 73 #[.agg #[.int .i64 x,.int .i64 y],.int .i64 n,.int .i64 d] w (fun e w'=>e= .returned (.tuple #[.agg #[.int .i64 u,.int .i64 v],.int .i64 k])∧Below w.heap.size w w'):=by
 have h:=aL.Sz x y n d w;rw [hx] at h;exact h
theorem aQ0 {n u v k:Int} (hx:aL.ptE n=((u,v),k)) (w:World):Calls Tryz.prog 131 #[.int .i64 n] w (fun e w'=>e= .returned (.tuple #[.agg #[.int .i64 u,.int .i64 v],.int .i64 k])∧Below w.heap.size w w'):=by
 have h:=aL.ar0 n w;rw [hx] at h;exact h
def aL.ofE (lo hi:Int):(Int × Int) × Int:=if aL.dA lo hi then ((lo,hi),0) else ((0,0),30)
theorem bo6 {lo hi u v k:Int} (hx:aL.ofE lo hi=((u,v),k)) (w:World):Calls Tryz.prog 183 #[.int .i64 lo,.int .i64 hi] w (fun e w'=>e= .returned (.tuple #[.agg #[.int .i64 u,.int .i64 v],.int .i64 k])∧Below w.heap.size w w'):=by
 have h:=aL.nu lo hi w;unfold aL.ofE at hx
 revert h
 cases hb:aL.dA lo hi<;>rw [hb] at hx<;>(try rw [if_pos rfl] at hx)<;>(try rw [if_neg zd] at hx)<;>cases hx<;>exact fun h=>h
def ag7 (a:Fr) (n:Nat):Fr × Int:=match rd a with
 | some p=>wr (p^n)
 | none=>(Fr.no,20)
theorem bo1 {s t y y':ByteArray} {n:Nat} {k:Int} (hx:ag7 ⟨s,t⟩ n=(⟨y,y'⟩,k)) (w:World) (ht:fM.Pow w) (h:∃ p,rd ⟨s,t⟩=some p∧0≤p) (n40:n≤40:=by omega):Calls Tryz.prog 127 #[.agg #[.string s,.string t],.int .i64 (n:Int)] w (fun e w'=>e= .returned (.tuple #[.agg #[.string y,.string y'],.int .i64 k])∧Below w.heap.size w w'):=by
 obtain ⟨p,hp,h0⟩:=h;obtain ⟨e,ok⟩:=kJ hp;have h:=dF.zx p n ok h0 n40 w ht;unfold ag7 at hx;rw [hp] at hx;replace hx:wr (p^n)=(⟨y,y'⟩,k):=hx;rw [hx,← e] at h;exact h
theorem bo3 {lo hi k:Int} {y y':ByteArray} (hx:aL.Qq (lo,hi)=(⟨y,y'⟩,k)) (w:World) (ht:fM.Pow w) (hb:aL.dA lo hi=true):Calls Tryz.prog 244 #[.agg #[.int .i64 lo,.int .i64 hi]] w (fun e w'=>e= .returned (.tuple #[.agg #[.string y,.string y'],.int .i64 k])∧Below w.heap.size w w'):=by
 unfold aL.Qq at hx;rw [if_pos hb] at hx;obtain ⟨h1,h2,h3⟩:=aL.BK hb
 have hk:k=0:=by
  have:=Rp lo zo;have e:(kN lo 1000000000000).2=k:=congrArg Prod.snd hx;rw [← e,this]
 subst hk;exact aL.ar5 lo hi y y' w hb fun W hW=>aL.Cj lo y y' W zo zo (ht.later hW) hx
theorem be8 {lo hi k:Int} {y y':ByteArray} (hx:aL.Di (lo,hi)=(⟨y,y'⟩,k)) (w:World) (ht:fM.Pow w) (hb:aL.dA lo hi=true):Calls Tryz.prog 245 #[.agg #[.int .i64 lo,.int .i64 hi]] w (fun e w'=>e= .returned (.tuple #[.agg #[.string y,.string y'],.int .i64 k])∧Below w.heap.size w w'):=by
 unfold aL.Di at hx;rw [if_pos hb] at hx;obtain ⟨h1,h2,h3⟩:=aL.BK hb
 have hk:k=0:=by
  have:=Rp hi zo;have e:(kN hi 1000000000000).2=k:=congrArg Prod.snd hx;rw [← e,this]
 subst hk;exact aL.YH lo hi y y' w hb fun W hW=>aL.Cj hi y y' W zo zo (ht.later hW) hx
end Go.Proofs
namespace Go.Proofs.lab
open Go Go.RowKit Go.SW Go.Num Go.Mem Go.Proofs Go.eF Go.Fx
def thrown (er:Int):Ending:=.panicked [{ v:=.iface 43 (.int .i64 er),recovered:=false }]
abbrev Try:=aq6 thrown
theorem gM (k:Int):∃ c,thrown k= .panicked c:=⟨_,rfl⟩
theorem rR {s t:ByteArray} {k:Int} (w:World):Calls Tryz.prog 126 #[.agg #[.string s,.string t],.int .i64 k] w (Try w (.agg #[.string s,.string t]) k):=by
 by_cases h:k=0
 ·subst h;go_enter Tryz.func126,Tryz.ntmps126
  go_wp2_with fail
  refine bZ rfl rfl aJ Tryz.underlying32 rfl zk ?_;exact ⟨au,.inl ⟨rfl,rfl⟩⟩
 ·have b1:(k != 0)=true:=by simp [h]
  have H:=zh h;clear h;go_enter Tryz.func126,Tryz.ntmps126
  go_wp2_with fail
  exact ⟨rfl,au,.inr ⟨H.out,rfl⟩⟩
theorem iJ {x y:Int} {k:Int} (w:World):Calls Tryz.prog 49 #[.agg #[.int .i64 x,.int .i64 y],.int .i64 k] w (Try w (.agg #[.int .i64 x,.int .i64 y]) k):=by
 by_cases h:k=0
 ·subst h;go_enter Tryz.func49,Tryz.ntmps49
  go_wp2_with fail
  refine bZ rfl rfl aJ Tryz.underlying40 rfl zk ?_;exact ⟨au,.inl ⟨rfl,rfl⟩⟩
 ·have b1:(k != 0)=true:=by simp [h]
  have H:=zh h;clear h;go_enter Tryz.func49,Tryz.ntmps49
  go_wp2_with fail
  exact ⟨rfl,au,.inr ⟨H.out,rfl⟩⟩
theorem DY {v k:Int} (w:World):Calls Tryz.prog 103 #[.int .i64 v,.int .i64 k] w (Try w (.int .i64 v) k):=by
 by_cases h:k=0
 ·subst h;go_enter Tryz.func103,Tryz.ntmps103
  go_wp2_with fail
  go_ret
  exact ⟨Below.refl _ _,.inl ⟨rfl,rfl⟩⟩
 ·have b1:(k != 0)=true:=by simp [h]
  have H:=zh h;clear h;go_enter Tryz.func103,Tryz.ntmps103
  go_wp2_with fail
  exact ⟨rfl,Below.refl _ _,.inr ⟨H.out,rfl⟩⟩
theorem Yx {s t s' t' y y':ByteArray} {k:Int} (hx:dM (rH ⟨s,t⟩ ⟨s',t'⟩) ⟨y,y'⟩ k) (w:World) (ht:fM.Pow w) :
  Calls Tryz.prog 83 #[.agg #[.string s,.string t],.agg #[.string s',.string t']] w (Try w (.agg #[.string y,.string y']) k):=by
 refine Fx.door Tryz.func83 rfl (.nil w []) ?_;have HR:=hx;refine Fx.new [] 2 #[.string s,.string t] 32 [] [] fun fF=>?_;refine Fx.new [] 3 #[.string (s'),.string (t')] 32 [] [] fun dZ=>?_;refine Fx.aP [] 4 32 [] [] fun gP=>?_;obtain ⟨⟨s4,t4⟩,k4,EX,HN⟩:=iR HR;refine Fx.call [3,4] 7 [] [] (fun W M=>bo7 EX _ (ht.later M.below)) ?_;refine Fx.aR gM [] 10 [] [] (fun W M=>rR (s:=s4) (t:=t4) _) HN fun _ HR=>?_;obtain ⟨hk,hv⟩:=HR;cases hk
 exact Fx.iq (cs:=#[.string s4,.string t4]) 2 gP [5] [(2,#[.string s4,.string t4])] (fun W M=>⟨M.below,.inl ⟨rfl,by cases hv rfl;rfl⟩⟩)
theorem ae6 {s t s' t' y y':ByteArray} {k:Int} (hx:dM (vS ⟨s,t⟩ ⟨s',t'⟩) ⟨y,y'⟩ k) (w:World) (ht:fM.Pow w) :
  Calls Tryz.prog 90 #[.agg #[.string s,.string t],.agg #[.string s',.string t']] w (Try w (.agg #[.string y,.string y']) k):=by
 refine Fx.door Tryz.func90 rfl (.nil w []) ?_;have HR:=hx;refine Fx.new [] 2 #[.string s,.string t] 32 [] [] fun fF=>?_;refine Fx.new [] 3 #[.string (s'),.string (t')] 32 [] [] fun dZ=>?_;refine Fx.aP [] 4 32 [] [] fun gP=>?_;obtain ⟨⟨s4,t4⟩,k4,EX,HN⟩:=iR HR;refine Fx.call [3,4] 7 [] [] (fun W M=>bo0 EX _ (ht.later M.below)) ?_;refine Fx.aR gM [] 10 [] [] (fun W M=>rR (s:=s4) (t:=t4) _) HN fun _ HR=>?_;obtain ⟨hk,hv⟩:=HR;cases hk
 exact Fx.iq (cs:=#[.string s4,.string t4]) 2 gP [5] [(2,#[.string s4,.string t4])] (fun W M=>⟨M.below,.inl ⟨rfl,by cases hv rfl;rfl⟩⟩)
theorem Ib {s t s' t' y y':ByteArray} {k:Int} (hx:dM (og ⟨s,t⟩ ⟨s',t'⟩) ⟨y,y'⟩ k) (w:World) (ht:fM.Pow w) :
  Calls Tryz.prog 91 #[.agg #[.string s,.string t],.agg #[.string s',.string t']] w (Try w (.agg #[.string y,.string y']) k):=by
 refine Fx.door Tryz.func91 rfl (.nil w []) ?_;have HR:=hx;refine Fx.new [] 2 #[.string s,.string t] 32 [] [] fun fF=>?_;refine Fx.new [] 3 #[.string (s'),.string (t')] 32 [] [] fun dZ=>?_;refine Fx.aP [] 4 32 [] [] fun gP=>?_;obtain ⟨⟨s4,t4⟩,k4,EX,HN⟩:=iR HR;refine Fx.call [3,4] 7 [] [] (fun W M=>bo2 EX _ (ht.later M.below)) ?_;refine Fx.aR gM [] 10 [] [] (fun W M=>rR (s:=s4) (t:=t4) _) HN fun _ HR=>?_;obtain ⟨hk,hv⟩:=HR;cases hk
 exact Fx.iq (cs:=#[.string s4,.string t4]) 2 gP [5] [(2,#[.string s4,.string t4])] (fun W M=>⟨M.below,.inl ⟨rfl,by cases hv rfl;rfl⟩⟩)
theorem Dn {s t s' t' y y':ByteArray} {k:Int} (hx:dM (lW ⟨s,t⟩ ⟨s',t'⟩) ⟨y,y'⟩ k) (w:World) (ht:fM.Pow w) :
  Calls Tryz.prog 48 #[.agg #[.string s,.string t],.agg #[.string s',.string t']] w (Try w (.agg #[.string y,.string y']) k):=by
 refine Fx.door Tryz.func48 rfl (.nil w []) ?_;have HR:=hx;refine Fx.new [] 2 #[.string s,.string t] 32 [] [] fun fF=>?_;refine Fx.new [] 3 #[.string (s'),.string (t')] 32 [] [] fun dZ=>?_;refine Fx.aP [] 4 32 [] [] fun gP=>?_;obtain ⟨⟨s4,t4⟩,k4,EX,HN⟩:=iR HR;refine Fx.call [3,4] 7 [] [] (fun W M=>bo4 EX _ (ht.later M.below)) ?_;refine Fx.aR gM [] 10 [] [] (fun W M=>rR (s:=s4) (t:=t4) _) HN fun _ HR=>?_;obtain ⟨hk,hv⟩:=HR;cases hk
 exact Fx.iq (cs:=#[.string s4,.string t4]) 2 gP [5] [(2,#[.string s4,.string t4])] (fun W M=>⟨M.below,.inl ⟨rfl,by cases hv rfl;rfl⟩⟩)
theorem iW {n d:Int} {y y':ByteArray} {k:Int} (hx:dM (kN n d) ⟨y,y'⟩ k) (w:World) (ht:fM.Pow w) (n0: -9223372036854775808≤n:=by omega) (n1:n≤9223372036854775807:=by omega) (d0: -9223372036854775808≤d:=by omega) (d1:d≤9223372036854775807:=by omega) :
  Calls Tryz.prog 84 #[.int .i64 n,.int .i64 d] w (Try w (.agg #[.string y,.string y']) k):=by
 refine Fx.door Tryz.func84 rfl (.nil w []) ?_;have HR:=hx;refine Fx.aP [] 4 32 [] [] fun fF=>?_;obtain ⟨⟨s2,t2⟩,k2,EX,HN⟩:=iR HR;refine Fx.call [] 7 [] [] (fun W M=>cOf EX _ (ht.later M.below)) ?_;refine Fx.aR gM [] 10 [] [] (fun W M=>rR (s:=s2) (t:=t2) _) HN fun _ HR=>?_;obtain ⟨hk,hv⟩:=HR;cases hk
 exact Fx.iq (cs:=#[.string s2,.string t2]) 0 fF [3] [(0,#[.string s2,.string t2])] (fun W M=>⟨M.below,.inl ⟨rfl,by cases hv rfl;rfl⟩⟩)
theorem qN {s t:ByteArray} {x y k:Int} (hx:dM (aL.dO ⟨s,t⟩) (x,y) k) (w:World) (ht:fM.Pow w) (he:whole.Er w) :
  Calls Tryz.prog 110 #[.agg #[.string s,.string t]] w (Try w (.agg #[.int .i64 x,.int .i64 y]) k):=by
 refine Fx.door Tryz.func110 rfl (.nil w []) ?_;have HR:=hx;refine Fx.new [] 1 #[.string s,.string t] 32 [] [] fun fF=>?_;refine Fx.aP [] 2 40 [] [] fun dZ=>?_;obtain ⟨⟨x3,y3⟩,k3,EX,HN⟩:=iR HR;refine Fx.call [3] 4 [] [] (fun W M=>Yt EX _ (ht.later M.below) (he.later M.below)) ?_;refine Fx.aR gM [] 7 [] [] (fun W M=>iJ (x:=x3) (y:=y3) _) HN fun _ HR=>?_;obtain ⟨hk,hv⟩:=HR;cases hk
 exact Fx.iq (cs:=#[.int .i64 x3,.int .i64 y3]) 1 dZ [4] [(1,#[.int .i64 x3,.int .i64 y3])] (fun W M=>⟨M.below,.inl ⟨rfl,by cases hv rfl;rfl⟩⟩)
def sP (a b:Fr):Bool × Int:=aU false (sJ a b) fun c=>tJ (decide (0<c))
theorem YA {s t s' t':ByteArray} {v:Bool} {k:Int} (hx:dM (sP ⟨s,t⟩ ⟨s',t'⟩) v k) (w:World) :
  Calls Tryz.prog 123 #[.agg #[.string s,.string t],.agg #[.string s',.string t']] w (Try w (.bool v) k):=by
 unfold sP at hx;refine Fx.door Tryz.func123 rfl (.nil w []) ?_;have HR:=hx;refine Fx.new [] 2 #[.string s,.string t] 32 [] [] fun fF=>?_;refine Fx.new [] 3 #[.string (s'),.string (t')] 32 [] [] fun dZ=>?_;obtain ⟨v3,k3,EX,HN⟩:=aG HR;refine Fx.call [3,4] 7 [] [] (fun W M=>bo5 EX _) ?_;refine Fx.aR gM [] 10 [] [] (fun W M=>DY (v:=v3) _) HN fun _ HR=>?_;obtain ⟨hk,hv⟩:=HR;cases hk
 exact Fx.yQ (v:=.bool (decide (0<v3))) [] [] (fun W M=>⟨M.below,.inl ⟨rfl,by cases hv rfl;rfl⟩⟩)
theorem DW {n x y k:Int} (hx:dM (aL.ptE (n*1000000000000)) (x,y) k) (w:World) (h1: -1000≤n:=by omega) (h2:n≤1000:=by omega) :
  Calls Tryz.prog 52 #[.int .i64 n] w (Try w (.agg #[.int .i64 x,.int .i64 y]) k):=by
 have hw:IntKind.i64.wrap (n*1000000000000)=n*1000000000000:=by rw [IntKind.wrap_i64];omega
 refine Fx.door Tryz.func52 rfl (.nil w []) ?_;have HR:=hx;refine Fx.aP [] 2 40 [] [] fun fF=>?_;refine Fx.part 6 [] [(4,.int .i64 (IntKind.i64.wrap (n*1000000000000)))] [] ?_;refine Fx.av3 (.int .i64 (n*1000000000000)) (Fx.wrap_i64 zo zo) ?_;obtain ⟨⟨x2,y2⟩,k2,EX,HN⟩:=iR HR;refine Fx.call [] 5 [] [] (fun W M=>aQ0 EX _) ?_;refine Fx.aR gM [] 8 [] [] (fun W M=>iJ (x:=x2) (y:=y2) _) HN fun _ HR=>?_;obtain ⟨hk,hv⟩:=HR;cases hk
 exact Fx.iq (cs:=#[.int .i64 x2,.int .i64 y2]) 0 fF [3] [(0,#[.int .i64 x2,.int .i64 y2])] (fun W M=>⟨M.below,.inl ⟨rfl,by cases hv rfl;rfl⟩⟩)
theorem xw {u v n d x y k:Int} (hx:dM (aL.nZ (u,v) n d) (x,y) k) (w:World) :
  Calls Tryz.prog 51 #[.agg #[.int .i64 u,.int .i64 v],.int .i64 n,.int .i64 d] w (Try w (.agg #[.int .i64 x,.int .i64 y]) k):=by
 refine Fx.door Tryz.func51 rfl (.nil w []) ?_;have HR:=hx;refine Fx.new [] 3 #[.int .i64 u,.int .i64 v] 40 [] [] fun fF=>?_;refine Fx.aP [] 6 40 [] [] fun dZ=>?_;obtain ⟨⟨x3,y3⟩,k3,EX,HN⟩:=iR HR;refine Fx.call [3] 10 [] [] (fun W M=>aB5 EX _) ?_;refine Fx.aR gM [] 13 [] [] (fun W M=>iJ (x:=x3) (y:=y3) _) HN fun _ HR=>?_;obtain ⟨hk,hv⟩:=HR;cases hk
 exact Fx.iq (cs:=#[.int .i64 x3,.int .i64 y3]) 1 dZ [4] [(1,#[.int .i64 x3,.int .i64 y3])] (fun W M=>⟨M.below,.inl ⟨rfl,by cases hv rfl;rfl⟩⟩)
theorem Dq (w:World):Calls Tryz.prog 47 #[] w (fun e w'=>e= .returned (.agg #[.func (.func 122) #[] #[],.func (.func 125) #[] #[]])∧Below w.heap.size w w'):=by
 go_enter Tryz.func47,Tryz.ntmps47
 go_wp2_with fail
 refine bZ rfl rfl aJ Tryz.underlying93 rfl zk ?_;exact ⟨rfl,au⟩
def wT (t:Fr):(Int × Int) × Int :=
 aU (0,0) (kN 216 24389) fun r=>aU (0,0) (sP t r) fun c=>cond c
  (aU (0,0) (aL.dO t) fun b=>aU (0,0) (power.Qa b.1 b.2 1 3) tJ)
  (aU (0,0) (kN 841 108) fun p=>aU (0,0) (og p t) fun m=>aU (0,0) (kN 4 29) fun q=>aU (0,0) (rH m q) fun s=>aU (0,0) (aL.dO s) tJ)
theorem Oq {s t:ByteArray} {x y k:Int} (hx:dM (wT ⟨s,t⟩) (x,y) k) (w:World) (ht:fM.Pow w) (he:whole.Er w) :
  Calls Tryz.prog 122 #[.agg #[.string s,.string t]] w (Try w (.agg #[.int .i64 x,.int .i64 y]) k):=by
 unfold wT at hx;refine Fx.door Tryz.func122 rfl (.nil w []) ?_;have HR:=hx;refine Fx.new [] 1 #[.string s,.string t] 32 [] [] fun fF=>?_;refine Fx.aP [] 2 40 [] [] fun dZ=>?_;refine Fx.draw [] (List.range 3) [] [] [] ?_;obtain ⟨⟨s3,t3⟩,_,EX,HN⟩:=aG HR;refine Fx.aR gM [3] 4 [(3,.agg #[.string s,.string t])] [] (fun W M=>iW (dM.of EX) _ (ht.later M.below)) HN fun _ HR=>?_;obtain ⟨v4,_,EX,HN⟩:=aG HR;refine Fx.aR gM [] 5 [] [] (fun W M=>YA (dM.of EX) _) HN fun _ HR=>?_;cases v4
 ·skip
  replace HR:=dM.cond_false HR;refine Fx.draw [2] [1,0,2,3,4,5,6] [] [] [] ?_;obtain ⟨⟨s5,t5⟩,_,EX,HN⟩:=aG HR;refine Fx.aR gM [3] 12 [(13,.agg #[.string s,.string t])] [] (fun W M=>iW (dM.of EX) _ (ht.later M.below)) HN fun _ HR=>?_;obtain ⟨⟨s6,t6⟩,_,EX,HN⟩:=aG HR;refine Fx.aR gM [] 14 [] [] (fun W M=>Ib (dM.of EX) _ (ht.later M.below)) HN fun _ HR=>?_;obtain ⟨⟨s7,t7⟩,_,EX,HN⟩:=aG HR;refine Fx.aR gM [] 15 [] [] (fun W M=>iW (dM.of EX) _ (ht.later M.below)) HN fun _ HR=>?_;obtain ⟨⟨s8,t8⟩,_,EX,HN⟩:=aG HR;refine Fx.aR gM [] 16 [] [] (fun W M=>Yx (dM.of EX) _ (ht.later M.below)) HN fun _ HR=>?_;obtain ⟨⟨x9,y9⟩,_,EX,HN⟩:=aG HR;refine Fx.aR gM [] 17 [] [] (fun W M=>qN (dM.of EX) _ (ht.later M.below) (he.later M.below)) HN fun _ HR=>?_;obtain ⟨hk,hv⟩:=HR;cases hk
  exact Fx.iq (cs:=#[.int .i64 x9,.int .i64 y9]) 1 dZ [4] [(1,#[.int .i64 x9,.int .i64 y9])] (fun W M=>⟨M.below,.inl ⟨rfl,by cases hv rfl;rfl⟩⟩)
 ·skip
  replace HR:=dM.cond_true HR;obtain ⟨⟨x10,y10⟩,_,EX,HN⟩:=aG HR;refine Fx.aR gM [1,3] 7 [] [] (fun W M=>qN (dM.of EX) _ (ht.later M.below) (he.later M.below)) HN fun _ HR=>?_;obtain ⟨⟨x11,y11⟩,k11,EX,HN⟩:=aG HR;refine Fx.call [] 8 [] [] (fun W M=>be7 EX _ (ht.later M.below) (he.later M.below)) ?_;refine Fx.aR gM [] 11 [] [] (fun W M=>iJ (x:=x11) (y:=y11) _) HN fun _ HR=>?_;obtain ⟨hk,hv⟩:=HR;cases hk
  exact Fx.iq (cs:=#[.int .i64 x11,.int .i64 y11]) 1 dZ [4] [(1,#[.int .i64 x11,.int .i64 y11])] (fun W M=>⟨M.below,.inl ⟨rfl,by cases hv rfl;rfl⟩⟩)
def mJ (f:Fr):Fr × Int :=
 aU Fr.no (kN 6 29) fun r=>aU Fr.no (sP f r) fun c=>cond c
  (aU Fr.no (ag7 f 3) tJ)
  (aU Fr.no (kN 108 841) fun p=>aU Fr.no (kN 4 29) fun q=>aU Fr.no (vS f q) fun d=>aU Fr.no (og p d) tJ)
theorem ab1 {f r:Fr} {q:Rat} {k:Int} (h:sP f r=(true,k)) (hr:rd r=some q) (hq:0≤q):∃ p,rd f=some p∧0≤p:=by
 unfold sP sJ at h;cases hf:rd f with
 | none =>
  rw [hf] at h;have:(false,(20:Int))=(true,k):=h;cases this
 | some p =>
  rw [hf,hr] at h;have h2:(decide (0<jA p q),(0:Int))=(true,k):=h;have h3:decide (0<jA p q)=true:=congrArg Prod.fst h2;refine ⟨p,rfl,?_⟩;have h4:=of_decide_eq_true h3;unfold jA at h4;split at h4
  ·omega
  ·split at h4
   ·rename_i h5
    grind
   ·omega
theorem aY6 {s t:ByteArray} (h:kN 6 29=(⟨s,t⟩,0)):rd ⟨s,t⟩=some (6 / 29):=by
 have e:kN 6 29=(Fr.of ((6:Int) / (29:Int):Rat),0):=by decide+kernel
 rw [e] at h;have h2:Fr.of ((6:Int) / (29:Int):Rat)=⟨s,t⟩:=congrArg Prod.fst h;rw [← h2];exact iI (by decide+kernel)
theorem tT {s t y y':ByteArray} {k:Int} (hx:dM (mJ ⟨s,t⟩) ⟨y,y'⟩ k) (w:World) (ht:fM.Pow w) :
  Calls Tryz.prog 125 #[.agg #[.string s,.string t]] w (Try w (.agg #[.string y,.string y']) k):=by
 unfold mJ at hx;refine Fx.door Tryz.func125 rfl (.nil w []) ?_;have HR:=hx;refine Fx.new [] 1 #[.string s,.string t] 32 [] [] fun fF=>?_;refine Fx.aP [] 2 32 [] [] fun dZ=>?_;refine Fx.draw [] (List.range 3) [] [] [] ?_;obtain ⟨⟨s3,t3⟩,k3,EX,HN⟩:=aG HR;refine Fx.aR gM [3] 4 [(3,.agg #[.string s,.string t])] [] (fun W M=>iW (dM.of EX) _ (ht.later M.below)) HN fun h0 HR=>?_;subst h0;have E1:=EX;obtain ⟨v4,k4,EX,HN⟩:=aG HR;refine Fx.aR gM [] 5 [] [] (fun W M=>YA (dM.of EX) _) HN fun h0 HR=>?_;subst h0;have E2:=EX;cases v4
 ·skip
  replace HR:=dM.cond_false HR;refine Fx.draw [2] [1,0,2,3,4,5] [] [] [] ?_;obtain ⟨⟨s5,t5⟩,k5,EX,HN⟩:=aG HR;refine Fx.aR gM [3] 11 [(12,.agg #[.string s,.string t])] [] (fun W M=>iW (dM.of EX) _ (ht.later M.below)) HN fun h0 HR=>?_;subst h0;obtain ⟨⟨s6,t6⟩,k6,EX,HN⟩:=aG HR;refine Fx.aR gM [] 13 [] [] (fun W M=>iW (dM.of EX) _ (ht.later M.below)) HN fun h0 HR=>?_;subst h0;obtain ⟨⟨s7,t7⟩,k7,EX,HN⟩:=aG HR;refine Fx.aR gM [] 14 [] [] (fun W M=>ae6 (dM.of EX) _ (ht.later M.below)) HN fun h0 HR=>?_;subst h0;obtain ⟨⟨s8,t8⟩,k8,EX,HN⟩:=aG HR;refine Fx.aR gM [] 15 [] [] (fun W M=>Ib (dM.of EX) _ (ht.later M.below)) HN fun h0 HR=>?_;subst h0;obtain ⟨hk,hv⟩:=HR;cases hk
  exact Fx.iq (cs:=#[.string s8,.string t8]) 1 dZ [4] [(1,#[.string s8,.string t8])] (fun W M=>⟨M.below,.inl ⟨rfl,by cases hv rfl;rfl⟩⟩)
 ·skip
  replace HR:=dM.cond_true HR;obtain ⟨⟨s9,t9⟩,k9,EX,HN⟩:=aG HR;refine Fx.call [1,3] 7 [] [] (fun W M=>bo1 EX _ (ht.later M.below) (ab1 E2 (aY6 E1) (by decide+kernel))) ?_;refine Fx.aR gM [] 10 [] [] (fun W M=>rR (s:=s9) (t:=t9) _) HN fun h0 HR=>?_;subst h0;obtain ⟨hk,hv⟩:=HR;cases hk
  exact Fx.iq (cs:=#[.string s9,.string t9]) 1 dZ [4] [(1,#[.string s9,.string t9])] (fun W M=>⟨M.below,.inl ⟨rfl,by cases hv rfl;rfl⟩⟩)
theorem aY8 {lo hi k:Int} {y y':ByteArray} (hx:dM (aL.Qq (lo,hi)) ⟨y,y'⟩ k) (w:World) (ht:fM.Pow w) (hb:aL.dA lo hi=true) :
  Calls Tryz.prog 181 #[.agg #[.int .i64 lo,.int .i64 hi]] w (Try w (.agg #[.string y,.string y']) k):=by
 refine Fx.door Tryz.func181 rfl (.nil w []) ?_;have HR:=hx;refine Fx.new [] 1 #[.int .i64 lo,.int .i64 hi] 202 [] [] fun fF=>?_;refine Fx.aP [] 2 32 [] [] fun dZ=>?_;obtain ⟨⟨s3,t3⟩,k3,EX,HN⟩:=iR HR;refine Fx.call [3] 5 [] [] (fun W M=>bo3 EX _ (ht.later M.below) hb) ?_;refine Fx.aR gM [] 8 [] [] (fun W M=>rR (s:=s3) (t:=t3) _) HN fun _ HR=>?_;obtain ⟨hk,hv⟩:=HR;cases hk
 exact Fx.iq (cs:=#[.string s3,.string t3]) 1 dZ [4] [(1,#[.string s3,.string t3])] (fun W M=>⟨M.below,.inl ⟨rfl,by cases hv rfl;rfl⟩⟩)
theorem aM6 {lo hi k:Int} {y y':ByteArray} (hx:dM (aL.Di (lo,hi)) ⟨y,y'⟩ k) (w:World) (ht:fM.Pow w) (hb:aL.dA lo hi=true) :
  Calls Tryz.prog 182 #[.agg #[.int .i64 lo,.int .i64 hi]] w (Try w (.agg #[.string y,.string y']) k):=by
 refine Fx.door Tryz.func182 rfl (.nil w []) ?_;have HR:=hx;refine Fx.new [] 1 #[.int .i64 lo,.int .i64 hi] 202 [] [] fun fF=>?_;refine Fx.aP [] 2 32 [] [] fun dZ=>?_;obtain ⟨⟨s3,t3⟩,k3,EX,HN⟩:=iR HR;refine Fx.call [3] 5 [] [] (fun W M=>be8 EX _ (ht.later M.below) hb) ?_;refine Fx.aR gM [] 8 [] [] (fun W M=>rR (s:=s3) (t:=t3) _) HN fun _ HR=>?_;obtain ⟨hk,hv⟩:=HR;cases hk
 exact Fx.iq (cs:=#[.string s3,.string t3]) 1 dZ [4] [(1,#[.string s3,.string t3])] (fun W M=>⟨M.below,.inl ⟨rfl,by cases hv rfl;rfl⟩⟩)
def z3:(Int × Int) × (Int × Int) × (Int × Int):=((0,0),(0,0),(0,0))
def t0:light.jl:=⟨Fr.no,Fr.no,Fr.no⟩
def Bz (f:Fr):Fr × Int:=aU Fr.no (kN 128 1) fun p=>aU Fr.no (rH f p) fun s=>aU Fr.no (kN 256 1) fun q=>aU Fr.no (lW s q) tJ
def LV (f:Fr):Fr × Int:=aU Fr.no (kN 256 1) fun p=>aU Fr.no (og f p) fun s=>aU Fr.no (kN 128 1) fun q=>aU Fr.no (vS s q) tJ
def encI (t:light.jl):light.jl × Int:=aU t0 (kN 100 1) fun h=>aU t0 (lW t.x h) fun a=>aU t0 (Bz t.y) fun b=>aU t0 (Bz t.z) fun c=>tJ ⟨a,b,c⟩
def ao1 (t:light.jl):light.jl × Int:=aU t0 (kN 100 1) fun h=>aU t0 (og t.x h) fun a=>aU t0 (LV t.y) fun b=>aU t0 (LV t.z) fun c=>tJ ⟨a,b,c⟩
theorem Xe {s t y y':ByteArray} {k:Int} (hx:dM (Bz ⟨s,t⟩) ⟨y,y'⟩ k) (w:World) (ht:fM.Pow w) :
  Calls Tryz.prog 82 #[.agg #[.string s,.string t]] w (Try w (.agg #[.string y,.string y']) k):=by
 unfold Bz at hx;refine Fx.door Tryz.func82 rfl (.nil w []) ?_;have HR:=hx;refine Fx.new [] 1 #[.string s,.string t] 32 [] [] fun fF=>?_;refine Fx.aP [] 2 32 [] [] fun dZ=>?_;refine Fx.draw [] (List.range 6) [] [] [] ?_;obtain ⟨⟨s3,t3⟩,_,EX,HN⟩:=aG HR;refine Fx.aR gM [3] 4 [(3,.agg #[.string s,.string t])] [] (fun W M=>iW (dM.of EX) _ (ht.later M.below)) HN fun _ HR=>?_;obtain ⟨⟨s4,t4⟩,_,EX,HN⟩:=aG HR;refine Fx.aR gM [] 5 [] [] (fun W M=>Yx (dM.of EX) _ (ht.later M.below)) HN fun _ HR=>?_;obtain ⟨⟨s5,t5⟩,_,EX,HN⟩:=aG HR;refine Fx.aR gM [] 6 [] [] (fun W M=>iW (dM.of EX) _ (ht.later M.below)) HN fun _ HR=>?_;obtain ⟨⟨s6,t6⟩,_,EX,HN⟩:=aG HR;refine Fx.aR gM [] 7 [] [] (fun W M=>Dn (dM.of EX) _ (ht.later M.below)) HN fun _ HR=>?_;obtain ⟨hk,hv⟩:=HR;cases hk
 exact Fx.iq (cs:=#[.string s6,.string t6]) 1 dZ [4] [(1,#[.string s6,.string t6])] (fun W M=>⟨M.below,.inl ⟨rfl,by cases hv rfl;rfl⟩⟩)
theorem aO5 {a1 a2 a3 a4 a5 a6 y1 y2 y3 y4 y5 y6:ByteArray} {k:Int} {p:Nat} (hx:dM (encI ⟨⟨a1,a2⟩,⟨a3,a4⟩,⟨a5,a6⟩⟩) ⟨⟨y1,y2⟩,⟨y3,y4⟩,⟨y5,y6⟩⟩ k) (w:World)
  (hp:ah w p #[.string a1,.string a2,.string a3,.string a4,.string a5,.string a6] 34) (ht:fM.Pow w) :
  Calls Tryz.prog 81 #[.pointer (some ⟨p,0,none⟩)] w (Try w (.agg #[.string y1,.string y2,.string y3,.string y4,.string y5,.string y6]) k):=by
 unfold encI at hx;refine Fx.door Tryz.func81 rfl (.ro hp (.nil w [])) ?_;have HR:=hx;refine Fx.aP [] 1 34 [] [] fun fF=>?_;refine Fx.draw [] [0,1,4,5,6,8,9,10,2,3,7,11,12,13] [] [(2,.func (.func 82) #[] #[])] [] ?_;obtain ⟨⟨s2,t2⟩,_,EX,HN⟩:=aG HR;refine Fx.aR gM [3,3,3] 5 [(4,.agg #[.string a1,.string a2]),(7,.func (.func 82) #[] #[]),(9,.agg #[.string a3,.string a4]),(11,.func (.func 82) #[] #[]),(13,.agg #[.string a5,.string a6])] [] (fun W M=>iW (dM.of EX) _ (ht.later M.below)) HN fun _ HR=>?_;obtain ⟨⟨s3,t3⟩,_,EX,HN⟩:=aG HR;refine Fx.aR gM [] 6 [] [] (fun W M=>Dn (dM.of EX) _ (ht.later M.below)) HN fun _ HR=>?_;obtain ⟨⟨s4,t4⟩,_,EX,HN⟩:=aG HR;refine Fx.aR gM [] 10 [] [] (fun W M=>Xe (dM.of EX) _ (ht.later M.below)) HN fun _ HR=>?_;obtain ⟨⟨s5,t5⟩,_,EX,HN⟩:=aG HR
 refine Fx.aR gM [] 14 [] [] (fun W M=>Xe (dM.of EX) _ (ht.later M.below)) HN fun _ HR=>?_;obtain ⟨hk,hv⟩:=HR;cases hk
 exact Fx.iq (cs:=#[.string s3,.string t3,.string s4,.string t4,.string s5,.string t5]) 1 fF [4] [(1,#[.string s3,.string t3,.string s4,.string t4,.string s5,.string t5])] (fun W M=>⟨M.below,.inl ⟨rfl,by cases hv rfl;rfl⟩⟩)
theorem ap9 {s t y y':ByteArray} {k:Int} (hx:dM (LV ⟨s,t⟩) ⟨y,y'⟩ k) (w:World) (ht:fM.Pow w) :
  Calls Tryz.prog 89 #[.agg #[.string s,.string t]] w (Try w (.agg #[.string y,.string y']) k):=by
 unfold LV at hx;refine Fx.door Tryz.func89 rfl (.nil w []) ?_;have HR:=hx;refine Fx.new [] 1 #[.string s,.string t] 32 [] [] fun fF=>?_;refine Fx.aP [] 2 32 [] [] fun dZ=>?_;refine Fx.draw [] (List.range 6) [] [] [] ?_;obtain ⟨⟨s3,t3⟩,_,EX,HN⟩:=aG HR;refine Fx.aR gM [3] 4 [(3,.agg #[.string s,.string t])] [] (fun W M=>iW (dM.of EX) _ (ht.later M.below)) HN fun _ HR=>?_;obtain ⟨⟨s4,t4⟩,_,EX,HN⟩:=aG HR;refine Fx.aR gM [] 5 [] [] (fun W M=>Ib (dM.of EX) _ (ht.later M.below)) HN fun _ HR=>?_;obtain ⟨⟨s5,t5⟩,_,EX,HN⟩:=aG HR;refine Fx.aR gM [] 6 [] [] (fun W M=>iW (dM.of EX) _ (ht.later M.below)) HN fun _ HR=>?_;obtain ⟨⟨s6,t6⟩,_,EX,HN⟩:=aG HR;refine Fx.aR gM [] 7 [] [] (fun W M=>ae6 (dM.of EX) _ (ht.later M.below)) HN fun _ HR=>?_;obtain ⟨hk,hv⟩:=HR;cases hk
 exact Fx.iq (cs:=#[.string s6,.string t6]) 1 dZ [4] [(1,#[.string s6,.string t6])] (fun W M=>⟨M.below,.inl ⟨rfl,by cases hv rfl;rfl⟩⟩)
theorem aO9 {a1 a2 a3 a4 a5 a6 y1 y2 y3 y4 y5 y6:ByteArray} {k:Int} {p:Nat} (hx:dM (ao1 ⟨⟨a1,a2⟩,⟨a3,a4⟩,⟨a5,a6⟩⟩) ⟨⟨y1,y2⟩,⟨y3,y4⟩,⟨y5,y6⟩⟩ k) (w:World)
  (hp:ah w p #[.string a1,.string a2,.string a3,.string a4,.string a5,.string a6] 34) (ht:fM.Pow w) :
  Calls Tryz.prog 88 #[.pointer (some ⟨p,0,none⟩)] w (Try w (.agg #[.string y1,.string y2,.string y3,.string y4,.string y5,.string y6]) k):=by
 unfold ao1 at hx;refine Fx.door Tryz.func88 rfl (.ro hp (.nil w [])) ?_;have HR:=hx;refine Fx.aP [] 1 34 [] [] fun fF=>?_;refine Fx.draw [] [0,1,4,5,6,8,9,10,2,3,7,11,12,13] [] [(2,.func (.func 89) #[] #[])] [] ?_;obtain ⟨⟨s2,t2⟩,_,EX,HN⟩:=aG HR;refine Fx.aR gM [3,3,3] 5 [(4,.agg #[.string a1,.string a2]),(7,.func (.func 89) #[] #[]),(9,.agg #[.string a3,.string a4]),(11,.func (.func 89) #[] #[]),(13,.agg #[.string a5,.string a6])] [] (fun W M=>iW (dM.of EX) _ (ht.later M.below)) HN fun _ HR=>?_;obtain ⟨⟨s3,t3⟩,_,EX,HN⟩:=aG HR;refine Fx.aR gM [] 6 [] [] (fun W M=>Ib (dM.of EX) _ (ht.later M.below)) HN fun _ HR=>?_;obtain ⟨⟨s4,t4⟩,_,EX,HN⟩:=aG HR;refine Fx.aR gM [] 10 [] [] (fun W M=>ap9 (dM.of EX) _ (ht.later M.below)) HN fun _ HR=>?_;obtain ⟨⟨s5,t5⟩,_,EX,HN⟩:=aG HR
 refine Fx.aR gM [] 14 [] [] (fun W M=>ap9 (dM.of EX) _ (ht.later M.below)) HN fun _ HR=>?_;obtain ⟨hk,hv⟩:=HR;cases hk
 exact Fx.iq (cs:=#[.string s3,.string t3,.string s4,.string t4,.string s5,.string t5]) 1 fF [4] [(1,#[.string s3,.string t3,.string s4,.string t4,.string s5,.string t5])] (fun W M=>⟨M.below,.inl ⟨rfl,by cases hv rfl;rfl⟩⟩)
def UW (b:Int × Int):(Int × Int) × Int :=
 aU (0,0) (aL.Qq b) fun p=>aU (0,0) (mJ p) fun x=>aU (0,0) (aL.dO x) fun lo =>
 aU (0,0) (aL.Di b) fun q=>aU (0,0) (mJ q) fun y=>aU (0,0) (aL.dO y) fun hi=>aU (0,0) (aL.ofE lo.1 hi.2) tJ
theorem wI {lo hi x y k:Int} (hx:dM (UW (lo,hi)) (x,y) k) (w:World) (ht:fM.Pow w) (he:whole.Er w) (hb:aL.dA lo hi=true) :
  Calls Tryz.prog 109 #[.agg #[.int .i64 lo,.int .i64 hi]] w (Try w (.agg #[.int .i64 x,.int .i64 y]) k):=by
 unfold UW at hx;refine Fx.door Tryz.func109 rfl (.nil w []) ?_;have HR:=hx;refine Fx.new [] 1 #[.int .i64 lo,.int .i64 hi] 40 [] [] fun fF=>?_;refine Fx.aP [] 2 40 [] [] fun dZ=>?_;refine Fx.aP [] 3 70 [] [] fun gP=>?_;refine Fx.draw [1] [0,3,4,5,1,2,6,7,8,9,10] [] [(6,.agg #[.func (.func 181) #[] #[],.func (.func 182) #[] #[]]),(7,.int .i64 0),(4,.int .i64 0),(5,.func (.func 181) #[] #[])] [] ?_;refine Fx.call [3] 12 [(11,.int .i64 0),(14,.func (.func 181) #[] #[]),(16,.agg #[.int .i64 lo,.int .i64 hi])] [] (fun W M=>Dq _) ?_;obtain ⟨⟨s5,t5⟩,_,EX,HN⟩:=aG HR;refine Fx.aR gM [] 17 [(13,.func (.func 125) #[] #[])] [] (fun W M=>aY8 (dM.of EX) _ (ht.later M.below) hb) HN fun _ HR=>?_;obtain ⟨⟨s6,t6⟩,_,EX,HN⟩:=aG HR;refine Fx.aR gM [] 18 [] [] (fun W M=>tT (dM.of EX) _ (ht.later M.below)) HN fun _ HR=>?_;obtain ⟨⟨x7,y7⟩,_,EX,HN⟩:=aG HR
 refine Fx.aR gM [] 19 [] [] (fun W M=>qN (dM.of EX) _ (ht.later M.below) (he.later M.below)) HN fun _ HR=>?_;refine Fx.draw [5,1] [0,3,4,5,1,2,6,7,8,9,10] [] [(7,.int .i64 1),(4,.int .i64 1),(5,.func (.func 182) #[] #[])] [(2,#[.int .i64 x7,.int .i64 y7,.int .i64 0,.int .i64 0])] ?_;refine Fx.call [3] 12 [(11,.int .i64 1),(14,.func (.func 182) #[] #[]),(16,.agg #[.int .i64 lo,.int .i64 hi])] [] (fun W M=>Dq _) ?_;obtain ⟨⟨s9,t9⟩,_,EX,HN⟩:=aG HR;refine Fx.aR gM [] 17 [(13,.func (.func 125) #[] #[])] [] (fun W M=>aM6 (dM.of EX) _ (ht.later M.below) hb) HN fun _ HR=>?_;obtain ⟨⟨s10,t10⟩,_,EX,HN⟩:=aG HR;refine Fx.aR gM [] 18 [] [] (fun W M=>tT (dM.of EX) _ (ht.later M.below)) HN fun _ HR=>?_;obtain ⟨⟨x11,y11⟩,_,EX,HN⟩:=aG HR
 refine Fx.aR gM [] 19 [] [] (fun W M=>qN (dM.of EX) _ (ht.later M.below) (he.later M.below)) HN fun _ HR=>?_;obtain ⟨⟨x12,y12⟩,k12,EX,HN⟩:=aG HR;refine Fx.call [5,2,5,5] 28 [(7,.int .i64 2)] [(2,#[.int .i64 x7,.int .i64 y7,.int .i64 x11,.int .i64 y11])] (fun W M=>bo6 EX _) ?_;refine Fx.aR gM [] 31 [] [] (fun W M=>iJ (x:=x12) (y:=y12) _) HN fun _ HR=>?_;obtain ⟨hk,hv⟩:=HR;cases hk
 exact Fx.iq (cs:=#[.int .i64 x12,.int .i64 y12]) 1 dZ [4] [(1,#[.int .i64 x12,.int .i64 y12])] (fun W M=>⟨M.below,.inl ⟨rfl,by cases hv rfl;rfl⟩⟩)
def dcE (x w:Fr):(Int × Int) × Int:=aU (0,0) (lW x w) fun t=>aU (0,0) (wT t) tJ
theorem TD {a1 a2 a3 a4 a5 a6 b1 b2 b3 b4 b5 b6:ByteArray} {x y k:Int} {p q:Nat} (hx:dM (dcE ⟨a1,a2⟩ ⟨b1,b2⟩) (x,y) k) (w:World)
  (hp:ah w p #[.string a1,.string a2,.string a3,.string a4,.string a5,.string a6] 34) (hq:ah w q #[.string b1,.string b2,.string b3,.string b4,.string b5,.string b6] 34) (ht:fM.Pow w) (he:whole.Er w) :
  Calls Tryz.prog 46 #[.int .i64 0,.pointer (some ⟨p,0,none⟩),.pointer (some ⟨q,0,none⟩)] w (Try w (.agg #[.int .i64 x,.int .i64 y]) k):=by
 unfold dcE at hx;refine Fx.door Tryz.func46 rfl (.ro hp (.ro hq (.nil w []))) ?_;have HR:=hx;refine Fx.aP [] 4 40 [] [] fun fF=>?_;refine Fx.draw [] [2,3,4,5,6,7,0,1,8,9,10] [] [] [] ?_;refine Fx.call [3,4] 5 [(9,.agg #[.string a1,.string a2]),(12,.agg #[.string b1,.string b2])] [] (fun W M=>Dq _) ?_;obtain ⟨⟨s3,t3⟩,_,EX,HN⟩:=aG HR;refine Fx.aR gM [] 13 [(6,.func (.func 122) #[] #[])] [] (fun W M=>Dn (dM.of EX) _ (ht.later M.below)) HN fun _ HR=>?_;obtain ⟨⟨x4,y4⟩,_,EX,HN⟩:=aG HR;refine Fx.aR gM [] 14 [] [] (fun W M=>Oq (dM.of EX) _ (ht.later M.below) (he.later M.below)) HN fun _ HR=>?_;obtain ⟨hk,hv⟩:=HR;cases hk
 exact Fx.iq (cs:=#[.int .i64 x4,.int .i64 y4]) 2 fF [5] [(2,#[.int .i64 x4,.int .i64 y4])] (fun W M=>⟨M.below,.inl ⟨rfl,by cases hv rfl;rfl⟩⟩)
theorem Tz {a1 a2 a3 a4 a5 a6 b1 b2 b3 b4 b5 b6:ByteArray} {x y k:Int} {p q:Nat} (hx:dM (dcE ⟨a3,a4⟩ ⟨b3,b4⟩) (x,y) k) (w:World)
  (hp:ah w p #[.string a1,.string a2,.string a3,.string a4,.string a5,.string a6] 34) (hq:ah w q #[.string b1,.string b2,.string b3,.string b4,.string b5,.string b6] 34) (ht:fM.Pow w) (he:whole.Er w) :
  Calls Tryz.prog 46 #[.int .i64 1,.pointer (some ⟨p,0,none⟩),.pointer (some ⟨q,0,none⟩)] w (Try w (.agg #[.int .i64 x,.int .i64 y]) k):=by
 unfold dcE at hx;refine Fx.door Tryz.func46 rfl (.ro hp (.ro hq (.nil w []))) ?_;have HR:=hx;refine Fx.aP [] 4 40 [] [] fun fF=>?_;refine Fx.draw [] [2,3,4,5,6,7,0,1,8,9,10] [] [] [] ?_;refine Fx.call [3,4] 5 [(9,.agg #[.string a3,.string a4]),(12,.agg #[.string b3,.string b4])] [] (fun W M=>Dq _) ?_;obtain ⟨⟨s3,t3⟩,_,EX,HN⟩:=aG HR;refine Fx.aR gM [] 13 [(6,.func (.func 122) #[] #[])] [] (fun W M=>Dn (dM.of EX) _ (ht.later M.below)) HN fun _ HR=>?_;obtain ⟨⟨x4,y4⟩,_,EX,HN⟩:=aG HR;refine Fx.aR gM [] 14 [] [] (fun W M=>Oq (dM.of EX) _ (ht.later M.below) (he.later M.below)) HN fun _ HR=>?_;obtain ⟨hk,hv⟩:=HR;cases hk
 exact Fx.iq (cs:=#[.int .i64 x4,.int .i64 y4]) 2 fF [5] [(2,#[.int .i64 x4,.int .i64 y4])] (fun W M=>⟨M.below,.inl ⟨rfl,by cases hv rfl;rfl⟩⟩)
theorem Tx {a1 a2 a3 a4 a5 a6 b1 b2 b3 b4 b5 b6:ByteArray} {x y k:Int} {p q:Nat} (hx:dM (dcE ⟨a5,a6⟩ ⟨b5,b6⟩) (x,y) k) (w:World)
  (hp:ah w p #[.string a1,.string a2,.string a3,.string a4,.string a5,.string a6] 34) (hq:ah w q #[.string b1,.string b2,.string b3,.string b4,.string b5,.string b6] 34) (ht:fM.Pow w) (he:whole.Er w) :
  Calls Tryz.prog 46 #[.int .i64 2,.pointer (some ⟨p,0,none⟩),.pointer (some ⟨q,0,none⟩)] w (Try w (.agg #[.int .i64 x,.int .i64 y]) k):=by
 unfold dcE at hx;refine Fx.door Tryz.func46 rfl (.ro hp (.ro hq (.nil w []))) ?_;have HR:=hx;refine Fx.aP [] 4 40 [] [] fun fF=>?_;refine Fx.draw [] [2,3,4,5,6,7,0,1,8,9,10] [] [] [] ?_;refine Fx.call [3,4] 5 [(9,.agg #[.string a5,.string a6]),(12,.agg #[.string b5,.string b6])] [] (fun W M=>Dq _) ?_;obtain ⟨⟨s3,t3⟩,_,EX,HN⟩:=aG HR;refine Fx.aR gM [] 13 [(6,.func (.func 122) #[] #[])] [] (fun W M=>Dn (dM.of EX) _ (ht.later M.below)) HN fun _ HR=>?_;obtain ⟨⟨x4,y4⟩,_,EX,HN⟩:=aG HR;refine Fx.aR gM [] 14 [] [] (fun W M=>Oq (dM.of EX) _ (ht.later M.below) (he.later M.below)) HN fun _ HR=>?_;obtain ⟨hk,hv⟩:=HR;cases hk
 exact Fx.iq (cs:=#[.int .i64 x4,.int .i64 y4]) 2 fF [5] [(2,#[.int .i64 x4,.int .i64 y4])] (fun W M=>⟨M.below,.inl ⟨rfl,by cases hv rfl;rfl⟩⟩)
def Ak (t w:light.jl):((Int × Int) × (Int × Int) × (Int × Int)) × Int :=
 aU z3 (dcE t.x w.x) fun fx=>aU z3 (dcE t.y w.y) fun fy=>aU z3 (dcE t.z w.z) fun fz =>
 aU z3 (aL.nZ fy 116 1) fun s=>aU z3 (aL.ptE (16*1000000000000)) fun p=>aU z3 (aL.qY s p) fun l =>
 aU z3 (aL.qY fx fy) fun d=>aU z3 (aL.nZ d 500 1) fun a=>aU z3 (aL.qY fy fz) fun g=>aU z3 (aL.nZ g 200 1) fun b=>tJ (l,a,b)
theorem ad5 {a1 a2 a3 a4 a5 a6 b1 b2 b3 b4 b5 b6:ByteArray} {x1 x2 x3 x4 x5 x6 k:Int} {p q:Nat} (hx:dM (Ak ⟨⟨a1,a2⟩,⟨a3,a4⟩,⟨a5,a6⟩⟩ ⟨⟨b1,b2⟩,⟨b3,b4⟩,⟨b5,b6⟩⟩) ((x1,x2),(x3,x4),(x5,x6)) k) (w:World)
  (hp:ah w p #[.string a1,.string a2,.string a3,.string a4,.string a5,.string a6] 34) (hq:ah w q #[.string b1,.string b2,.string b3,.string b4,.string b5,.string b6] 34) (ht:fM.Pow w) (he:whole.Er w) :
  Calls Tryz.prog 45 #[.pointer (some ⟨p,0,none⟩),.pointer (some ⟨q,0,none⟩)] w (Try w (.agg #[.int .i64 x1,.int .i64 x2,.int .i64 x3,.int .i64 x4,.int .i64 x5,.int .i64 x6]) k):=by
 unfold Ak at hx;refine Fx.door Tryz.func45 rfl (.ro hp (.ro hq (.nil w []))) ?_;have HR:=hx;refine Fx.aP [] 2 42 [] [] fun fF=>?_;obtain ⟨⟨x2,y2⟩,_,EX,HN⟩:=aG HR;refine Fx.aR gM [] 9 [(3,.func (.func 46) #[] #[.pointer (some ⟨p,0,none⟩),.pointer (some ⟨q,0,none⟩)])] [] (fun W M=>TD (dM.of EX) _ (M.box (b:=p) (cs:=#[.string a1,.string a2,.string a3,.string a4,.string a5,.string a6]) 0) (M.box (b:=q) (cs:=#[.string b1,.string b2,.string b3,.string b4,.string b5,.string b6]) 1) (ht.later M.below) (he.later M.below)) HN fun _ HR=>?_;obtain ⟨⟨x3,y3⟩,_,EX,HN⟩:=aG HR
 refine Fx.aR gM [] 11 [] [] (fun W M=>Tz (dM.of EX) _ (M.box (b:=p) (cs:=#[.string a1,.string a2,.string a3,.string a4,.string a5,.string a6]) 0) (M.box (b:=q) (cs:=#[.string b1,.string b2,.string b3,.string b4,.string b5,.string b6]) 1) (ht.later M.below) (he.later M.below)) HN fun _ HR=>?_;obtain ⟨⟨x4,y4⟩,_,EX,HN⟩:=aG HR;refine Fx.aR gM [] 13 [] [] (fun W M=>Tx (dM.of EX) _ (M.box (b:=p) (cs:=#[.string a1,.string a2,.string a3,.string a4,.string a5,.string a6]) 0) (M.box (b:=q) (cs:=#[.string b1,.string b2,.string b3,.string b4,.string b5,.string b6]) 1) (ht.later M.below) (he.later M.below)) HN fun _ HR=>?_;refine Fx.aP [] 4 40 [] [] fun bz5=>?_;refine Fx.aP [] 5 40 [] [] fun bz6=>?_;refine Fx.aP [] 6 40 [] [] fun bz7=>?_
 refine Fx.draw [6,7,8] [0,7,8,14,15,1,2,3,4,5,6,9,10,11,12,13,16,17,18,19,20,21,22] [] [] [(3,#[.int .i64 x2,.int .i64 y2]),(4,#[.int .i64 x3,.int .i64 y3]),(5,#[.int .i64 x4,.int .i64 y4])] ?_;obtain ⟨⟨x8,y8⟩,_,EX,HN⟩:=aG HR;refine Fx.aR gM [7,6,7,7,8] 15 [(21,.agg #[.int .i64 x2,.int .i64 y2]),(22,.agg #[.int .i64 x3,.int .i64 y3]),(28,.agg #[.int .i64 x3,.int .i64 y3]),(29,.agg #[.int .i64 x4,.int .i64 y4])] [] (fun W M=>xw (dM.of EX) _) HN fun _ HR=>?_;obtain ⟨⟨x9,y9⟩,_,EX,HN⟩:=aG HR;refine Fx.aR gM [] 16 [] [] (fun W M=>DW (dM.of EX) _) HN fun _ HR=>?_;obtain ⟨⟨x10,y10⟩,k10,EX,HN⟩:=aG HR;refine Fx.call [] 17 [] [] (fun W M=>Yr EX _) ?_;refine Fx.aR gM [] 20 [] [] (fun W M=>iJ (x:=x10) (y:=y10) _) HN fun _ HR=>?_;obtain ⟨⟨x12,y12⟩,k12,EX,HN⟩:=aG HR;refine Fx.call [] 23 [] [] (fun W M=>Yr EX _) ?_
 refine Fx.aR gM [] 26 [] [] (fun W M=>iJ (x:=x12) (y:=y12) _) HN fun _ HR=>?_;obtain ⟨⟨x14,y14⟩,_,EX,HN⟩:=aG HR;refine Fx.aR gM [] 27 [] [] (fun W M=>xw (dM.of EX) _) HN fun _ HR=>?_;obtain ⟨⟨x15,y15⟩,k15,EX,HN⟩:=aG HR;refine Fx.call [] 30 [] [] (fun W M=>Yr EX _) ?_;refine Fx.aR gM [] 33 [] [] (fun W M=>iJ (x:=x15) (y:=y15) _) HN fun _ HR=>?_;obtain ⟨⟨x17,y17⟩,_,EX,HN⟩:=aG HR;refine Fx.aR gM [] 34 [] [] (fun W M=>xw (dM.of EX) _) HN fun _ HR=>?_;obtain ⟨hk,hv⟩:=HR;cases hk
 exact Fx.iq (cs:=#[.int .i64 x10,.int .i64 y10,.int .i64 x14,.int .i64 y14,.int .i64 x17,.int .i64 y17]) 2 fF [5] [(2,#[.int .i64 x10,.int .i64 y10,.int .i64 x14,.int .i64 y14,.int .i64 x17,.int .i64 y17])] (fun W M=>⟨M.below,.inl ⟨rfl,by cases hv rfl;rfl⟩⟩)
end Go.Proofs.lab
namespace Go.Proofs
open Go Go.RowKit Go.SW Go.Num Go.Mem Go.eF
theorem ap3 {x y u v a b k:Int} {q:Nat} (hx:power.ay0 [(x,y),(u,v)]=((a,b),k)) (w:World) (hq:ah w q #[.int .i64 x,.int .i64 y,.int .i64 u,.int .i64 v] 40) (ht:fM.Pow w) (he:whole.Er w):Calls Tryz.prog 71 #[.slice (some ⟨q,0,none⟩) 2 2] w (fun e w'=>e= .returned (.tuple #[.agg #[.int .i64 a,.int .i64 b],.int .i64 k])∧Below w.heap.size w w'):=by
 have h:=power.aC9 _ _ [(x,y),(u,v)] w (Bq.two hq) ht he;rw [hx] at h;exact h
theorem aL.Ij {lo hi x y k:Int} (h:aL.dI lo hi=((x,y),k)) (h0:k=0):aL.dA x y=true:=by
 unfold aL.dI at h;subst h0;cases hb:aL.dA lo hi<;>rw [hb] at h
 ·cases h
 ·have h2:((lo,hi),(0:Int))=((x,y),0):=h;cases h2
  exact hb
theorem aL.aC2 {a b:Int × Int} {x y k:Int} (h:aL.jH a b=((x,y),k)) (h0:k=0):aL.dA x y=true:=by
 unfold aL.jH at h;split at h
 ·exact aL.Ij h h0
 ·subst h0;cases h
theorem aL.au7 {a b:Int × Int} {x y k:Int} (h:aL.qY a b=((x,y),k)) (h0:k=0):aL.dA x y=true:=by
 unfold aL.qY at h;split at h
 ·exact aL.Ij h h0
 ·subst h0;cases h
theorem aL.au8 {Q:Int→Int→Bool→Int × Bool} {a b:Int × Int} {x y k:Int} (h:aL.qy Q a b=((x,y),k)) (h0:k=0):aL.dA x y=true:=by
 unfold aL.qy at h;split at h
 ·exact aL.Ij h h0
 ·subst h0;cases h
theorem aL.av5 {b:Int × Int} {n d x y k:Int} (h:aL.nZ b n d=((x,y),k)) (h0:k=0):aL.dA x y=true:=by
 unfold aL.nZ aL.Zh at h;split at h
 ·split at h
  ·subst h0;cases h
  ·exact aL.au8 h h0
 ·subst h0;cases h
end Go.Proofs
namespace Go.Proofs.lab
open Go Go.RowKit Go.SW Go.Num Go.Mem Go.Proofs Go.eF Go.Fx
def LA (t w:light.jl):light.jl × Int :=
 aU t0 (kN 16 1) fun h=>aU t0 (rH t.x h) fun s=>aU t0 (kN 116 1) fun d=>aU t0 (lW s d) fun y =>
 aU t0 (kN 500 1) fun d1=>aU t0 (lW t.y d1) fun a=>aU t0 (rH y a) fun x =>
 aU t0 (kN 200 1) fun d2=>aU t0 (lW t.z d2) fun b=>aU t0 (vS y b) fun z =>
 aU t0 (mJ x) fun p=>aU t0 (og p w.x) fun o1=>aU t0 (mJ y) fun q=>aU t0 (og q w.y) fun o2=>aU t0 (mJ z) fun r=>aU t0 (og r w.z) fun o3 =>
 aU t0 (oO o1) fun c1=>if c1<0 then (t0,9) else aU t0 (oO o2) fun c2=>if c2<0 then (t0,9) else aU t0 (oO o3) fun c3=>if c3<0 then (t0,9) else tJ ⟨o1,o2,o3⟩
theorem Vo {a1 a2 a3 a4 a5 a6 b1 b2 b3 b4 b5 b6 y1 y2 y3 y4 y5 y6:ByteArray} {k:Int} {p q:Nat} (hx:dM (LA ⟨⟨a1,a2⟩,⟨a3,a4⟩,⟨a5,a6⟩⟩ ⟨⟨b1,b2⟩,⟨b3,b4⟩,⟨b5,b6⟩⟩) ⟨⟨y1,y2⟩,⟨y3,y4⟩,⟨y5,y6⟩⟩ k) (w:World)
  (hp:ah w p #[.string a1,.string a2,.string a3,.string a4,.string a5,.string a6] 34) (hq:ah w q #[.string b1,.string b2,.string b3,.string b4,.string b5,.string b6] 34) (ht:fM.Pow w) :
  Calls Tryz.prog 102 #[.pointer (some ⟨p,0,none⟩),.pointer (some ⟨q,0,none⟩)] w (Try w (.agg #[.string y1,.string y2,.string y3,.string y4,.string y5,.string y6]) k):=by
 unfold LA at hx;refine Fx.door Tryz.func102 rfl (.ro hp (.ro hq (.nil w []))) ?_;have HR:=hx;refine Fx.aP [] 2 34 [] [] fun fF=>?_;refine Fx.draw [] (List.range 8) [] [] [] ?_;obtain ⟨⟨s2,t2⟩,_,EX,HN⟩:=aG HR;refine Fx.aR gM [3] 13 [(12,.agg #[.string a1,.string a2])] [] (fun W M=>iW (dM.of EX) _ (ht.later M.below)) HN fun _ HR=>?_;obtain ⟨⟨s3,t3⟩,_,EX,HN⟩:=aG HR;refine Fx.aR gM [] 14 [] [] (fun W M=>Yx (dM.of EX) _ (ht.later M.below)) HN fun _ HR=>?_;obtain ⟨⟨s4,t4⟩,_,EX,HN⟩:=aG HR;refine Fx.aR gM [] 15 [] [] (fun W M=>iW (dM.of EX) _ (ht.later M.below)) HN fun _ HR=>?_;obtain ⟨⟨s5,t5⟩,_,EX,HN⟩:=aG HR;refine Fx.aR gM [] 16 [] [] (fun W M=>Dn (dM.of EX) _ (ht.later M.below)) HN fun _ HR=>?_;refine Fx.mI [] 3 32 [] [] fun bz6=>?_;refine Fx.draw [6] (List.range 8) [] [] [(3,#[.string s5,.string t5])] ?_
 obtain ⟨⟨s7,t7⟩,_,EX,HN⟩:=aG HR;refine Fx.aR gM [6,3] 20 [(17,.agg #[.string s5,.string t5]),(19,.agg #[.string a3,.string a4])] [] (fun W M=>iW (dM.of EX) _ (ht.later M.below)) HN fun _ HR=>?_;obtain ⟨⟨s8,t8⟩,_,EX,HN⟩:=aG HR;refine Fx.aR gM [] 21 [] [] (fun W M=>Dn (dM.of EX) _ (ht.later M.below)) HN fun _ HR=>?_;obtain ⟨⟨s9,t9⟩,_,EX,HN⟩:=aG HR;refine Fx.aR gM [] 22 [] [] (fun W M=>Yx (dM.of EX) _ (ht.later M.below)) HN fun _ HR=>?_;refine Fx.mI [] 4 32 [] [] fun aB8=>?_;refine Fx.draw [7] (List.range 8) [] [] [(4,#[.string s9,.string t9])] ?_;obtain ⟨⟨s11,t11⟩,_,EX,HN⟩:=aG HR;refine Fx.aR gM [6,3] 26 [(23,.agg #[.string s5,.string t5]),(25,.agg #[.string a5,.string a6])] [] (fun W M=>iW (dM.of EX) _ (ht.later M.below)) HN fun _ HR=>?_;obtain ⟨⟨s12,t12⟩,_,EX,HN⟩:=aG HR
 refine Fx.aR gM [] 27 [] [] (fun W M=>Dn (dM.of EX) _ (ht.later M.below)) HN fun _ HR=>?_;obtain ⟨⟨s13,t13⟩,_,EX,HN⟩:=aG HR;refine Fx.aR gM [] 28 [] [] (fun W M=>ae6 (dM.of EX) _ (ht.later M.below)) HN fun _ HR=>?_;refine Fx.mI [] 5 32 [] [] fun aQ1=>?_;refine Fx.aP [8] 6 34 [] [(5,#[.string s13,.string t13])] fun RU=>?_;refine Fx.aP [7,6,8,1] 8 32 [(32,.agg #[.string s9,.string t9,.string s5,.string t5,.string s13,.string t13]),(33,.int .i64 0),(35,.int .i64 0),(36,.agg #[.string s9,.string t9])] [] fun bf0=>?_;refine Fx.draw [10] [0,3,5,6,7,1,2,4,8,9,10] [] [(7,.int .i64 0)] [(7,#[.string s9,.string t9])] ?_;refine Fx.call [10,4] 38 [(37,.int .i64 0),(40,.agg #[.string s9,.string t9]),(44,.agg #[.string b1,.string b2])] [] (fun W M=>Dq _) ?_;obtain ⟨⟨s18,t18⟩,_,EX,HN⟩:=aG HR
 refine Fx.aR gM [] 41 [] [] (fun W M=>tT (dM.of EX) _ (ht.later M.below)) HN fun _ HR=>?_;obtain ⟨⟨s19,t19⟩,_,EX,HN⟩:=aG HR;refine Fx.aR gM [] 45 [] [] (fun W M=>Ib (dM.of EX) _ (ht.later M.below)) HN fun _ HR=>?_;refine Fx.aP [9,1] 8 32 [(33,.int .i64 1),(35,.int .i64 1),(36,.agg #[.string s5,.string t5])] [(6,#[.string s19,.string t19,.string ⟨#[]⟩,.string ⟨#[]⟩,.string ⟨#[]⟩,.string ⟨#[]⟩])] fun bE6=>?_;refine Fx.draw [11] [0,3,5,6,7,1,2,4,8,9,10] [] [(7,.int .i64 1)] [(8,#[.string s5,.string t5])] ?_;refine Fx.call [11,4] 38 [(37,.int .i64 1),(40,.agg #[.string s5,.string t5]),(44,.agg #[.string b3,.string b4])] [] (fun W M=>Dq _) ?_;obtain ⟨⟨s22,t22⟩,_,EX,HN⟩:=aG HR;refine Fx.aR gM [] 41 [] [] (fun W M=>tT (dM.of EX) _ (ht.later M.below)) HN fun _ HR=>?_;obtain ⟨⟨s23,t23⟩,_,EX,HN⟩:=aG HR
 refine Fx.aR gM [] 45 [] [] (fun W M=>Ib (dM.of EX) _ (ht.later M.below)) HN fun _ HR=>?_;refine Fx.aP [9,1] 8 32 [(33,.int .i64 2),(35,.int .i64 2),(36,.agg #[.string s13,.string t13])] [(6,#[.string s19,.string t19,.string s23,.string t23,.string ⟨#[]⟩,.string ⟨#[]⟩])] fun bE4=>?_;refine Fx.draw [12] [0,3,5,6,7,1,2,4,8,9,10] [] [(7,.int .i64 2)] [(9,#[.string s13,.string t13])] ?_;refine Fx.call [12,4] 38 [(37,.int .i64 2),(40,.agg #[.string s13,.string t13]),(44,.agg #[.string b5,.string b6])] [] (fun W M=>Dq _) ?_;obtain ⟨⟨s26,t26⟩,_,EX,HN⟩:=aG HR;refine Fx.aR gM [] 41 [] [] (fun W M=>tT (dM.of EX) _ (ht.later M.below)) HN fun _ HR=>?_;obtain ⟨⟨s27,t27⟩,_,EX,HN⟩:=aG HR;refine Fx.aR gM [] 45 [] [] (fun W M=>Ib (dM.of EX) _ (ht.later M.below)) HN fun _ HR=>?_
 refine Fx.aP [9,2,9,1] 10 32 [(33,.int .i64 3),(48,.agg #[.string s19,.string t19,.string s23,.string t23,.string s27,.string t27]),(49,.int .i64 0),(51,.agg #[.string s19,.string t19])] [(6,#[.string s19,.string t19,.string s23,.string t23,.string s27,.string t27])] fun bE2=>?_;obtain ⟨v29,k29,EX,HN⟩:=aG HR;refine Fx.call [13,13] 53 [] [(10,#[.string s19,.string t19])] (fun W M=>ap2 EX _) ?_;refine Fx.aR gM [] 56 [] [] (fun W M=>DY (v:=v29) _) HN fun _ HR=>?_;refine Fx.part 1 [] [(57,.bool (decide (v29<0)))] [] ?_;refine Fx.splitB (fun hf1=>?_) (fun hf1=>?_)
 ·skip
  replace HR:=dM.pos HR (of_decide_eq_true hf1);refine Fx.panics (v:=.iface 43 (.int .i64 9)) 5 [1] [] (fun W M=>?_);have HB:=M.below;obtain ⟨hk, -⟩:=HR;cases hk;exact ⟨HB,.inr ⟨by decide,rfl⟩⟩
 ·skip
  replace HR:=dM.neg HR (of_decide_eq_false hf1);refine Fx.aP [2,1] 10 32 [(49,.int .i64 1),(51,.agg #[.string s23,.string t23])] [] fun bE1=>?_;obtain ⟨v32,k32,EX,HN⟩:=aG HR;refine Fx.call [14,14] 53 [] [(11,#[.string s23,.string t23])] (fun W M=>ap2 EX _) ?_;refine Fx.aR gM [] 56 [] [] (fun W M=>DY (v:=v32) _) HN fun _ HR=>?_;refine Fx.part 1 [] [(57,.bool (decide (v32<0)))] [] ?_;refine Fx.splitB (fun hf2=>?_) (fun hf2=>?_)
  ·skip
   replace HR:=dM.pos HR (of_decide_eq_true hf2);refine Fx.panics (v:=.iface 43 (.int .i64 9)) 5 [1] [] (fun W M=>?_);have HB:=M.below;obtain ⟨hk, -⟩:=HR;cases hk;exact ⟨HB,.inr ⟨by decide,rfl⟩⟩
  ·skip
   replace HR:=dM.neg HR (of_decide_eq_false hf2);refine Fx.aP [2,1] 10 32 [(49,.int .i64 2),(51,.agg #[.string s27,.string t27])] [] fun bE0=>?_;obtain ⟨v35,k35,EX,HN⟩:=aG HR;refine Fx.call [15,15] 53 [] [(12,#[.string s27,.string t27])] (fun W M=>ap2 EX _) ?_;refine Fx.aR gM [] 56 [] [] (fun W M=>DY (v:=v35) _) HN fun _ HR=>?_;refine Fx.part 1 [] [(57,.bool (decide (v35<0)))] [] ?_;refine Fx.splitB (fun hf3=>?_) (fun hf3=>?_)
   ·skip
    replace HR:=dM.pos HR (of_decide_eq_true hf3);refine Fx.panics (v:=.iface 43 (.int .i64 9)) 5 [1] [] (fun W M=>?_);have HB:=M.below;obtain ⟨hk, -⟩:=HR;cases hk;exact ⟨HB,.inr ⟨by decide,rfl⟩⟩
   ·skip
    replace HR:=dM.neg HR (of_decide_eq_false hf3);obtain ⟨hk,hv⟩:=HR;cases hk
    exact Fx.iq (cs:=#[.string s19,.string t19,.string s23,.string t23,.string s27,.string t27]) 2 fF [2,2,9,5] [(2,#[.string s19,.string t19,.string s23,.string t23,.string s27,.string t27])] (fun W M=>⟨M.below,.inl ⟨rfl,by cases hv rfl;rfl⟩⟩)
def ap6 (l0 l1 l2:Int × Int) (w:light.jl):((Int × Int) × (Int × Int) × (Int × Int)) × Int :=
 aU z3 (aL.ptE (16*1000000000000)) fun p=>aU z3 (aL.jH l0 p) fun s=>aU z3 (aL.nZ s 1 116) fun y =>
 aU z3 (aL.nZ l1 1 500) fun a=>aU z3 (aL.jH y a) fun x=>aU z3 (aL.nZ l2 1 200) fun b=>aU z3 (aL.qY y b) fun z =>
 aU z3 (UW x) fun p1=>aU z3 (aL.dO w.x) fun q1=>aU z3 (aL.Ai p1 q1) fun o1 =>
 aU z3 (UW y) fun p2=>aU z3 (aL.dO w.y) fun q2=>aU z3 (aL.Ai p2 q2) fun o2 =>
 aU z3 (UW z) fun p3=>aU z3 (aL.dO w.z) fun q3=>aU z3 (aL.Ai p3 q3) fun o3=>tJ (o1,o2,o3)
theorem aC1 {l1 l2 l3 l4 l5 l6:Int} {b1 b2 b3 b4 b5 b6:ByteArray} {x1 x2 x3 x4 x5 x6 k:Int} {p q:Nat} (hx:dM (ap6 (l1,l2) (l3,l4) (l5,l6) ⟨⟨b1,b2⟩,⟨b3,b4⟩,⟨b5,b6⟩⟩) ((x1,x2),(x3,x4),(x5,x6)) k) (w:World)
  (hp:ah w p #[.int .i64 l1,.int .i64 l2,.int .i64 l3,.int .i64 l4,.int .i64 l5,.int .i64 l6] 42) (hq:ah w q #[.string b1,.string b2,.string b3,.string b4,.string b5,.string b6] 34) (ht:fM.Pow w) (he:whole.Er w) :
  Calls Tryz.prog 108 #[.pointer (some ⟨p,0,none⟩),.pointer (some ⟨q,0,none⟩)] w (Try w (.agg #[.int .i64 x1,.int .i64 x2,.int .i64 x3,.int .i64 x4,.int .i64 x5,.int .i64 x6]) k):=by
 unfold ap6 at hx;refine Fx.door Tryz.func108 rfl (.ro hp (.ro hq (.nil w []))) ?_;have HR:=hx;refine Fx.aP [] 2 42 [] [] fun fF=>?_;refine Fx.draw [] (List.range 10) [] [] [] ?_;obtain ⟨⟨x2,y2⟩,k2,EX,HN⟩:=aG HR;refine Fx.aR gM [3] 11 [(10,.agg #[.int .i64 l1,.int .i64 l2])] [] (fun W M=>DW (dM.of EX) _) HN fun h0 HR=>?_;subst h0;obtain ⟨⟨x3,y3⟩,k3,EX,HN⟩:=aG HR;refine Fx.call [] 12 [] [] (fun W M=>aF9 EX _) ?_;refine Fx.aR gM [] 15 [] [] (fun W M=>iJ (x:=x3) (y:=y3) _) HN fun h0 HR=>?_;subst h0;obtain ⟨⟨x5,y5⟩,k5,EX,HN⟩:=aG HR;refine Fx.aR gM [] 16 [] [] (fun W M=>xw (dM.of EX) _) HN fun h0 HR=>?_;subst h0;have VY:=aL.av5 EX;refine Fx.mI [] 3 40 [] [] fun bz6=>?_;refine Fx.draw [6] (List.range 10) [] [] [(3,#[.int .i64 x5,.int .i64 y5])] ?_;obtain ⟨⟨x7,y7⟩,k7,EX,HN⟩:=aG HR
 refine Fx.aR gM [6,3] 20 [(17,.agg #[.int .i64 x5,.int .i64 y5])] [] (fun W M=>xw (dM.of EX) _) HN fun h0 HR=>?_;subst h0;obtain ⟨⟨x8,y8⟩,k8,EX,HN⟩:=aG HR;refine Fx.call [] 21 [] [] (fun W M=>aF9 EX _) ?_;have VX:=aL.aC2 EX;refine Fx.aR gM [] 24 [] [] (fun W M=>iJ (x:=x8) (y:=y8) _) HN fun h0 HR=>?_;subst h0;refine Fx.mI [] 4 40 [] [] fun aB8=>?_;refine Fx.draw [7] (List.range 10) [] [] [(4,#[.int .i64 x8,.int .i64 y8])] ?_;obtain ⟨⟨x11,y11⟩,k11,EX,HN⟩:=aG HR;refine Fx.aR gM [6,3] 28 [(25,.agg #[.int .i64 x5,.int .i64 y5])] [] (fun W M=>xw (dM.of EX) _) HN fun h0 HR=>?_;subst h0;obtain ⟨⟨x12,y12⟩,k12,EX,HN⟩:=aG HR;refine Fx.call [] 29 [] [] (fun W M=>Yr EX _) ?_;have VZ:=aL.au7 EX;refine Fx.aR gM [] 32 [] [] (fun W M=>iJ (x:=x12) (y:=y12) _) HN fun h0 HR=>?_;subst h0
 refine Fx.mI [] 5 40 [] [] fun aQ1=>?_;refine Fx.aP [8] 6 42 [] [(5,#[.int .i64 x12,.int .i64 y12])] fun RU=>?_;refine Fx.aP [7,6,8,1] 8 40 [(36,.agg #[.int .i64 x8,.int .i64 y8,.int .i64 x5,.int .i64 y5,.int .i64 x12,.int .i64 y12]),(37,.int .i64 0),(39,.int .i64 0),(40,.agg #[.int .i64 x8,.int .i64 y8])] [] fun bf0=>?_;refine Fx.draw [10] [0,1,3,4,5,2,6,7,8,9,10,11,12] [] [(7,.int .i64 0)] [(7,#[.int .i64 x8,.int .i64 y8])] ?_;obtain ⟨⟨x17,y17⟩,k17,EX,HN⟩:=aG HR;refine Fx.aR gM [10,4] 43 [(41,.int .i64 0),(46,.agg #[.string b1,.string b2])] [] (fun W M=>wI (dM.of EX) _ (ht.later M.below) (he.later M.below) (VX (by trivial))) HN fun h0 HR=>?_;subst h0;obtain ⟨⟨x18,y18⟩,k18,EX,HN⟩:=aG HR;refine Fx.aR gM [] 47 [] [] (fun W M=>qN (dM.of EX) _ (ht.later M.below) (he.later M.below)) HN fun h0 HR=>?_;subst h0
 obtain ⟨⟨x19,y19⟩,k19,EX,HN⟩:=aG HR;refine Fx.call [] 48 [] [] (fun W M=>ap4 EX _) ?_;refine Fx.aR gM [] 51 [] [] (fun W M=>iJ (x:=x19) (y:=y19) _) HN fun h0 HR=>?_;subst h0;refine Fx.aP [9,1] 8 40 [(37,.int .i64 1),(39,.int .i64 1),(40,.agg #[.int .i64 x5,.int .i64 y5])] [(6,#[.int .i64 x19,.int .i64 y19,.int .i64 0,.int .i64 0,.int .i64 0,.int .i64 0])] fun bE5=>?_;refine Fx.draw [11] [0,1,3,4,5,2,6,7,8,9,10,11,12] [] [(7,.int .i64 1)] [(8,#[.int .i64 x5,.int .i64 y5])] ?_;obtain ⟨⟨x22,y22⟩,k22,EX,HN⟩:=aG HR;refine Fx.aR gM [11,4] 43 [(41,.int .i64 1),(46,.agg #[.string b3,.string b4])] [] (fun W M=>wI (dM.of EX) _ (ht.later M.below) (he.later M.below) (VY (by trivial))) HN fun h0 HR=>?_;subst h0;obtain ⟨⟨x23,y23⟩,k23,EX,HN⟩:=aG HR
 refine Fx.aR gM [] 47 [] [] (fun W M=>qN (dM.of EX) _ (ht.later M.below) (he.later M.below)) HN fun h0 HR=>?_;subst h0;obtain ⟨⟨x24,y24⟩,k24,EX,HN⟩:=aG HR;refine Fx.call [] 48 [] [] (fun W M=>ap4 EX _) ?_;refine Fx.aR gM [] 51 [] [] (fun W M=>iJ (x:=x24) (y:=y24) _) HN fun h0 HR=>?_;subst h0;refine Fx.aP [9,1] 8 40 [(37,.int .i64 2),(39,.int .i64 2),(40,.agg #[.int .i64 x12,.int .i64 y12])] [(6,#[.int .i64 x19,.int .i64 y19,.int .i64 x24,.int .i64 y24,.int .i64 0,.int .i64 0])] fun bE3=>?_;refine Fx.draw [12] [0,1,3,4,5,2,6,7,8,9,10,11,12] [] [(7,.int .i64 2)] [(9,#[.int .i64 x12,.int .i64 y12])] ?_;obtain ⟨⟨x27,y27⟩,k27,EX,HN⟩:=aG HR;refine Fx.aR gM [12,4] 43 [(41,.int .i64 2),(46,.agg #[.string b5,.string b6])] [] (fun W M=>wI (dM.of EX) _ (ht.later M.below) (he.later M.below) (VZ (by trivial))) HN fun h0 HR=>?_;subst h0
 obtain ⟨⟨x28,y28⟩,k28,EX,HN⟩:=aG HR;refine Fx.aR gM [] 47 [] [] (fun W M=>qN (dM.of EX) _ (ht.later M.below) (he.later M.below)) HN fun h0 HR=>?_;subst h0;obtain ⟨⟨x29,y29⟩,k29,EX,HN⟩:=aG HR;refine Fx.call [] 48 [] [] (fun W M=>ap4 EX _) ?_;refine Fx.aR gM [] 51 [] [] (fun W M=>iJ (x:=x29) (y:=y29) _) HN fun h0 HR=>?_;subst h0;obtain ⟨hk,hv⟩:=HR;cases hk
 exact Fx.iq (cs:=#[.int .i64 x19,.int .i64 y19,.int .i64 x24,.int .i64 y24,.int .i64 x29,.int .i64 y29]) 2 fF [9,2,9,5] [(2,#[.int .i64 x19,.int .i64 y19,.int .i64 x24,.int .i64 y24,.int .i64 x29,.int .i64 y29]),(6,#[.int .i64 x19,.int .i64 y19,.int .i64 x24,.int .i64 y24,.int .i64 x29,.int .i64 y29])] (fun W M=>⟨M.below,.inl ⟨rfl,by cases hv rfl;rfl⟩⟩)
def Xp (b c:Int × Int):(Int × Int) × Int:=aU (0,0) (aL.Vq b c) fun q=>aU (0,0) (aL.Vt q (-1000000000000) 1000000000000) tJ
theorem Nk {u v c d x y k:Int} {p:Nat} (hx:dM (Xp (u,v) (c,d)) (x,y) k) (w:World) (hp:ah w p #[.int .i64 c,.int .i64 d] 40) :
  Calls Tryz.prog 72 #[.agg #[.int .i64 u,.int .i64 v],.pointer (some ⟨p,0,none⟩)] w (Try w (.agg #[.int .i64 x,.int .i64 y]) k):=by
 unfold Xp at hx;refine Fx.door Tryz.func72 rfl (.ro hp (.nil w [])) ?_;have HR:=hx;refine Fx.new [] 2 #[.int .i64 u,.int .i64 v] 40 [] [] fun fF=>?_;refine Fx.aP [] 3 40 [] [] fun dZ=>?_;obtain ⟨⟨x3,y3⟩,k3,EX,HN⟩:=aG HR;refine Fx.call [4,3] 6 [] [] (fun W M=>be9 EX _) ?_;refine Fx.aR gM [] 9 [] [] (fun W M=>iJ (x:=x3) (y:=y3) _) HN fun _ HR=>?_;obtain ⟨⟨x5,y5⟩,k5,EX,HN⟩:=aG HR;refine Fx.call [] 10 [] [] (fun W M=>aB6 EX _) ?_;refine Fx.aR gM [] 13 [] [] (fun W M=>iJ (x:=x5) (y:=y5) _) HN fun _ HR=>?_;obtain ⟨hk,hv⟩:=HR;cases hk
 exact Fx.iq (cs:=#[.int .i64 x5,.int .i64 y5]) 2 dZ [5] [(2,#[.int .i64 x5,.int .i64 y5])] (fun W M=>⟨M.below,.inl ⟨rfl,by cases hv rfl;rfl⟩⟩)
end Go.Proofs.lab
namespace Go.Proofs.lab
open Go Go.RowKit Go.SW Go.Num Go.Mem Go.Proofs Go.Dec Go.eF
theorem Co (er:Int) (w:World):(Instr.typeAssert (.iface 43 (.int .i64 er)) 20 43 true).run Tryz.prog w= .ok (.tuple #[.int .i64 er,.bool true]) w:=by kernel_rfl
theorem jB {w:World} {b:Nat} {cs cs':Array Value} {T:TypeId} (h:ah w b cs T) (e:cs=cs'):ah w b cs' T:=e ▸ h
def caught (er:Int) (rec:Bool):FrameMode:=.panicking [{ v:=.iface 43 (.int .i64 er),recovered:=rec }]
theorem RG (p q:Addr) (w:World) :
  CallsD Tryz.prog 121 #[.pointer (some p),.pointer (some q)] .returning w fun e u' w'=>e= .returned (.tuple #[])∧u'= .returning∧w'=w:=by
 refine callsD_of_wpS Tryz.func121 rfl fun c₀ cs hu=>?_;simp only [Tryz.ntmps121,List.size_toArray,List.length_cons,List.length_nil,Nat.reduceAdd,Nat.reduceSub,Array.replicate_succ,Array.replicate_zero,List.push_toArray,List.append_toArray,List.nil_append,List.cons_append];refine wpS_seq (wpS_region ?_);generalize hQ:Exit.thenS _ _=Q;simp [wpOpsS,go_sem,recoverD,hu]
 rw [← hQ];clear hQ;refine wpS_of_wp ?_;go_wp2_with fail
 cases c₀
 simp_all [bodyPostS,results,Tryz.results121]
theorem aP4 (b c:Nat) (s1 s2 s3 s4 s5 s6:Int) (z er:Int) (w:World) (hb:ah w b #[.int .i64 s1,.int .i64 s2,.int .i64 s3,.int .i64 s4,.int .i64 s5,.int .i64 s6] 42) (hc:ah w c #[.int .i64 z] 43) :
  CallsD Tryz.prog 121 #[.pointer (some ⟨b,0,none⟩),.pointer (some ⟨c,0,none⟩)] (caught er false) w fun e u' w' =>
   e= .returned (.tuple #[])∧u'=caught er true∧ah w' b #[.int .i64 0,.int .i64 0,.int .i64 0,.int .i64 0,.int .i64 0,.int .i64 0] 42∧ah w' c #[.int .i64 er] 43∧∀ w0:World,w0.heap.size≤b→w0.heap.size≤c→Below w0.heap.size w0 w→Below w0.heap.size w0 w':=by
 unfold caught;refine callsD_of_wpS Tryz.func121 rfl fun c₀ cs hu=>?_;simp only [Tryz.ntmps121,List.size_toArray,List.length_cons,List.length_nil,Nat.reduceAdd,Nat.reduceSub,Array.replicate_succ,Array.replicate_zero,List.push_toArray,List.append_toArray,List.nil_append,List.cons_append];refine wpS_seq (wpS_region ?_);generalize hQ:Exit.thenS _ _=Q;simp [wpOpsS,go_sem,recoverD,hu]
 rw [← hQ];clear hQ;refine wpS_of_wp ?_;have cb:=hb.cell;have fb:=hb.free;have cc:=hc.cell;have fc:=hc.free;have lb:=hb.lt;have lc:=hc.lt;have hne:b≠c:=hb.ne hc zd;have hne2:c≠b:=fun e=>hne e.symm;have hta:=Co er;obtain ⟨R,HR⟩:∃ R:Ending→FrameMode→World→Prop,Hid (R=fun e u' w'=>e= .returned (.tuple #[])∧u'= .panicking [{ v:=.iface 43 (.int .i64 er),recovered:=true }]∧ah w' b #[.int .i64 0,.int .i64 0,.int .i64 0,.int .i64 0,.int .i64 0,.int .i64 0] 42∧ah w' c #[.int .i64 er] 43∧∀ w0:World,w0.heap.size≤b→w0.heap.size≤c→Below w0.heap.size w0 w→Below w0.heap.size w0 w'):=⟨_,zh rfl⟩
 rw [← HR.out];go_wp2_with fail
 simp only [bodyPostS];refine ⟨trivial,_,rfl,_,results_none rfl _ _ _,?_⟩;rw [HR.out];refine ⟨rfl,rfl,?_,?_,fun w0 h1 h2 h3=>?_⟩
 ·apply jB
  ·exact aJ
  ·simp only [List.setIfInBounds_toArray,List.set_cons_zero,List.set_cons_succ]
 ·apply jB
  ·exact aJ
  ·simp only [List.setIfInBounds_toArray,List.set_cons_zero,List.set_cons_succ]
 ·exact au
theorem Rz (p q:Addr) (w:World) :
  CallsD Tryz.prog 167 #[.pointer (some p),.pointer (some q)] .returning w fun e u' w'=>e= .returned (.tuple #[])∧u'= .returning∧w'=w:=by
 refine callsD_of_wpS Tryz.func167 rfl fun c₀ cs hu=>?_;simp only [Tryz.ntmps167,List.size_toArray,List.length_cons,List.length_nil,Nat.reduceAdd,Nat.reduceSub,Array.replicate_succ,Array.replicate_zero,List.push_toArray,List.append_toArray,List.nil_append,List.cons_append];refine wpS_seq (wpS_region ?_);generalize hQ:Exit.thenS _ _=Q;simp [wpOpsS,go_sem,recoverD,hu]
 rw [← hQ];clear hQ;refine wpS_of_wp ?_;go_wp2_with fail
 cases c₀
 simp_all [bodyPostS,results,Tryz.results167]
theorem aP3 (b c:Nat) (s1 s2 s3 s4 s5 s6:ByteArray) (z er:Int) (w:World) (hb:ah w b #[.string s1,.string s2,.string s3,.string s4,.string s5,.string s6] 34) (hc:ah w c #[.int .i64 z] 43) :
  CallsD Tryz.prog 167 #[.pointer (some ⟨b,0,none⟩),.pointer (some ⟨c,0,none⟩)] (caught er false) w fun e u' w' =>
   e= .returned (.tuple #[])∧u'=caught er true∧ah w' b #[.string ⟨#[]⟩,.string ⟨#[]⟩,.string ⟨#[]⟩,.string ⟨#[]⟩,.string ⟨#[]⟩,.string ⟨#[]⟩] 34∧ah w' c #[.int .i64 er] 43∧∀ w0:World,w0.heap.size≤b→w0.heap.size≤c→Below w0.heap.size w0 w→Below w0.heap.size w0 w':=by
 unfold caught;refine callsD_of_wpS Tryz.func167 rfl fun c₀ cs hu=>?_;simp only [Tryz.ntmps167,List.size_toArray,List.length_cons,List.length_nil,Nat.reduceAdd,Nat.reduceSub,Array.replicate_succ,Array.replicate_zero,List.push_toArray,List.append_toArray,List.nil_append,List.cons_append];refine wpS_seq (wpS_region ?_);generalize hQ:Exit.thenS _ _=Q;simp [wpOpsS,go_sem,recoverD,hu]
 rw [← hQ];clear hQ;refine wpS_of_wp ?_;have cb:=hb.cell;have fb:=hb.free;have cc:=hc.cell;have fc:=hc.free;have lb:=hb.lt;have lc:=hc.lt;have hne:b≠c:=hb.ne hc zd;have hne2:c≠b:=fun e=>hne e.symm;have hta:=Co er;obtain ⟨R,HR⟩:∃ R:Ending→FrameMode→World→Prop,Hid (R=fun e u' w'=>e= .returned (.tuple #[])∧u'= .panicking [{ v:=.iface 43 (.int .i64 er),recovered:=true }]∧ah w' b #[.string ⟨#[]⟩,.string ⟨#[]⟩,.string ⟨#[]⟩,.string ⟨#[]⟩,.string ⟨#[]⟩,.string ⟨#[]⟩] 34∧ah w' c #[.int .i64 er] 43∧∀ w0:World,w0.heap.size≤b→w0.heap.size≤c→Below w0.heap.size w0 w→Below w0.heap.size w0 w'):=⟨_,zh rfl⟩
 rw [← HR.out];go_wp2_with fail
 simp only [bodyPostS];refine ⟨trivial,_,rfl,_,results_none rfl _ _ _,?_⟩;rw [HR.out];refine ⟨rfl,rfl,?_,?_,fun w0 h1 h2 h3=>?_⟩
 ·apply jB
  ·exact aJ
  ·simp only [List.setIfInBounds_toArray,List.set_cons_zero,List.set_cons_succ]
 ·apply jB
  ·exact aJ
  ·simp only [List.setIfInBounds_toArray,List.set_cons_zero,List.set_cons_succ]
 ·exact au
theorem RJ (p q:Addr) (w:World) :
  CallsD Tryz.prog 152 #[.pointer (some p),.pointer (some q)] .returning w fun e u' w'=>e= .returned (.tuple #[])∧u'= .returning∧w'=w:=by
 refine callsD_of_wpS Tryz.func152 rfl fun c₀ cs hu=>?_;simp only [Tryz.ntmps152,List.size_toArray,List.length_cons,List.length_nil,Nat.reduceAdd,Nat.reduceSub,Array.replicate_succ,Array.replicate_zero,List.push_toArray,List.append_toArray,List.nil_append,List.cons_append];refine wpS_seq (wpS_region ?_);generalize hQ:Exit.thenS _ _=Q;simp [wpOpsS,go_sem,recoverD,hu]
 rw [← hQ];clear hQ;refine wpS_of_wp ?_;go_wp2_with fail
 cases c₀
 simp_all [bodyPostS,results,Tryz.results152]
theorem aP5 (b c:Nat) (s1 s2 s3 s4 s5 s6:Int) (z er:Int) (w:World) (hb:ah w b #[.int .i64 s1,.int .i64 s2,.int .i64 s3,.int .i64 s4,.int .i64 s5,.int .i64 s6] 118) (hc:ah w c #[.int .i64 z] 43) :
  CallsD Tryz.prog 152 #[.pointer (some ⟨b,0,none⟩),.pointer (some ⟨c,0,none⟩)] (caught er false) w fun e u' w' =>
   e= .returned (.tuple #[])∧u'=caught er true∧ah w' b #[.int .i64 0,.int .i64 0,.int .i64 0,.int .i64 0,.int .i64 0,.int .i64 0] 118∧ah w' c #[.int .i64 er] 43∧∀ w0:World,w0.heap.size≤b→w0.heap.size≤c→Below w0.heap.size w0 w→Below w0.heap.size w0 w':=by
 unfold caught;refine callsD_of_wpS Tryz.func152 rfl fun c₀ cs hu=>?_;simp only [Tryz.ntmps152,List.size_toArray,List.length_cons,List.length_nil,Nat.reduceAdd,Nat.reduceSub,Array.replicate_succ,Array.replicate_zero,List.push_toArray,List.append_toArray,List.nil_append,List.cons_append];refine wpS_seq (wpS_region ?_);generalize hQ:Exit.thenS _ _=Q;simp [wpOpsS,go_sem,recoverD,hu]
 rw [← hQ];clear hQ;refine wpS_of_wp ?_;have cb:=hb.cell;have fb:=hb.free;have cc:=hc.cell;have fc:=hc.free;have lb:=hb.lt;have lc:=hc.lt;have hne:b≠c:=hb.ne hc zd;have hne2:c≠b:=fun e=>hne e.symm;have hta:=Co er;obtain ⟨R,HR⟩:∃ R:Ending→FrameMode→World→Prop,Hid (R=fun e u' w'=>e= .returned (.tuple #[])∧u'= .panicking [{ v:=.iface 43 (.int .i64 er),recovered:=true }]∧ah w' b #[.int .i64 0,.int .i64 0,.int .i64 0,.int .i64 0,.int .i64 0,.int .i64 0] 118∧ah w' c #[.int .i64 er] 43∧∀ w0:World,w0.heap.size≤b→w0.heap.size≤c→Below w0.heap.size w0 w→Below w0.heap.size w0 w'):=⟨_,zh rfl⟩
 rw [← HR.out];go_wp2_with fail
 simp only [bodyPostS];refine ⟨trivial,_,rfl,_,results_none rfl _ _ _,?_⟩;rw [HR.out];refine ⟨rfl,rfl,?_,?_,fun w0 h1 h2 h3=>?_⟩
 ·apply jB
  ·exact aJ
  ·simp only [List.setIfInBounds_toArray,List.set_cons_zero,List.set_cons_succ]
 ·apply jB
  ·exact aJ
  ·simp only [List.setIfInBounds_toArray,List.set_cons_zero,List.set_cons_succ]
 ·exact au
theorem gX {P:Program} {fn:Func} {w:World} {tmps:Array Value} {p q:Tmp} {ty Dw:TypeId} {g g2:Nat} {x y:Value} (h:fn.results=#[.cell p ty,.cell q Dw])
  (hp:tmps.getD p undef= .pointer (some ⟨g,0,none⟩)) (hq:tmps.getD q undef= .pointer (some ⟨g2,0,none⟩)) (h1:(loadVar ty ⟨g,0,none⟩).run P w= .ok x w) (h2:(loadVar Dw ⟨g2,0,none⟩).run P w= .ok y w) :
  (results fn tmps).run P w= .ok (.tuple #[x,y]) w:=by
 have hp':tmps[p]?.getD undef= .pointer (some ⟨g,0,none⟩):=by simpa using hp
 have hq':tmps[q]?.getD undef= .pointer (some ⟨g2,0,none⟩):=by simpa using hq
 simp [results,h,hp',hq',asAddr,h1,h2]
theorem nO {w:World} {c:Nat} {z:Int} (h:ah w c #[.int .i64 z] 43):(loadVar 43 ⟨c,0,none⟩).run Tryz.prog w= .ok (.int .i64 z) w:=by
 have hc:=h.cell 0;simp [go_sem,hc]
theorem aj2 {w:World} {b:Nat} {s1 s2 s3 s4 s5 s6:Int} (h:ah w b #[.int .i64 s1,.int .i64 s2,.int .i64 s3,.int .i64 s4,.int .i64 s5,.int .i64 s6] 42):(loadVar 42 ⟨b,0,none⟩).run Tryz.prog w= .ok (.agg #[.int .i64 s1,.int .i64 s2,.int .i64 s3,.int .i64 s4,.int .i64 s5,.int .i64 s6]) w :=
 run_loadVar_row w b 42 42 _ (0,0) _ h Tryz.underlying42 rfl zk
theorem IL {f:FuncId} {caps:Array Value} {k:Int} {s1 s2 s3 s4 s5 s6:Int} (w:World) (HC:∀ W,Below w.heap.size w W→Calls Tryz.prog f caps W (Try W (.agg #[.int .i64 s1,.int .i64 s2,.int .i64 s3,.int .i64 s4,.int .i64 s5,.int .i64 s6]) k))
  (hf:∀ args W,(callFunc f args).run Tryz.prog W= .ok (.enter f args) W) :
  Calls Tryz.prog 44 #[.func (.func f) #[] caps] w (DK w (.agg #[.int .i64 s1,.int .i64 s2,.int .i64 s3,.int .i64 s4,.int .i64 s5,.int .i64 s6]) (.agg #[.int .i64 0,.int .i64 0,.int .i64 0,.int .i64 0,.int .i64 0,.int .i64 0]) k):=by
 have hmf:∀ (fn:Fn) (first cap:Array Value) (w:World),(Instr.makeFunc fn first cap).run Tryz.prog w= .ok (.func fn first cap) w:=fun _ _ _ _=>rfl;have HCH:=zh HC;clear HC;have hb0:Below w.heap.size w ((w.alloc (.cells #[.int .i64 0,.int .i64 0,.int .i64 0,.int .i64 0,.int .i64 0,.int .i64 0] 42)).alloc (.cells #[.int .i64 0] 43)):=au;obtain ⟨w0,YK⟩:∃ y,(w.alloc (.cells #[.int .i64 0,.int .i64 0,.int .i64 0,.int .i64 0,.int .i64 0,.int .i64 0] 42)).alloc (.cells #[.int .i64 0] 43)=y:=⟨_,rfl⟩;have hx1:ah w0 w.heap.size #[.int .i64 0,.int .i64 0,.int .i64 0,.int .i64 0,.int .i64 0,.int .i64 0] 42:=by rw [← YK];exact aJ
 have hx2:ah w0 (w.heap.size+1) #[.int .i64 0] 43:=by rw [← YK];exact aJ
 rw [YK] at hb0
 go_enter_defers Tryz.func44,Tryz.ntmps44
 go_wp2_with fail
 refine (HCH.out _ hb0).mono ?_;rintro e w1 ⟨hb1,⟨rfl,rfl⟩|⟨h,rfl⟩⟩
 ·replace hx1:=hx1.later hb1;replace hx2:=hx2.later hb1;have c1:=hx1.cell;have f1:=hx1.free;have c2:=hx2.cell;have f2:=hx2.free;have hne:w.heap.size≠w.heap.size+1:=by omega
  have hx3:ah (((((((w1.setCell ⟨w.heap.size,0,none⟩ (.int .i64 s1)).setCell ⟨w.heap.size,1,none⟩ (.int .i64 s2)).setCell ⟨w.heap.size,2,none⟩ (.int .i64 s3)).setCell ⟨w.heap.size,3,none⟩ (.int .i64 s4)).setCell ⟨w.heap.size,4,none⟩ (.int .i64 s5)).setCell ⟨w.heap.size,5,none⟩ (.int .i64 s6)).setCell ⟨w.heap.size+1,0,none⟩ (.int .i64 0)) w.heap.size #[.int .i64 s1,.int .i64 s2,.int .i64 s3,.int .i64 s4,.int .i64 s5,.int .i64 s6] 42:=by
   apply jB
   ·exact aJ
   ·simp only [List.setIfInBounds_toArray,List.set_cons_zero,List.set_cons_succ]
  have hx4:ah (((((((w1.setCell ⟨w.heap.size,0,none⟩ (.int .i64 s1)).setCell ⟨w.heap.size,1,none⟩ (.int .i64 s2)).setCell ⟨w.heap.size,2,none⟩ (.int .i64 s3)).setCell ⟨w.heap.size,3,none⟩ (.int .i64 s4)).setCell ⟨w.heap.size,4,none⟩ (.int .i64 s5)).setCell ⟨w.heap.size,5,none⟩ (.int .i64 s6)).setCell ⟨w.heap.size+1,0,none⟩ (.int .i64 0)) (w.heap.size+1) #[.int .i64 0] 43:=by
   apply jB
   ·exact aJ
   ·simp only [List.setIfInBounds_toArray,List.set_cons_zero,List.set_cons_succ]
  have hbw:Below w.heap.size w (((((((w1.setCell ⟨w.heap.size,0,none⟩ (.int .i64 s1)).setCell ⟨w.heap.size,1,none⟩ (.int .i64 s2)).setCell ⟨w.heap.size,2,none⟩ (.int .i64 s3)).setCell ⟨w.heap.size,3,none⟩ (.int .i64 s4)).setCell ⟨w.heap.size,4,none⟩ (.int .i64 s5)).setCell ⟨w.heap.size,5,none⟩ (.int .i64 s6)).setCell ⟨w.heap.size+1,0,none⟩ (.int .i64 0)):=by
   have:=Bt hb0 hb1;exact au
  have HX3:=zh hx3;have HX4:=zh hx4;have HBW:=zh hbw;clear hx3 hx4 hbw YK hx1 hx2 hb0 hb1;go_wp2_with fail
  refine leaves_cons (f:=121) (args:=#[.pointer (some ⟨w.heap.size,0,none⟩),.pointer (some ⟨w.heap.size+1,0,none⟩)]) zi (by simp [go_sem]) ?_;refine (RG _ _ _).mono ?_;rintro e u' w'' ⟨rfl,rfl,rfl⟩;exact ⟨_,gX rfl rfl rfl (aj2 HX3.out) (nO HX4.out),HBW.out,.inl ⟨rfl,rfl⟩⟩
 ·replace hx1:=hx1.later hb1;replace hx2:=hx2.later hb1
  change bodyPostD _ _ _ (Exit.panic [{ v:=.iface 43 (.int .i64 k),recovered:=false }]) _ _
  refine leaves_cons (f:=121) (args:=#[.pointer (some ⟨w.heap.size,0,none⟩),.pointer (some ⟨w.heap.size+1,0,none⟩)]) zi (by simp [go_sem]) ?_;refine (aP4 w.heap.size (w.heap.size+1) _ _ _ _ _ _ _ k _ hx1 hx2).mono ?_;rintro e u' w'' ⟨rfl,rfl,hy1,hy2,hbb⟩;exact ⟨_,gX rfl rfl rfl (aj2 hy1) (nO hy2),hbb w (Nat.le_refl _) zo (Bt hb0 hb1),.inr ⟨h,rfl⟩⟩
theorem aj1 {w:World} {b:Nat} {s1 s2 s3 s4 s5 s6:ByteArray} (h:ah w b #[.string s1,.string s2,.string s3,.string s4,.string s5,.string s6] 34):(loadVar 34 ⟨b,0,none⟩).run Tryz.prog w= .ok (.agg #[.string s1,.string s2,.string s3,.string s4,.string s5,.string s6]) w :=
 run_loadVar_row w b 34 34 _ (0,0) _ h Tryz.underlying34 rfl zk
theorem yX {f:FuncId} {caps:Array Value} {k:Int} {s1 s2 s3 s4 s5 s6:ByteArray} (w:World) (HC:∀ W,Below w.heap.size w W→Calls Tryz.prog f caps W (Try W (.agg #[.string s1,.string s2,.string s3,.string s4,.string s5,.string s6]) k))
  (hf:∀ args W,(callFunc f args).run Tryz.prog W= .ok (.enter f args) W) :
  Calls Tryz.prog 80 #[.func (.func f) #[] caps] w (DK w (.agg #[.string s1,.string s2,.string s3,.string s4,.string s5,.string s6]) (.agg #[.string ⟨#[]⟩,.string ⟨#[]⟩,.string ⟨#[]⟩,.string ⟨#[]⟩,.string ⟨#[]⟩,.string ⟨#[]⟩]) k):=by
 have hmf:∀ (fn:Fn) (first cap:Array Value) (w:World),(Instr.makeFunc fn first cap).run Tryz.prog w= .ok (.func fn first cap) w:=fun _ _ _ _=>rfl;have HCH:=zh HC;clear HC;have hb0:Below w.heap.size w ((w.alloc (.cells #[.string ⟨#[]⟩,.string ⟨#[]⟩,.string ⟨#[]⟩,.string ⟨#[]⟩,.string ⟨#[]⟩,.string ⟨#[]⟩] 34)).alloc (.cells #[.int .i64 0] 43)):=au;obtain ⟨w0,YK⟩:∃ y,(w.alloc (.cells #[.string ⟨#[]⟩,.string ⟨#[]⟩,.string ⟨#[]⟩,.string ⟨#[]⟩,.string ⟨#[]⟩,.string ⟨#[]⟩] 34)).alloc (.cells #[.int .i64 0] 43)=y:=⟨_,rfl⟩;have hx1:ah w0 w.heap.size #[.string ⟨#[]⟩,.string ⟨#[]⟩,.string ⟨#[]⟩,.string ⟨#[]⟩,.string ⟨#[]⟩,.string ⟨#[]⟩] 34:=by rw [← YK];exact aJ
 have hx2:ah w0 (w.heap.size+1) #[.int .i64 0] 43:=by rw [← YK];exact aJ
 rw [YK] at hb0
 go_enter_defers Tryz.func80,Tryz.ntmps80
 go_wp2_with fail
 refine (HCH.out _ hb0).mono ?_;rintro e w1 ⟨hb1,⟨rfl,rfl⟩|⟨h,rfl⟩⟩
 ·replace hx1:=hx1.later hb1;replace hx2:=hx2.later hb1;have c1:=hx1.cell;have f1:=hx1.free;have c2:=hx2.cell;have f2:=hx2.free;have hne:w.heap.size≠w.heap.size+1:=by omega
  have hx3:ah (((((((w1.setCell ⟨w.heap.size,0,none⟩ (.string s1)).setCell ⟨w.heap.size,1,none⟩ (.string s2)).setCell ⟨w.heap.size,2,none⟩ (.string s3)).setCell ⟨w.heap.size,3,none⟩ (.string s4)).setCell ⟨w.heap.size,4,none⟩ (.string s5)).setCell ⟨w.heap.size,5,none⟩ (.string s6)).setCell ⟨w.heap.size+1,0,none⟩ (.int .i64 0)) w.heap.size #[.string s1,.string s2,.string s3,.string s4,.string s5,.string s6] 34:=by
   apply jB
   ·exact aJ
   ·simp only [List.setIfInBounds_toArray,List.set_cons_zero,List.set_cons_succ]
  have hx4:ah (((((((w1.setCell ⟨w.heap.size,0,none⟩ (.string s1)).setCell ⟨w.heap.size,1,none⟩ (.string s2)).setCell ⟨w.heap.size,2,none⟩ (.string s3)).setCell ⟨w.heap.size,3,none⟩ (.string s4)).setCell ⟨w.heap.size,4,none⟩ (.string s5)).setCell ⟨w.heap.size,5,none⟩ (.string s6)).setCell ⟨w.heap.size+1,0,none⟩ (.int .i64 0)) (w.heap.size+1) #[.int .i64 0] 43:=by
   apply jB
   ·exact aJ
   ·simp only [List.setIfInBounds_toArray,List.set_cons_zero,List.set_cons_succ]
  have hbw:Below w.heap.size w (((((((w1.setCell ⟨w.heap.size,0,none⟩ (.string s1)).setCell ⟨w.heap.size,1,none⟩ (.string s2)).setCell ⟨w.heap.size,2,none⟩ (.string s3)).setCell ⟨w.heap.size,3,none⟩ (.string s4)).setCell ⟨w.heap.size,4,none⟩ (.string s5)).setCell ⟨w.heap.size,5,none⟩ (.string s6)).setCell ⟨w.heap.size+1,0,none⟩ (.int .i64 0)):=by
   have:=Bt hb0 hb1;exact au
  have HX3:=zh hx3;have HX4:=zh hx4;have HBW:=zh hbw;clear hx3 hx4 hbw YK hx1 hx2 hb0 hb1;go_wp2_with fail
  refine leaves_cons (f:=167) (args:=#[.pointer (some ⟨w.heap.size,0,none⟩),.pointer (some ⟨w.heap.size+1,0,none⟩)]) zi (by simp [go_sem]) ?_;refine (Rz _ _ _).mono ?_;rintro e u' w'' ⟨rfl,rfl,rfl⟩;exact ⟨_,gX rfl rfl rfl (aj1 HX3.out) (nO HX4.out),HBW.out,.inl ⟨rfl,rfl⟩⟩
 ·replace hx1:=hx1.later hb1;replace hx2:=hx2.later hb1
  change bodyPostD _ _ _ (Exit.panic [{ v:=.iface 43 (.int .i64 k),recovered:=false }]) _ _
  refine leaves_cons (f:=167) (args:=#[.pointer (some ⟨w.heap.size,0,none⟩),.pointer (some ⟨w.heap.size+1,0,none⟩)]) zi (by simp [go_sem]) ?_;refine (aP3 w.heap.size (w.heap.size+1) _ _ _ _ _ _ _ k _ hx1 hx2).mono ?_;rintro e u' w'' ⟨rfl,rfl,hy1,hy2,hbb⟩;exact ⟨_,gX rfl rfl rfl (aj1 hy1) (nO hy2),hbb w (Nat.le_refl _) zo (Bt hb0 hb1),.inr ⟨h,rfl⟩⟩
theorem aj3 {w:World} {b:Nat} {s1 s2 s3 s4 s5 s6:Int} (h:ah w b #[.int .i64 s1,.int .i64 s2,.int .i64 s3,.int .i64 s4,.int .i64 s5,.int .i64 s6] 118):(loadVar 118 ⟨b,0,none⟩).run Tryz.prog w= .ok (.agg #[.int .i64 s1,.int .i64 s2,.int .i64 s3,.int .i64 s4,.int .i64 s5,.int .i64 s6]) w :=
 run_loadVar_row w b 118 118 _ (0,0) _ h Tryz.underlying118 rfl zk
theorem IQ {f:FuncId} {caps:Array Value} {k:Int} {s1 s2 s3 s4 s5 s6:Int} (w:World) (HC:∀ W,Below w.heap.size w W→Calls Tryz.prog f caps W (Try W (.agg #[.int .i64 s1,.int .i64 s2,.int .i64 s3,.int .i64 s4,.int .i64 s5,.int .i64 s6]) k))
  (hf:∀ args W,(callFunc f args).run Tryz.prog W= .ok (.enter f args) W) :
  Calls Tryz.prog 69 #[.func (.func f) #[] caps] w (DK w (.agg #[.int .i64 s1,.int .i64 s2,.int .i64 s3,.int .i64 s4,.int .i64 s5,.int .i64 s6]) (.agg #[.int .i64 0,.int .i64 0,.int .i64 0,.int .i64 0,.int .i64 0,.int .i64 0]) k):=by
 have hmf:∀ (fn:Fn) (first cap:Array Value) (w:World),(Instr.makeFunc fn first cap).run Tryz.prog w= .ok (.func fn first cap) w:=fun _ _ _ _=>rfl;have HCH:=zh HC;clear HC;have hb0:Below w.heap.size w ((w.alloc (.cells #[.int .i64 0,.int .i64 0,.int .i64 0,.int .i64 0,.int .i64 0,.int .i64 0] 118)).alloc (.cells #[.int .i64 0] 43)):=au;obtain ⟨w0,YK⟩:∃ y,(w.alloc (.cells #[.int .i64 0,.int .i64 0,.int .i64 0,.int .i64 0,.int .i64 0,.int .i64 0] 118)).alloc (.cells #[.int .i64 0] 43)=y:=⟨_,rfl⟩;have hx1:ah w0 w.heap.size #[.int .i64 0,.int .i64 0,.int .i64 0,.int .i64 0,.int .i64 0,.int .i64 0] 118:=by rw [← YK];exact aJ
 have hx2:ah w0 (w.heap.size+1) #[.int .i64 0] 43:=by rw [← YK];exact aJ
 rw [YK] at hb0
 go_enter_defers Tryz.func69,Tryz.ntmps69
 go_wp2_with fail
 refine (HCH.out _ hb0).mono ?_;rintro e w1 ⟨hb1,⟨rfl,rfl⟩|⟨h,rfl⟩⟩
 ·replace hx1:=hx1.later hb1;replace hx2:=hx2.later hb1;have c1:=hx1.cell;have f1:=hx1.free;have c2:=hx2.cell;have f2:=hx2.free;have hne:w.heap.size≠w.heap.size+1:=by omega
  have hx3:ah (((((((w1.setCell ⟨w.heap.size,0,none⟩ (.int .i64 s1)).setCell ⟨w.heap.size,1,none⟩ (.int .i64 s2)).setCell ⟨w.heap.size,2,none⟩ (.int .i64 s3)).setCell ⟨w.heap.size,3,none⟩ (.int .i64 s4)).setCell ⟨w.heap.size,4,none⟩ (.int .i64 s5)).setCell ⟨w.heap.size,5,none⟩ (.int .i64 s6)).setCell ⟨w.heap.size+1,0,none⟩ (.int .i64 0)) w.heap.size #[.int .i64 s1,.int .i64 s2,.int .i64 s3,.int .i64 s4,.int .i64 s5,.int .i64 s6] 118:=by
   apply jB
   ·exact aJ
   ·simp only [List.setIfInBounds_toArray,List.set_cons_zero,List.set_cons_succ]
  have hx4:ah (((((((w1.setCell ⟨w.heap.size,0,none⟩ (.int .i64 s1)).setCell ⟨w.heap.size,1,none⟩ (.int .i64 s2)).setCell ⟨w.heap.size,2,none⟩ (.int .i64 s3)).setCell ⟨w.heap.size,3,none⟩ (.int .i64 s4)).setCell ⟨w.heap.size,4,none⟩ (.int .i64 s5)).setCell ⟨w.heap.size,5,none⟩ (.int .i64 s6)).setCell ⟨w.heap.size+1,0,none⟩ (.int .i64 0)) (w.heap.size+1) #[.int .i64 0] 43:=by
   apply jB
   ·exact aJ
   ·simp only [List.setIfInBounds_toArray,List.set_cons_zero,List.set_cons_succ]
  have hbw:Below w.heap.size w (((((((w1.setCell ⟨w.heap.size,0,none⟩ (.int .i64 s1)).setCell ⟨w.heap.size,1,none⟩ (.int .i64 s2)).setCell ⟨w.heap.size,2,none⟩ (.int .i64 s3)).setCell ⟨w.heap.size,3,none⟩ (.int .i64 s4)).setCell ⟨w.heap.size,4,none⟩ (.int .i64 s5)).setCell ⟨w.heap.size,5,none⟩ (.int .i64 s6)).setCell ⟨w.heap.size+1,0,none⟩ (.int .i64 0)):=by
   have:=Bt hb0 hb1;exact au
  have HX3:=zh hx3;have HX4:=zh hx4;have HBW:=zh hbw;clear hx3 hx4 hbw YK hx1 hx2 hb0 hb1;go_wp2_with fail
  refine leaves_cons (f:=152) (args:=#[.pointer (some ⟨w.heap.size,0,none⟩),.pointer (some ⟨w.heap.size+1,0,none⟩)]) zi (by simp [go_sem]) ?_;refine (RJ _ _ _).mono ?_;rintro e u' w'' ⟨rfl,rfl,rfl⟩;exact ⟨_,gX rfl rfl rfl (aj3 HX3.out) (nO HX4.out),HBW.out,.inl ⟨rfl,rfl⟩⟩
 ·replace hx1:=hx1.later hb1;replace hx2:=hx2.later hb1
  change bodyPostD _ _ _ (Exit.panic [{ v:=.iface 43 (.int .i64 k),recovered:=false }]) _ _
  refine leaves_cons (f:=152) (args:=#[.pointer (some ⟨w.heap.size,0,none⟩),.pointer (some ⟨w.heap.size+1,0,none⟩)]) zi (by simp [go_sem]) ?_;refine (aP5 w.heap.size (w.heap.size+1) _ _ _ _ _ _ _ k _ hx1 hx2).mono ?_;rintro e u' w'' ⟨rfl,rfl,hy1,hy2,hbb⟩;exact ⟨_,gX rfl rfl rfl (aj3 hy1) (nO hy2),hbb w (Nat.le_refl _) zo (Bt hb0 hb1),.inr ⟨h,rfl⟩⟩
end Go.Proofs.lab
namespace Go.Proofs.lab
open Go Go.RowKit Go.SW Go.Num Go.Mem Go.Proofs Go.eF Go.Fx
theorem az7 {P:Program} {f:FuncId} {args:Array Value} {w:World} {v z:Value} {k:Int} (C:Calls P f args w (DK w v z k)) (h:k=0):Calls P f args w (fun e w'=>e= .returned (.tuple #[v,.int .i64 0])∧Below w.heap.size w w'):=C.mono fun _ _ ⟨hb,hh⟩=>by
 rcases hh with ⟨-, rfl⟩|⟨hk, -⟩
 ·exact ⟨rfl,hb⟩
 ·exact absurd h hk
theorem aO0 {P:Program} {f:FuncId} {args:Array Value} {w:World} {v z:Value} {k:Int} (C:Calls P f args w (DK w v z k)) (h:k≠0):Calls P f args w (fun e w'=>e= .returned (.tuple #[z,.int .i64 k])∧Below w.heap.size w w'):=C.mono fun _ _ ⟨hb,hh⟩=>by
 rcases hh with ⟨hk, -⟩|⟨-, rfl⟩
 ·exact absurd hk h
 ·exact ⟨rfl,hb⟩
theorem Ay {P:Program} {f:FuncId} {args:Array Value} {w:World} {u v z:Value} {k:Int} (C:Calls P f args w (DK w v z k)) (h:(k=0∧u=v)∨(k≠0∧u=z)):Calls P f args w (fun e w'=>e= .returned (.tuple #[u,.int .i64 k])∧Below w.heap.size w w'):=C.mono fun _ _ ⟨hb,hh⟩=>by
 rcases h with ⟨h1,rfl⟩|⟨h1,rfl⟩<;>rcases hh with ⟨h2,rfl⟩|⟨h2,rfl⟩
 ·exact ⟨by rw [h1],hb⟩
 ·exact absurd h1 h2
 ·exact absurd h2 h1
 ·exact ⟨rfl,hb⟩
theorem kg {α:Type} {c k:Int} {z v:α} {r:α × Int} (hx:dM (if c≠0 then (z,c) else r) v k) (H:(!(c == 0))=true):c=k∧k≠0:=by
 have h:c≠0:=by simpa using H
 have e:c=k:=(dM.pos hx h).1;exact ⟨e,e ▸ h⟩
theorem wN {α:Type} {c k:Int} {z v:α} {r:α × Int} (hx:dM (if c≠0 then (z,c) else r) v k) (H:(!(c == 0))=false):dM r v k:=dM.neg hx (by simpa using H)
def rD (t:light.jl):Int:=if Cn t.x≠0 then Cn t.x else if Cn t.y≠0 then Cn t.y else Cn t.z
def sM (b:Int × Int):Int:=if aL.dA b.1 b.2 then 0 else 30
def qL (l:(Int × Int) × (Int × Int) × (Int × Int)):Int:=if sM l.1≠0 then sM l.1 else if sM l.2.1≠0 then sM l.2.1 else sM l.2.2
theorem mW (s1 s2 s3 s4 s5 s6:ByteArray) (w:World):Calls Tryz.prog 79 #[.agg #[.string s1,.string s2,.string s3,.string s4,.string s5,.string s6]] w (fun e w'=>e= .returned (.int .i64 (rD ⟨⟨s1,s2⟩,⟨s3,s4⟩,⟨s5,s6⟩⟩))∧Below w.heap.size w w'):=by
 have K0:∀ W,Calls Tryz.prog 166 #[.agg #[.string s1,.string s2]] W (fun e w'=>e= .returned (.int .i64 (Cn ⟨s1,s2⟩))∧Below W.heap.size W w'):=fun W=>dF.kK ⟨s1,s2⟩ W;have K1:∀ W,Calls Tryz.prog 166 #[.agg #[.string s3,.string s4]] W (fun e w'=>e= .returned (.int .i64 (Cn ⟨s3,s4⟩))∧Below W.heap.size W w'):=fun W=>dF.kK ⟨s3,s4⟩ W;have K2:∀ W,Calls Tryz.prog 166 #[.agg #[.string s5,.string s6]] W (fun e w'=>e= .returned (.int .i64 (Cn ⟨s5,s6⟩))∧Below W.heap.size W w'):=fun W=>dF.kK ⟨s5,s6⟩ W;have e:rD ⟨⟨s1,s2⟩,⟨s3,s4⟩,⟨s5,s6⟩⟩=if Cn ⟨s1,s2⟩≠0 then Cn ⟨s1,s2⟩ else if Cn ⟨s3,s4⟩≠0 then Cn ⟨s3,s4⟩ else Cn ⟨s5,s6⟩:=rfl
 rw [e];generalize Cn ⟨s1,s2⟩=k0 at *;generalize Cn ⟨s3,s4⟩=k1 at *;generalize Cn ⟨s5,s6⟩=k2 at *;clear e;refine Fx.door Tryz.func79 rfl (.nil w []) ?_;refine Fx.new [] 1 #[.string s1,.string s2,.string s3,.string s4,.string s5,.string s6] 34 [] [] fun fF=>?_;refine Fx.aP [3,1] 4 32 [(6,.agg #[.string s1,.string s2,.string s3,.string s4,.string s5,.string s6]),(7,.int .i64 0),(9,.agg #[.string s1,.string s2])] [] fun dZ=>?_;refine Fx.aV [4,4] 11 [] [(1,#[.string s1,.string s2])] K0 ?_;refine Fx.part 7 [] [(13,.bool (!(k0 == 0))),(5,.int .i64 k0)] [] ?_;refine Fx.splitB (fun H1=>?_) (fun H1=>?_)
 ·skip
  exact Fx.yQ (v:=.int .i64 k0) [1] [] (fun W M=>by have HB:=M.below;exact ⟨by simp_all,HB⟩)
 ·skip
  refine Fx.aP [2,1] 4 32 [(7,.int .i64 1),(9,.agg #[.string s3,.string s4])] [] fun gP=>?_;refine Fx.aV [5,5] 11 [] [(2,#[.string s3,.string s4])] K1 ?_;refine Fx.part 7 [] [(13,.bool (!(k1 == 0))),(5,.int .i64 k1)] [] ?_;refine Fx.splitB (fun H2=>?_) (fun H2=>?_)
  ·skip
   exact Fx.yQ (v:=.int .i64 k1) [1] [] (fun W M=>by have HB:=M.below;exact ⟨by simp_all,HB⟩)
  ·skip
   refine Fx.aP [2,1] 4 32 [(7,.int .i64 2),(9,.agg #[.string s5,.string s6])] [] fun AV=>?_;refine Fx.aV [6,6] 11 [] [(3,#[.string s5,.string s6])] K2 ?_;refine Fx.part 7 [] [(13,.bool (!(k2 == 0))),(5,.int .i64 k2)] [] ?_;refine Fx.splitB (fun H3=>?_) (fun H3=>?_)
   ·skip
    exact Fx.yQ (v:=.int .i64 k2) [1] [] (fun W M=>by have HB:=M.below;exact ⟨by simp_all,HB⟩)
   ·skip
    exact Fx.yQ (v:=.int .i64 0) [2,2] [] (fun W M=>by have HB:=M.below;exact ⟨by simp_all,HB⟩)
theorem AZ (s1 s2 s3 s4 s5 s6:Int) (w:World):Calls Tryz.prog 68 #[.agg #[.int .i64 s1,.int .i64 s2,.int .i64 s3,.int .i64 s4,.int .i64 s5,.int .i64 s6]] w (fun e w'=>e= .returned (.int .i64 (qL ((s1,s2),(s3,s4),(s5,s6))))∧Below w.heap.size w w'):=by
 have K0:∀ W,Calls Tryz.prog 151 #[.agg #[.int .i64 s1,.int .i64 s2]] W (fun e w'=>e= .returned (.int .i64 (sM (s1,s2)))∧Below W.heap.size W w'):=fun W=>by unfold sM;exact aL.iQ s1 s2 W
 have K1:∀ W,Calls Tryz.prog 151 #[.agg #[.int .i64 s3,.int .i64 s4]] W (fun e w'=>e= .returned (.int .i64 (sM (s3,s4)))∧Below W.heap.size W w'):=fun W=>by unfold sM;exact aL.iQ s3 s4 W
 have K2:∀ W,Calls Tryz.prog 151 #[.agg #[.int .i64 s5,.int .i64 s6]] W (fun e w'=>e= .returned (.int .i64 (sM (s5,s6)))∧Below W.heap.size W w'):=fun W=>by unfold sM;exact aL.iQ s5 s6 W
 have e:qL ((s1,s2),(s3,s4),(s5,s6))=if sM (s1,s2)≠0 then sM (s1,s2) else if sM (s3,s4)≠0 then sM (s3,s4) else sM (s5,s6):=rfl
 rw [e];generalize sM (s1,s2)=k0 at *;generalize sM (s3,s4)=k1 at *;generalize sM (s5,s6)=k2 at *;clear e;refine Fx.door Tryz.func68 rfl (.nil w []) ?_;refine Fx.new [] 1 #[.int .i64 s1,.int .i64 s2,.int .i64 s3,.int .i64 s4,.int .i64 s5,.int .i64 s6] 42 [] [] fun fF=>?_;refine Fx.aP [3,1] 4 40 [(6,.agg #[.int .i64 s1,.int .i64 s2,.int .i64 s3,.int .i64 s4,.int .i64 s5,.int .i64 s6]),(7,.int .i64 0),(9,.agg #[.int .i64 s1,.int .i64 s2])] [] fun dZ=>?_;refine Fx.aV [4,4] 11 [] [(1,#[.int .i64 s1,.int .i64 s2])] K0 ?_;refine Fx.part 7 [] [(13,.bool (!(k0 == 0))),(5,.int .i64 k0)] [] ?_;refine Fx.splitB (fun H1=>?_) (fun H1=>?_)
 ·skip
  exact Fx.yQ (v:=.int .i64 k0) [1] [] (fun W M=>by have HB:=M.below;exact ⟨by simp_all,HB⟩)
 ·skip
  refine Fx.aP [2,1] 4 40 [(7,.int .i64 1),(9,.agg #[.int .i64 s3,.int .i64 s4])] [] fun gP=>?_;refine Fx.aV [5,5] 11 [] [(2,#[.int .i64 s3,.int .i64 s4])] K1 ?_;refine Fx.part 7 [] [(13,.bool (!(k1 == 0))),(5,.int .i64 k1)] [] ?_;refine Fx.splitB (fun H2=>?_) (fun H2=>?_)
  ·skip
   exact Fx.yQ (v:=.int .i64 k1) [1] [] (fun W M=>by have HB:=M.below;exact ⟨by simp_all,HB⟩)
  ·skip
   refine Fx.aP [2,1] 4 40 [(7,.int .i64 2),(9,.agg #[.int .i64 s5,.int .i64 s6])] [] fun AV=>?_;refine Fx.aV [6,6] 11 [] [(3,#[.int .i64 s5,.int .i64 s6])] K2 ?_;refine Fx.part 7 [] [(13,.bool (!(k2 == 0))),(5,.int .i64 k2)] [] ?_;refine Fx.splitB (fun H3=>?_) (fun H3=>?_)
   ·skip
    exact Fx.yQ (v:=.int .i64 k2) [1] [] (fun W M=>by have HB:=M.below;exact ⟨by simp_all,HB⟩)
   ·skip
    exact Fx.yQ (v:=.int .i64 0) [2,2] [] (fun W M=>by have HB:=M.below;exact ⟨by simp_all,HB⟩)
def nM (t:light.jl) (w:light.jl):((Int × Int) × (Int × Int) × (Int × Int)) × Int:=if light.vL t≠0 then (z3,light.vL t) else if light.nY w≠0 then (z3,light.nY w) else Ak t w
theorem aC4 {a1 a2 a3 a4 a5 a6:ByteArray} {b1 b2 b3 b4 b5 b6:ByteArray} {x1 x2 x3 x4 x5 x6:Int} {k:Int} (hx:dM (nM ⟨⟨a1,a2⟩,⟨a3,a4⟩,⟨a5,a6⟩⟩ ⟨⟨b1,b2⟩,⟨b3,b4⟩,⟨b5,b6⟩⟩) ((x1,x2),(x3,x4),(x5,x6)) k) (w:World) (ht:fM.Pow w) (he:whole.Er w) :
  Calls Tryz.prog 14 #[.agg #[.string a1,.string a2,.string a3,.string a4,.string a5,.string a6],.agg #[.string b1,.string b2,.string b3,.string b4,.string b5,.string b6]] w (DK w (.agg #[.int .i64 x1,.int .i64 x2,.int .i64 x3,.int .i64 x4,.int .i64 x5,.int .i64 x6]) (.agg #[.int .i64 0,.int .i64 0,.int .i64 0,.int .i64 0,.int .i64 0,.int .i64 0]) k):=by
 have K1:∀ W,Calls Tryz.prog 42 #[.agg #[.string a1,.string a2,.string a3,.string a4,.string a5,.string a6]] W (fun e w'=>e= .returned (.int .i64 (light.vL ⟨⟨a1,a2⟩,⟨a3,a4⟩,⟨a5,a6⟩⟩))∧Below W.heap.size W w'):=fun W=>light.iQ ⟨⟨a1,a2⟩,⟨a3,a4⟩,⟨a5,a6⟩⟩ W;have K2:∀ W,Calls Tryz.prog 43 #[.agg #[.string b1,.string b2,.string b3,.string b4,.string b5,.string b6]] W (fun e w'=>e= .returned (.int .i64 (light.nY ⟨⟨b1,b2⟩,⟨b3,b4⟩,⟨b5,b6⟩⟩))∧Below W.heap.size W w'):=fun W=>light.wX ⟨⟨b1,b2⟩,⟨b3,b4⟩,⟨b5,b6⟩⟩ W;have e0:nM ⟨⟨a1,a2⟩,⟨a3,a4⟩,⟨a5,a6⟩⟩ ⟨⟨b1,b2⟩,⟨b3,b4⟩,⟨b5,b6⟩⟩=if light.vL ⟨⟨a1,a2⟩,⟨a3,a4⟩,⟨a5,a6⟩⟩≠0 then (z3,light.vL ⟨⟨a1,a2⟩,⟨a3,a4⟩,⟨a5,a6⟩⟩) else if light.nY ⟨⟨b1,b2⟩,⟨b3,b4⟩,⟨b5,b6⟩⟩≠0 then (z3,light.nY ⟨⟨b1,b2⟩,⟨b3,b4⟩,⟨b5,b6⟩⟩) else Ak ⟨⟨a1,a2⟩,⟨a3,a4⟩,⟨a5,a6⟩⟩ ⟨⟨b1,b2⟩,⟨b3,b4⟩,⟨b5,b6⟩⟩:=rfl
 rw [e0] at hx;generalize light.vL ⟨⟨a1,a2⟩,⟨a3,a4⟩,⟨a5,a6⟩⟩=c at *;generalize light.nY ⟨⟨b1,b2⟩,⟨b3,b4⟩,⟨b5,b6⟩⟩=d at *;clear e0
 obtain ⟨g1,g2,g3,g4,g5,g6,hg⟩:∃ g1 g2 g3 g4 g5 g6:Int,(k=0∧Value.agg #[.int .i64 g1,.int .i64 g2,.int .i64 g3,.int .i64 g4,.int .i64 g5,.int .i64 g6]= .agg #[.int .i64 x1,.int .i64 x2,.int .i64 x3,.int .i64 x4,.int .i64 x5,.int .i64 x6])∨(k≠0∧Value.agg #[.int .i64 g1,.int .i64 g2,.int .i64 g3,.int .i64 g4,.int .i64 g5,.int .i64 g6]= .agg #[.int .i64 0,.int .i64 0,.int .i64 0,.int .i64 0,.int .i64 0,.int .i64 0]):=by
  by_cases h:k=0
  ·exact ⟨_,_,_,_,_,_,.inl ⟨h,rfl⟩⟩
  ·exact ⟨_,_,_,_,_,_,.inr ⟨h,rfl⟩⟩
 refine Fx.door Tryz.func14 rfl (.nil w []) ?_;refine Fx.new [] 2 #[.string a1,.string a2,.string a3,.string a4,.string a5,.string a6] 34 [] [] fun fF=>?_;refine Fx.new [] 3 #[.string b1,.string b2,.string b3,.string b4,.string b5,.string b6] 34 [] [] fun dZ=>?_;refine Fx.aP [] 4 42 [] [] fun gP=>?_;refine Fx.aV [3] 9 [] [] K1 ?_;refine Fx.part 7 [] [(11,.bool (!(c == 0))),(6,.int .i64 c)] [] ?_;refine Fx.splitB (fun H1=>?_) (fun H1=>?_)
 ·skip
  exact Fx.dL (cs:=#[.int .i64 0,.int .i64 0,.int .i64 0,.int .i64 0,.int .i64 0,.int .i64 0]) (y:=.int .i64 c) 2 gP [1,5] [(2,#[.int .i64 0,.int .i64 0,.int .i64 0,.int .i64 0,.int .i64 0,.int .i64 0])] (fun W M=>by have HB:=M.below;first|(obtain ⟨rfl,h⟩:=kg hx H1;exact ⟨HB,.inr ⟨h,rfl⟩⟩)|(obtain ⟨rfl,h⟩:=kg (wN hx H1) H2;exact ⟨HB,.inr ⟨h,rfl⟩⟩)|exact ⟨HB,hg.imp (fun h=>⟨h.1,by rw [h.2,h.1]⟩) fun h=>⟨h.1,by rw [h.2]⟩⟩)
 ·skip
  refine Fx.aV [2,4] 15 [] [] K2 ?_;refine Fx.part 7 [] [(17,.bool (!(d == 0))),(7,.int .i64 d)] [] ?_;refine Fx.splitB (fun H2=>?_) (fun H2=>?_)
  ·skip
   exact Fx.dL (cs:=#[.int .i64 0,.int .i64 0,.int .i64 0,.int .i64 0,.int .i64 0,.int .i64 0]) (y:=.int .i64 d) 2 gP [1,5] [(2,#[.int .i64 0,.int .i64 0,.int .i64 0,.int .i64 0,.int .i64 0,.int .i64 0])] (fun W M=>by have HB:=M.below;first|(obtain ⟨rfl,h⟩:=kg hx H1;exact ⟨HB,.inr ⟨h,rfl⟩⟩)|(obtain ⟨rfl,h⟩:=kg (wN hx H1) H2;exact ⟨HB,.inr ⟨h,rfl⟩⟩)|exact ⟨HB,hg.imp (fun h=>⟨h.1,by rw [h.2,h.1]⟩) fun h=>⟨h.1,by rw [h.2]⟩⟩)
  ·skip
   refine Fx.call [2] 21 [] [] (fun W M=>Ay (IL (k:=k) W (fun V hV=>ad5 (wN (wN hx H1) H2) V ((M.box (b:=fF) 0).later hV) ((M.box (b:=dZ) 1).later hV) (ht.later (Bt M.below hV)) (he.later (Bt M.below hV))) (fun args W=>by kernel_rfl)) hg) ?_;exact Fx.dL (cs:=#[.int .i64 g1,.int .i64 g2,.int .i64 g3,.int .i64 g4,.int .i64 g5,.int .i64 g6]) (y:=.int .i64 k) 2 gP [5] [(2,#[.int .i64 g1,.int .i64 g2,.int .i64 g3,.int .i64 g4,.int .i64 g5,.int .i64 g6])] (fun W M=>by have HB:=M.below;first|(obtain ⟨rfl,h⟩:=kg hx H1;exact ⟨HB,.inr ⟨h,rfl⟩⟩)|(obtain ⟨rfl,h⟩:=kg (wN hx H1) H2;exact ⟨HB,.inr ⟨h,rfl⟩⟩)|exact ⟨HB,hg.imp (fun h=>⟨h.1,by rw [h.2,h.1]⟩) fun h=>⟨h.1,by rw [h.2]⟩⟩)
def tZ (t:light.jl) (w:light.jl):light.jl × Int:=if rD t≠0 then (t0,rD t) else if light.nY w≠0 then (t0,light.nY w) else LA t w
theorem ac6 {a1 a2 a3 a4 a5 a6:ByteArray} {b1 b2 b3 b4 b5 b6:ByteArray} {x1 x2 x3 x4 x5 x6:ByteArray} {k:Int} (hx:dM (tZ ⟨⟨a1,a2⟩,⟨a3,a4⟩,⟨a5,a6⟩⟩ ⟨⟨b1,b2⟩,⟨b3,b4⟩,⟨b5,b6⟩⟩) ⟨⟨x1,x2⟩,⟨x3,x4⟩,⟨x5,x6⟩⟩ k) (w:World) (ht:fM.Pow w) (he:whole.Er w) :
  Calls Tryz.prog 32 #[.agg #[.string a1,.string a2,.string a3,.string a4,.string a5,.string a6],.agg #[.string b1,.string b2,.string b3,.string b4,.string b5,.string b6]] w (DK w (.agg #[.string x1,.string x2,.string x3,.string x4,.string x5,.string x6]) (.agg #[.string ⟨#[]⟩,.string ⟨#[]⟩,.string ⟨#[]⟩,.string ⟨#[]⟩,.string ⟨#[]⟩,.string ⟨#[]⟩]) k):=by
 have K1:∀ W,Calls Tryz.prog 79 #[.agg #[.string a1,.string a2,.string a3,.string a4,.string a5,.string a6]] W (fun e w'=>e= .returned (.int .i64 (rD ⟨⟨a1,a2⟩,⟨a3,a4⟩,⟨a5,a6⟩⟩))∧Below W.heap.size W w'):=fun W=>mW a1 a2 a3 a4 a5 a6 W;have K2:∀ W,Calls Tryz.prog 43 #[.agg #[.string b1,.string b2,.string b3,.string b4,.string b5,.string b6]] W (fun e w'=>e= .returned (.int .i64 (light.nY ⟨⟨b1,b2⟩,⟨b3,b4⟩,⟨b5,b6⟩⟩))∧Below W.heap.size W w'):=fun W=>light.wX ⟨⟨b1,b2⟩,⟨b3,b4⟩,⟨b5,b6⟩⟩ W;have e0:tZ ⟨⟨a1,a2⟩,⟨a3,a4⟩,⟨a5,a6⟩⟩ ⟨⟨b1,b2⟩,⟨b3,b4⟩,⟨b5,b6⟩⟩=if rD ⟨⟨a1,a2⟩,⟨a3,a4⟩,⟨a5,a6⟩⟩≠0 then (t0,rD ⟨⟨a1,a2⟩,⟨a3,a4⟩,⟨a5,a6⟩⟩) else if light.nY ⟨⟨b1,b2⟩,⟨b3,b4⟩,⟨b5,b6⟩⟩≠0 then (t0,light.nY ⟨⟨b1,b2⟩,⟨b3,b4⟩,⟨b5,b6⟩⟩) else LA ⟨⟨a1,a2⟩,⟨a3,a4⟩,⟨a5,a6⟩⟩ ⟨⟨b1,b2⟩,⟨b3,b4⟩,⟨b5,b6⟩⟩:=rfl
 rw [e0] at hx;generalize rD ⟨⟨a1,a2⟩,⟨a3,a4⟩,⟨a5,a6⟩⟩=c at *;generalize light.nY ⟨⟨b1,b2⟩,⟨b3,b4⟩,⟨b5,b6⟩⟩=d at *;clear e0
 obtain ⟨g1,g2,g3,g4,g5,g6,hg⟩:∃ g1 g2 g3 g4 g5 g6:ByteArray,(k=0∧Value.agg #[.string g1,.string g2,.string g3,.string g4,.string g5,.string g6]= .agg #[.string x1,.string x2,.string x3,.string x4,.string x5,.string x6])∨(k≠0∧Value.agg #[.string g1,.string g2,.string g3,.string g4,.string g5,.string g6]= .agg #[.string ⟨#[]⟩,.string ⟨#[]⟩,.string ⟨#[]⟩,.string ⟨#[]⟩,.string ⟨#[]⟩,.string ⟨#[]⟩]):=by
  by_cases h:k=0
  ·exact ⟨_,_,_,_,_,_,.inl ⟨h,rfl⟩⟩
  ·exact ⟨_,_,_,_,_,_,.inr ⟨h,rfl⟩⟩
 refine Fx.door Tryz.func32 rfl (.nil w []) ?_;refine Fx.new [] 2 #[.string a1,.string a2,.string a3,.string a4,.string a5,.string a6] 34 [] [] fun fF=>?_;refine Fx.new [] 3 #[.string b1,.string b2,.string b3,.string b4,.string b5,.string b6] 34 [] [] fun dZ=>?_;refine Fx.aP [] 4 34 [] [] fun gP=>?_;refine Fx.aV [3] 9 [] [] K1 ?_;refine Fx.part 7 [] [(11,.bool (!(c == 0))),(6,.int .i64 c)] [] ?_;refine Fx.splitB (fun H1=>?_) (fun H1=>?_)
 ·skip
  exact Fx.dL (cs:=#[.string ⟨#[]⟩,.string ⟨#[]⟩,.string ⟨#[]⟩,.string ⟨#[]⟩,.string ⟨#[]⟩,.string ⟨#[]⟩]) (y:=.int .i64 c) 2 gP [1,5] [(2,#[.string ⟨#[]⟩,.string ⟨#[]⟩,.string ⟨#[]⟩,.string ⟨#[]⟩,.string ⟨#[]⟩,.string ⟨#[]⟩])] (fun W M=>by have HB:=M.below;first|(obtain ⟨rfl,h⟩:=kg hx H1;exact ⟨HB,.inr ⟨h,rfl⟩⟩)|(obtain ⟨rfl,h⟩:=kg (wN hx H1) H2;exact ⟨HB,.inr ⟨h,rfl⟩⟩)|exact ⟨HB,hg.imp (fun h=>⟨h.1,by rw [h.2,h.1]⟩) fun h=>⟨h.1,by rw [h.2]⟩⟩)
 ·skip
  refine Fx.aV [2,4] 15 [] [] K2 ?_;refine Fx.part 7 [] [(17,.bool (!(d == 0))),(7,.int .i64 d)] [] ?_;refine Fx.splitB (fun H2=>?_) (fun H2=>?_)
  ·skip
   exact Fx.dL (cs:=#[.string ⟨#[]⟩,.string ⟨#[]⟩,.string ⟨#[]⟩,.string ⟨#[]⟩,.string ⟨#[]⟩,.string ⟨#[]⟩]) (y:=.int .i64 d) 2 gP [1,5] [(2,#[.string ⟨#[]⟩,.string ⟨#[]⟩,.string ⟨#[]⟩,.string ⟨#[]⟩,.string ⟨#[]⟩,.string ⟨#[]⟩])] (fun W M=>by have HB:=M.below;first|(obtain ⟨rfl,h⟩:=kg hx H1;exact ⟨HB,.inr ⟨h,rfl⟩⟩)|(obtain ⟨rfl,h⟩:=kg (wN hx H1) H2;exact ⟨HB,.inr ⟨h,rfl⟩⟩)|exact ⟨HB,hg.imp (fun h=>⟨h.1,by rw [h.2,h.1]⟩) fun h=>⟨h.1,by rw [h.2]⟩⟩)
  ·skip
   refine Fx.call [2] 21 [] [] (fun W M=>Ay (yX (k:=k) W (fun V hV=>Vo (wN (wN hx H1) H2) V ((M.box (b:=fF) 0).later hV) ((M.box (b:=dZ) 1).later hV) (ht.later (Bt M.below hV))) (fun args W=>by kernel_rfl)) hg) ?_;exact Fx.dL (cs:=#[.string g1,.string g2,.string g3,.string g4,.string g5,.string g6]) (y:=.int .i64 k) 2 gP [5] [(2,#[.string g1,.string g2,.string g3,.string g4,.string g5,.string g6])] (fun W M=>by have HB:=M.below;first|(obtain ⟨rfl,h⟩:=kg hx H1;exact ⟨HB,.inr ⟨h,rfl⟩⟩)|(obtain ⟨rfl,h⟩:=kg (wN hx H1) H2;exact ⟨HB,.inr ⟨h,rfl⟩⟩)|exact ⟨HB,hg.imp (fun h=>⟨h.1,by rw [h.2,h.1]⟩) fun h=>⟨h.1,by rw [h.2]⟩⟩)
def wW (t:(Int × Int) × (Int × Int) × (Int × Int)) (w:light.jl):((Int × Int) × (Int × Int) × (Int × Int)) × Int:=if qL t≠0 then (z3,qL t) else if light.nY w≠0 then (z3,light.nY w) else ap6 t.1 t.2.1 t.2.2 w
theorem aR7 {a1 a2 a3 a4 a5 a6:Int} {b1 b2 b3 b4 b5 b6:ByteArray} {x1 x2 x3 x4 x5 x6:Int} {k:Int} (hx:dM (wW ((a1,a2),(a3,a4),(a5,a6)) ⟨⟨b1,b2⟩,⟨b3,b4⟩,⟨b5,b6⟩⟩) ((x1,x2),(x3,x4),(x5,x6)) k) (w:World) (ht:fM.Pow w) (he:whole.Er w) :
  Calls Tryz.prog 34 #[.agg #[.int .i64 a1,.int .i64 a2,.int .i64 a3,.int .i64 a4,.int .i64 a5,.int .i64 a6],.agg #[.string b1,.string b2,.string b3,.string b4,.string b5,.string b6]] w (DK w (.agg #[.int .i64 x1,.int .i64 x2,.int .i64 x3,.int .i64 x4,.int .i64 x5,.int .i64 x6]) (.agg #[.int .i64 0,.int .i64 0,.int .i64 0,.int .i64 0,.int .i64 0,.int .i64 0]) k):=by
 have K1:∀ W,Calls Tryz.prog 68 #[.agg #[.int .i64 a1,.int .i64 a2,.int .i64 a3,.int .i64 a4,.int .i64 a5,.int .i64 a6]] W (fun e w'=>e= .returned (.int .i64 (qL ((a1,a2),(a3,a4),(a5,a6))))∧Below W.heap.size W w'):=fun W=>AZ a1 a2 a3 a4 a5 a6 W;have K2:∀ W,Calls Tryz.prog 43 #[.agg #[.string b1,.string b2,.string b3,.string b4,.string b5,.string b6]] W (fun e w'=>e= .returned (.int .i64 (light.nY ⟨⟨b1,b2⟩,⟨b3,b4⟩,⟨b5,b6⟩⟩))∧Below W.heap.size W w'):=fun W=>light.wX ⟨⟨b1,b2⟩,⟨b3,b4⟩,⟨b5,b6⟩⟩ W;have e0:wW ((a1,a2),(a3,a4),(a5,a6)) ⟨⟨b1,b2⟩,⟨b3,b4⟩,⟨b5,b6⟩⟩=if qL ((a1,a2),(a3,a4),(a5,a6))≠0 then (z3,qL ((a1,a2),(a3,a4),(a5,a6))) else if light.nY ⟨⟨b1,b2⟩,⟨b3,b4⟩,⟨b5,b6⟩⟩≠0 then (z3,light.nY ⟨⟨b1,b2⟩,⟨b3,b4⟩,⟨b5,b6⟩⟩) else ap6 (a1,a2) (a3,a4) (a5,a6) ⟨⟨b1,b2⟩,⟨b3,b4⟩,⟨b5,b6⟩⟩:=rfl
 rw [e0] at hx;generalize qL ((a1,a2),(a3,a4),(a5,a6))=c at *;generalize light.nY ⟨⟨b1,b2⟩,⟨b3,b4⟩,⟨b5,b6⟩⟩=d at *;clear e0
 obtain ⟨g1,g2,g3,g4,g5,g6,hg⟩:∃ g1 g2 g3 g4 g5 g6:Int,(k=0∧Value.agg #[.int .i64 g1,.int .i64 g2,.int .i64 g3,.int .i64 g4,.int .i64 g5,.int .i64 g6]= .agg #[.int .i64 x1,.int .i64 x2,.int .i64 x3,.int .i64 x4,.int .i64 x5,.int .i64 x6])∨(k≠0∧Value.agg #[.int .i64 g1,.int .i64 g2,.int .i64 g3,.int .i64 g4,.int .i64 g5,.int .i64 g6]= .agg #[.int .i64 0,.int .i64 0,.int .i64 0,.int .i64 0,.int .i64 0,.int .i64 0]):=by
  by_cases h:k=0
  ·exact ⟨_,_,_,_,_,_,.inl ⟨h,rfl⟩⟩
  ·exact ⟨_,_,_,_,_,_,.inr ⟨h,rfl⟩⟩
 refine Fx.door Tryz.func34 rfl (.nil w []) ?_;refine Fx.new [] 2 #[.int .i64 a1,.int .i64 a2,.int .i64 a3,.int .i64 a4,.int .i64 a5,.int .i64 a6] 42 [] [] fun fF=>?_;refine Fx.new [] 3 #[.string b1,.string b2,.string b3,.string b4,.string b5,.string b6] 34 [] [] fun dZ=>?_;refine Fx.aP [] 4 42 [] [] fun gP=>?_;refine Fx.aV [3] 9 [] [] K1 ?_;refine Fx.part 7 [] [(11,.bool (!(c == 0))),(6,.int .i64 c)] [] ?_;refine Fx.splitB (fun H1=>?_) (fun H1=>?_)
 ·skip
  exact Fx.dL (cs:=#[.int .i64 0,.int .i64 0,.int .i64 0,.int .i64 0,.int .i64 0,.int .i64 0]) (y:=.int .i64 c) 2 gP [1,5] [(2,#[.int .i64 0,.int .i64 0,.int .i64 0,.int .i64 0,.int .i64 0,.int .i64 0])] (fun W M=>by have HB:=M.below;first|(obtain ⟨rfl,h⟩:=kg hx H1;exact ⟨HB,.inr ⟨h,rfl⟩⟩)|(obtain ⟨rfl,h⟩:=kg (wN hx H1) H2;exact ⟨HB,.inr ⟨h,rfl⟩⟩)|exact ⟨HB,hg.imp (fun h=>⟨h.1,by rw [h.2,h.1]⟩) fun h=>⟨h.1,by rw [h.2]⟩⟩)
 ·skip
  refine Fx.aV [2,4] 15 [] [] K2 ?_;refine Fx.part 7 [] [(17,.bool (!(d == 0))),(7,.int .i64 d)] [] ?_;refine Fx.splitB (fun H2=>?_) (fun H2=>?_)
  ·skip
   exact Fx.dL (cs:=#[.int .i64 0,.int .i64 0,.int .i64 0,.int .i64 0,.int .i64 0,.int .i64 0]) (y:=.int .i64 d) 2 gP [1,5] [(2,#[.int .i64 0,.int .i64 0,.int .i64 0,.int .i64 0,.int .i64 0,.int .i64 0])] (fun W M=>by have HB:=M.below;first|(obtain ⟨rfl,h⟩:=kg hx H1;exact ⟨HB,.inr ⟨h,rfl⟩⟩)|(obtain ⟨rfl,h⟩:=kg (wN hx H1) H2;exact ⟨HB,.inr ⟨h,rfl⟩⟩)|exact ⟨HB,hg.imp (fun h=>⟨h.1,by rw [h.2,h.1]⟩) fun h=>⟨h.1,by rw [h.2]⟩⟩)
  ·skip
   refine Fx.call [2] 21 [] [] (fun W M=>Ay (IL (k:=k) W (fun V hV=>aC1 (wN (wN hx H1) H2) V ((M.box (b:=fF) 0).later hV) ((M.box (b:=dZ) 1).later hV) (ht.later (Bt M.below hV)) (he.later (Bt M.below hV))) (fun args W=>by kernel_rfl)) hg) ?_;exact Fx.dL (cs:=#[.int .i64 g1,.int .i64 g2,.int .i64 g3,.int .i64 g4,.int .i64 g5,.int .i64 g6]) (y:=.int .i64 k) 2 gP [5] [(2,#[.int .i64 g1,.int .i64 g2,.int .i64 g3,.int .i64 g4,.int .i64 g5,.int .i64 g6])] (fun W M=>by have HB:=M.below;first|(obtain ⟨rfl,h⟩:=kg hx H1;exact ⟨HB,.inr ⟨h,rfl⟩⟩)|(obtain ⟨rfl,h⟩:=kg (wN hx H1) H2;exact ⟨HB,.inr ⟨h,rfl⟩⟩)|exact ⟨HB,hg.imp (fun h=>⟨h.1,by rw [h.2,h.1]⟩) fun h=>⟨h.1,by rw [h.2]⟩⟩)
def an4 (t:light.jl):light.jl × Int:=if rD t≠0 then (t0,rD t) else encI t
theorem ar9 {a1 a2 a3 a4 a5 a6 x1 x2 x3 x4 x5 x6:ByteArray} {k:Int} (hx:dM (an4 ⟨⟨a1,a2⟩,⟨a3,a4⟩,⟨a5,a6⟩⟩) ⟨⟨x1,x2⟩,⟨x3,x4⟩,⟨x5,x6⟩⟩ k) (w:World) (ht:fM.Pow w) :
  Calls Tryz.prog 25 #[.agg #[.string a1,.string a2,.string a3,.string a4,.string a5,.string a6]] w (DK w (.agg #[.string x1,.string x2,.string x3,.string x4,.string x5,.string x6]) (.agg #[.string ⟨#[]⟩,.string ⟨#[]⟩,.string ⟨#[]⟩,.string ⟨#[]⟩,.string ⟨#[]⟩,.string ⟨#[]⟩]) k):=by
 have K1:∀ W,Calls Tryz.prog 79 #[.agg #[.string a1,.string a2,.string a3,.string a4,.string a5,.string a6]] W (fun e w'=>e= .returned (.int .i64 (rD ⟨⟨a1,a2⟩,⟨a3,a4⟩,⟨a5,a6⟩⟩))∧Below W.heap.size W w'):=fun W=>mW a1 a2 a3 a4 a5 a6 W;have e0:an4 ⟨⟨a1,a2⟩,⟨a3,a4⟩,⟨a5,a6⟩⟩=if rD ⟨⟨a1,a2⟩,⟨a3,a4⟩,⟨a5,a6⟩⟩≠0 then (t0,rD ⟨⟨a1,a2⟩,⟨a3,a4⟩,⟨a5,a6⟩⟩) else encI ⟨⟨a1,a2⟩,⟨a3,a4⟩,⟨a5,a6⟩⟩:=rfl
 rw [e0] at hx;generalize rD ⟨⟨a1,a2⟩,⟨a3,a4⟩,⟨a5,a6⟩⟩=c at *;clear e0
 obtain ⟨g1,g2,g3,g4,g5,g6,hg⟩:∃ g1 g2 g3 g4 g5 g6:ByteArray,(k=0∧Value.agg #[.string g1,.string g2,.string g3,.string g4,.string g5,.string g6]= .agg #[.string x1,.string x2,.string x3,.string x4,.string x5,.string x6])∨(k≠0∧Value.agg #[.string g1,.string g2,.string g3,.string g4,.string g5,.string g6]= .agg #[.string ⟨#[]⟩,.string ⟨#[]⟩,.string ⟨#[]⟩,.string ⟨#[]⟩,.string ⟨#[]⟩,.string ⟨#[]⟩]):=by
  by_cases h:k=0
  ·exact ⟨_,_,_,_,_,_,.inl ⟨h,rfl⟩⟩
  ·exact ⟨_,_,_,_,_,_,.inr ⟨h,rfl⟩⟩
 refine Fx.door Tryz.func25 rfl (.nil w []) ?_;refine Fx.new [] 1 #[.string a1,.string a2,.string a3,.string a4,.string a5,.string a6] 34 [] [] fun fF=>?_;refine Fx.aP [] 2 34 [] [] fun dZ=>?_;refine Fx.aV [3] 6 [] [] K1 ?_;refine Fx.part 7 [] [(8,.bool (!(c == 0))),(4,.int .i64 c)] [] ?_;refine Fx.splitB (fun H1=>?_) (fun H1=>?_)
 ·skip
  exact Fx.dL (cs:=#[.string ⟨#[]⟩,.string ⟨#[]⟩,.string ⟨#[]⟩,.string ⟨#[]⟩,.string ⟨#[]⟩,.string ⟨#[]⟩]) (y:=.int .i64 c) 1 dZ [1,4] [(1,#[.string ⟨#[]⟩,.string ⟨#[]⟩,.string ⟨#[]⟩,.string ⟨#[]⟩,.string ⟨#[]⟩,.string ⟨#[]⟩])] (fun W M=>by have HB:=M.below;first|(obtain ⟨rfl,h⟩:=kg hx H1;exact ⟨HB,.inr ⟨h,rfl⟩⟩)|exact ⟨HB,hg.imp (fun h=>⟨h.1,by rw [h.2,h.1]⟩) fun h=>⟨h.1,by rw [h.2]⟩⟩)
 ·skip
  refine Fx.call [2] 12 [] [] (fun W M=>Ay (yX (k:=k) W (fun V hV=>aO5 (wN hx H1) V ((M.box (b:=fF) 0).later hV) (ht.later (Bt M.below hV))) (fun args W=>by kernel_rfl)) hg) ?_;exact Fx.dL (cs:=#[.string g1,.string g2,.string g3,.string g4,.string g5,.string g6]) (y:=.int .i64 k) 1 dZ [4] [(1,#[.string g1,.string g2,.string g3,.string g4,.string g5,.string g6])] (fun W M=>by have HB:=M.below;first|(obtain ⟨rfl,h⟩:=kg hx H1;exact ⟨HB,.inr ⟨h,rfl⟩⟩)|exact ⟨HB,hg.imp (fun h=>⟨h.1,by rw [h.2,h.1]⟩) fun h=>⟨h.1,by rw [h.2]⟩⟩)
def ao2 (t:light.jl):light.jl × Int:=if rD t≠0 then (t0,rD t) else ao1 t
theorem as3 {a1 a2 a3 a4 a5 a6 x1 x2 x3 x4 x5 x6:ByteArray} {k:Int} (hx:dM (ao2 ⟨⟨a1,a2⟩,⟨a3,a4⟩,⟨a5,a6⟩⟩) ⟨⟨x1,x2⟩,⟨x3,x4⟩,⟨x5,x6⟩⟩ k) (w:World) (ht:fM.Pow w) :
  Calls Tryz.prog 27 #[.agg #[.string a1,.string a2,.string a3,.string a4,.string a5,.string a6]] w (DK w (.agg #[.string x1,.string x2,.string x3,.string x4,.string x5,.string x6]) (.agg #[.string ⟨#[]⟩,.string ⟨#[]⟩,.string ⟨#[]⟩,.string ⟨#[]⟩,.string ⟨#[]⟩,.string ⟨#[]⟩]) k):=by
 have K1:∀ W,Calls Tryz.prog 79 #[.agg #[.string a1,.string a2,.string a3,.string a4,.string a5,.string a6]] W (fun e w'=>e= .returned (.int .i64 (rD ⟨⟨a1,a2⟩,⟨a3,a4⟩,⟨a5,a6⟩⟩))∧Below W.heap.size W w'):=fun W=>mW a1 a2 a3 a4 a5 a6 W;have e0:ao2 ⟨⟨a1,a2⟩,⟨a3,a4⟩,⟨a5,a6⟩⟩=if rD ⟨⟨a1,a2⟩,⟨a3,a4⟩,⟨a5,a6⟩⟩≠0 then (t0,rD ⟨⟨a1,a2⟩,⟨a3,a4⟩,⟨a5,a6⟩⟩) else ao1 ⟨⟨a1,a2⟩,⟨a3,a4⟩,⟨a5,a6⟩⟩:=rfl
 rw [e0] at hx;generalize rD ⟨⟨a1,a2⟩,⟨a3,a4⟩,⟨a5,a6⟩⟩=c at *;clear e0
 obtain ⟨g1,g2,g3,g4,g5,g6,hg⟩:∃ g1 g2 g3 g4 g5 g6:ByteArray,(k=0∧Value.agg #[.string g1,.string g2,.string g3,.string g4,.string g5,.string g6]= .agg #[.string x1,.string x2,.string x3,.string x4,.string x5,.string x6])∨(k≠0∧Value.agg #[.string g1,.string g2,.string g3,.string g4,.string g5,.string g6]= .agg #[.string ⟨#[]⟩,.string ⟨#[]⟩,.string ⟨#[]⟩,.string ⟨#[]⟩,.string ⟨#[]⟩,.string ⟨#[]⟩]):=by
  by_cases h:k=0
  ·exact ⟨_,_,_,_,_,_,.inl ⟨h,rfl⟩⟩
  ·exact ⟨_,_,_,_,_,_,.inr ⟨h,rfl⟩⟩
 refine Fx.door Tryz.func27 rfl (.nil w []) ?_;refine Fx.new [] 1 #[.string a1,.string a2,.string a3,.string a4,.string a5,.string a6] 34 [] [] fun fF=>?_;refine Fx.aP [] 2 34 [] [] fun dZ=>?_;refine Fx.aV [3] 6 [] [] K1 ?_;refine Fx.part 7 [] [(8,.bool (!(c == 0))),(4,.int .i64 c)] [] ?_;refine Fx.splitB (fun H1=>?_) (fun H1=>?_)
 ·skip
  exact Fx.dL (cs:=#[.string ⟨#[]⟩,.string ⟨#[]⟩,.string ⟨#[]⟩,.string ⟨#[]⟩,.string ⟨#[]⟩,.string ⟨#[]⟩]) (y:=.int .i64 c) 1 dZ [1,4] [(1,#[.string ⟨#[]⟩,.string ⟨#[]⟩,.string ⟨#[]⟩,.string ⟨#[]⟩,.string ⟨#[]⟩,.string ⟨#[]⟩])] (fun W M=>by have HB:=M.below;first|(obtain ⟨rfl,h⟩:=kg hx H1;exact ⟨HB,.inr ⟨h,rfl⟩⟩)|exact ⟨HB,hg.imp (fun h=>⟨h.1,by rw [h.2,h.1]⟩) fun h=>⟨h.1,by rw [h.2]⟩⟩)
 ·skip
  refine Fx.call [2] 12 [] [] (fun W M=>Ay (yX (k:=k) W (fun V hV=>aO9 (wN hx H1) V ((M.box (b:=fF) 0).later hV) (ht.later (Bt M.below hV))) (fun args W=>by kernel_rfl)) hg) ?_;exact Fx.dL (cs:=#[.string g1,.string g2,.string g3,.string g4,.string g5,.string g6]) (y:=.int .i64 k) 1 dZ [4] [(1,#[.string g1,.string g2,.string g3,.string g4,.string g5,.string g6])] (fun W M=>by have HB:=M.below;first|(obtain ⟨rfl,h⟩:=kg hx H1;exact ⟨HB,.inr ⟨h,rfl⟩⟩)|exact ⟨HB,hg.imp (fun h=>⟨h.1,by rw [h.2,h.1]⟩) fun h=>⟨h.1,by rw [h.2]⟩⟩)
end Go.Proofs.lab
