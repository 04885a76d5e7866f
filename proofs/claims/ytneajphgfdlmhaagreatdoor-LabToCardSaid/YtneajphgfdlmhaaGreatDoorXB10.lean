/- Lemmas for the proof. No condition. -/
import Derived.Test.YtneajphgfdlmhaaGreatDoorXB01
import Derived.Test.YtneajphgfdlmhaaGreatDoorXB02
import Derived.Test.YtneajphgfdlmhaaGreatDoorXB03
import Derived.Test.YtneajphgfdlmhaaGreatDoorXB05
import Derived.Test.YtneajphgfdlmhaaGreatDoorXB06
import Derived.Test.YtneajphgfdlmhaaGreatDoorXB07
import Derived.Test.YtneajphgfdlmhaaGreatDoorXB09
import Derived.RegionTactic
import Derived.Laws.StructEq
set_option linter.unusedVariables false
set_option linter.unusedSimpArgs false
set_option maxRecDepth 100000
set_option maxHeartbeats 16000000
namespace Go.Proofs.aC
open Go Go.RowKit Go.SW Go.Num Go.Mem Go.Proofs Go.Dec Go.Proofs.au Go.fF
theorem Dl (z:Int):∃ (s:ByteArray) (k:Int),YT z= .tuple #[.string s,.int .i64 k]∧((jd z.natAbs=true∧k=0∧s=⟨(Lib.itoa z).toArray⟩)∨(jd z.natAbs=false∧k=6)):=by
 unfold YT
 by_cases h:jd z.natAbs=true
 ·rw [if_pos h];exact ⟨_,_,rfl,.inl ⟨h,rfl,rfl⟩⟩
 ·rw [if_neg h];exact ⟨_,_,rfl,.inr ⟨by simpa using h,rfl⟩⟩
def qK (w:World) (x:Fr × Int) (e:Ending) (w':World):Prop:=e= .returned (Fr.res x)∧Below w.heap.size w w'
theorem vC (x:Value) (q:Rat) (w:World) (hx:Ra w x q) (h1:sz 10000 q.num.natAbs≤1073741824) (h2:sz 10000 q.den≤1073741824) :
  Calls Tryz.prog 133 #[x] w (qK w (wr q)):=by
 obtain ⟨bn,pn,ln,cn,bd,pd,ld,cd,rfl,NN,ND⟩:=hx;obtain ⟨s1,k1,e1,c1⟩:=Dl q.num;obtain ⟨s2,k2,e2,c2⟩:=Dl (q.den:Int);have H1:=zh (fun W (hb:Below w.heap.size w W)=>au.vC _ q.num W (NN.later hb) h1);have H2:=zh (fun W (hb:Below w.heap.size w W)=>au.vC _ (q.den:Int) W (ND.later hb) (by simpa using h2));rw [e1] at H1;rw [e2] at H2
 have hw:wr q=if k1=0∧k2=0 then (⟨s1,s2⟩,0) else (Fr.no,6):=by
  unfold wr vL;rw [Int.natAbs_natCast] at c2
  rcases c1 with ⟨a1,a2,a3⟩|⟨a1,a2⟩<;>rcases c2 with ⟨b1,b2,b3⟩|⟨b1,b2⟩<;>subst a2<;>subst b2<;>rw [a1,b1]
  ·subst a3;subst b3;rfl
  ·rfl
  ·rfl
  ·rfl
 rw [hw];have d1:k1=0∨k1=6:=c1.elim (fun h=>.inl h.2.1) (fun h=>.inr h.2);have d2:k2=0∨k2=6:=c2.elim (fun h=>.inl h.2.1) (fun h=>.inr h.2);clear hw e1 e2 c1 c2 h1 h2 NN ND
 rcases d1 with rfl|rfl<;>rcases d2 with rfl|rfl
 ·rw [if_pos ⟨rfl,rfl⟩];go_enter Tryz.func133,Tryz.ntmps133
  go_wp2_with fail
  obtain ⟨jN,EW,hz,X1,X2⟩:=Gj w #[.bool bn,.slice pn ln cn,.bool bd,.slice pd ld cd] 163 #[.string ⟨#[]⟩,.string ⟨#[]⟩] 32;rw [EW];have hk2:=Bt (Below.refl _ _) hz;clear EW hz;refine (H1.out _ hk2).mono ?_;rintro e kE ⟨rfl,hb3⟩;replace X1:=X1.bl hb3;replace X2:=X2.bl hb3;have hk5:=Bt hk2 hb3;clear hk2;clear hb3;obtain ⟨jV,jU,lJ⟩:=X1.clf;go_wp2_with fail
  clear jV jU lJ;refine (H2.out _ hk5).mono ?_;rintro e wK ⟨rfl,hb6⟩;replace X1:=X1.bl hb6;replace X2:=X2.bl hb6;have Pb:=Bt hk5 hb6;clear hk5;clear hb6;obtain ⟨tH,tF,xI⟩:=X2.clf;have hres:=X2.out;have xK:=hres.cell;have xH:=hres.free;go_wp2_with fail
  refine aM rfl rfl aJ Tryz.underlying32 rfl zk ?_;exact ⟨rfl,aD⟩
 ·rw [if_neg zo];go_enter Tryz.func133,Tryz.ntmps133
  go_wp2_with fail
  obtain ⟨jN,EW,hz,X1,X2⟩:=Gj w #[.bool bn,.slice pn ln cn,.bool bd,.slice pd ld cd] 163 #[.string ⟨#[]⟩,.string ⟨#[]⟩] 32;rw [EW];have hk2:=Bt (Below.refl _ _) hz;clear EW hz;refine (H1.out _ hk2).mono ?_;rintro e kE ⟨rfl,hb3⟩;replace X1:=X1.bl hb3;replace X2:=X2.bl hb3;have hk5:=Bt hk2 hb3;clear hk2;clear hb3;obtain ⟨jV,jU,lJ⟩:=X1.clf;go_wp2_with fail
  clear jV jU lJ;refine (H2.out _ hk5).mono ?_;rintro e wK ⟨rfl,hb6⟩;replace X1:=X1.bl hb6;replace X2:=X2.bl hb6;have Pb:=Bt hk5 hb6;clear hk5;clear hb6;obtain ⟨tH,tF,xI⟩:=X2.clf;have hres:=X2.out;have xK:=hres.cell;have xH:=hres.free;go_wp2_with fail
  refine aM rfl rfl aJ Tryz.underlying32 rfl zk ?_;exact ⟨rfl,aD⟩
 ·rw [if_neg zo];go_enter Tryz.func133,Tryz.ntmps133
  go_wp2_with fail
  obtain ⟨jN,EW,hz,X1,X2⟩:=Gj w #[.bool bn,.slice pn ln cn,.bool bd,.slice pd ld cd] 163 #[.string ⟨#[]⟩,.string ⟨#[]⟩] 32;rw [EW];have hk2:=Bt (Below.refl _ _) hz;clear EW hz;refine (H1.out _ hk2).mono ?_;rintro e kE ⟨rfl,hb3⟩;replace X1:=X1.bl hb3;replace X2:=X2.bl hb3;have hk5:=Bt hk2 hb3;clear hk2;clear hb3;obtain ⟨jV,jU,lJ⟩:=X1.clf;go_wp2_with fail
  clear jV jU lJ;refine (H2.out _ hk5).mono ?_;rintro e wK ⟨rfl,hb6⟩;replace X1:=X1.bl hb6;replace X2:=X2.bl hb6;have Pb:=Bt hk5 hb6;clear hk5;clear hb6;obtain ⟨tH,tF,xI⟩:=X2.clf;have hres:=X2.out;have xK:=hres.cell;have xH:=hres.free;go_wp2_with fail
  refine aM rfl rfl aJ Tryz.underlying32 rfl zk ?_;exact ⟨rfl,aD⟩
 ·rw [if_neg zo];go_enter Tryz.func133,Tryz.ntmps133
  go_wp2_with fail
  obtain ⟨jN,EW,hz,X1,X2⟩:=Gj w #[.bool bn,.slice pn ln cn,.bool bd,.slice pd ld cd] 163 #[.string ⟨#[]⟩,.string ⟨#[]⟩] 32;rw [EW];have hk2:=Bt (Below.refl _ _) hz;clear EW hz;refine (H1.out _ hk2).mono ?_;rintro e kE ⟨rfl,hb3⟩;replace X1:=X1.bl hb3;replace X2:=X2.bl hb3;have hk5:=Bt hk2 hb3;clear hk2;clear hb3;obtain ⟨jV,jU,lJ⟩:=X1.clf;go_wp2_with fail
  clear jV jU lJ;refine (H2.out _ hk5).mono ?_;rintro e wK ⟨rfl,hb6⟩;replace X1:=X1.bl hb6;replace X2:=X2.bl hb6;have Pb:=Bt hk5 hb6;clear hk5;clear hb6;obtain ⟨tH,tF,xI⟩:=X2.clf;have hres:=X2.out;have xK:=hres.cell;have xH:=hres.free;go_wp2_with fail
  refine aM rfl rfl aJ Tryz.underlying32 rfl zk ?_;exact ⟨rfl,aD⟩
theorem xD {n d:Int} (hd:d≠0):((n:Rat) / (d:Rat)).num.natAbs≤n.natAbs∧((n:Rat) / (d:Rat)).den≤d.natAbs:=by
 have key:∀ n d:Int,0<d→((n:Rat) / (d:Rat)).num.natAbs≤n.natAbs∧((n:Rat) / (d:Rat)).den≤d.natAbs:=fun n d hd=>by
  obtain ⟨e1,e2⟩:=Ae (n:=n) hd;have g1:=Nat.gcd_dvd_left n.natAbs d.natAbs;have g2:=Nat.gcd_dvd_right n.natAbs d.natAbs;have g0:0<Nat.gcd n.natAbs d.natAbs:=Nat.gcd_pos_of_pos_right _ zo;generalize Nat.gcd n.natAbs d.natAbs=g at *;generalize ((n:Rat) / (d:Rat))=q at *;obtain ⟨a,ha⟩:=g1;obtain ⟨b,hb⟩:=g2
  have h1:n=(g:Int)*(if 0≤n then (a:Int) else -(a:Int)):=by
   have:=congrArg (fun x:Nat=>(x:Int)) ha;simp only [Int.natCast_mul] at this;split
   ·omega
   ·rw [Int.mul_neg];omega
  have h2:d=(g:Int)*(b:Int):=by
   have:=congrArg (fun x:Nat=>(x:Int)) hb;simp only [Int.natCast_mul] at this;omega
  have h3:n / (g:Int)=(if 0≤n then (a:Int) else -(a:Int)):=by
   conv=>lhs;rw [h1]
   exact Int.mul_ediv_cancel_left _ zo
  have h4:d / (g:Int)=(b:Int):=by
   rw [h2];exact Int.mul_ediv_cancel_left _ zo
  rw [h3] at e1;rw [h4] at e2;have k1:a≤g*a:=Nat.le_mul_of_pos_left _ g0;have k2:b≤g*b:=Nat.le_mul_of_pos_left _ g0;refine ⟨?_,?_⟩
  ·rw [e1,ha];split<;>simp<;>exact k1
  ·rw [hb];have:q.den=b:=by exact_mod_cast e2
   omega
 by_cases h:0<d
 ·exact key n d h
 ·have:=key (-n) (-d) zo;rw [show ((-n:Int):Rat) / ((-d:Int):Rat)=(n:Rat) / (d:Rat) by rw [Rat.intCast_neg,Rat.intCast_neg,Rat.div_def,Rat.div_def];grind,Int.natAbs_neg,Int.natAbs_neg] at this;exact this
theorem JD {n:Int} (h1: -9223372036854775808≤n) (h2:n≤9223372036854775807):sz 10000 n.natAbs≤5 :=
 aR zo 5 _ zo
theorem rD (n d:Int) (h1: -9223372036854775808≤n) (h2:n≤9223372036854775807) (h3: -9223372036854775808≤d) (h4:d≤9223372036854775807) (hd:d≠0) (w:World) :
  Calls Tryz.prog 197 #[.int .i64 n,.int .i64 d] w (jM w ((n:Rat) / (d:Rat))):=by
 have H1:=zh (fun W=>iQ n W h1 h2);have H2:=zh (fun W=>iQ d W h3 h4);have H3:=zh (fun x y W hx hy=>wD x y n d W hx hy (Nat.le_trans (JD h1 h2) zo) (Nat.le_trans (JD h3 h4) zo) hd);generalize (n:Rat) / (d:Rat)=q at *;clear h1 h2 h3 h4 hd;go_enter Tryz.func197,Tryz.ntmps197
 go_wp2_with fail
 obtain ⟨jN,EW,hz,X1⟩:=wO w #[.bool false,.slice none 0 0,.bool false,.slice none 0 0] 163;rw [EW];have hk2:=Bt (Below.refl _ _) hz;clear EW hz;refine (H1.out _).mono ?_;rintro e kE ⟨v,rfl,hb3,hv4⟩;obtain ⟨bA,je,lA,jG,rfl⟩:=hv4.agg;replace X1:=X1.bl hb3;have hk5:=Bt hk2 hb3;clear hk2;have NA:=zh hv4;clear hb3 hv4;go_wp2_with fail
 refine (H2.out _).mono ?_;rintro e wK ⟨v,rfl,hb6,hv7⟩;obtain ⟨bB,nK,lB,nN,rfl⟩:=hv7.agg;replace X1:=X1.bl hb6;replace NA:=zh (NA.out.later hb6);have Pb:=Bt hk5 hb6;clear hk5;have NB:=zh hv7;clear hb6 hv7;go_wp2_with fail
 refine (H3.out _ _ _ NA.out NB.out).mono ?_;rintro e wc9 ⟨_,rfl,tT,bn,pn,ln,cn,bd,pd,ld,cd,rfl,hn,hd⟩;replace X1:=X1.bl tT;replace NA:=zh (NA.out.later tT);replace NB:=zh (NB.out.later tT);have bj5:=Bt Pb tT;clear Pb;have NX:=zh hn;have NY:=zh hd;clear tT hd hn;obtain ⟨jV,jU,lJ⟩:=X1.clf;have hres:=X1.out;have xK:=hres.cell;have xH:=hres.free;go_wp2_with fail
 refine dH rfl rfl aJ Tryz.underlying163 rfl zk ?_;have hx:=Pl.GR NX.out hres zd (.bool bn) (.slice pn ln cn) (.bool bd) (.slice pd ld cd);have hy:=Pl.GR NY.out hres zd (.bool bn) (.slice pn ln cn) (.bool bd) (.slice pd ld cd);exact ⟨_,rfl,aD,_,_,_,_,_,_,_,_,rfl,hx,hy⟩
end Go.Proofs.aC
namespace Go.Proofs.aC
open Go Go.RowKit Go.SW Go.Num Go.Mem Go.Proofs Go.Dec Go.Proofs.au Go.fF Go.Fx
theorem CV {n k:Nat} (h:sz 1000000000 n≤k):sz 10000 n≤3*k:=by
 refine aR zo _ _ ?_;have h1:=iq (B:=1000000000) zo n;have h2:(1000000000:Nat)^sz 1000000000 n≤1000000000^k:=Nat.pow_le_pow_right zo h;have h3:(1000000000:Nat)^k≤(10000^3)^k:=Nat.pow_le_pow_left zd k;rw [Nat.pow_mul];omega
theorem rR (q:Rat):q=(q.num:Rat) / ((q.den:Int):Rat):=by
 have:=Rat.mkRat_self q;rw [Rat.mkRat_eq_div] at this;exact this.symm
theorem IG (q:Rat):((q.den:Int):Rat)≠0:=fun e=>by
 have h:(q.den:Int)=0:=by exact_mod_cast e
 have:=q.den_pos;omega
theorem ag5 (p q:Rat):((p.num*q.num:Int):Rat) / (((p.den:Int)*(q.den:Int):Int):Rat)=p*q:=by
 have h1:=rR p;have h2:=rR q;have d1:=IG p;have d2:=IG q;rw [Rat.intCast_mul,Rat.intCast_mul];generalize (p.num:Rat)=a at *;generalize ((p.den:Int):Rat)=b at *;generalize (q.num:Rat)=c at *;generalize ((q.den:Int):Rat)=d at *;subst h1 h2
 grind
theorem aw2 (p q:Rat) (hq:q≠0):((p.num*(q.den:Int):Int):Rat) / (((p.den:Int)*q.num:Int):Rat)=p / q:=by
 have h1:=rR p;have h2:=rR q;have d1:=IG p;have d2:=IG q;have d3:((q.num:Int):Rat)≠0:=fun e=>hq (by rw [h2,e];grind);rw [Rat.intCast_mul,Rat.intCast_mul];generalize (p.num:Rat)=a at *;generalize ((p.den:Int):Rat)=b at *;generalize (q.num:Rat)=c at *;generalize ((q.den:Int):Rat)=d at *;subst h1 h2
 grind
theorem av5 (p q:Rat):((p.num*(q.den:Int)+q.num*(p.den:Int):Int):Rat) / (((p.den:Int)*(q.den:Int):Int):Rat)=p+q:=by
 have h1:=rR p;have h2:=rR q;have d1:=IG p;have d2:=IG q;rw [Rat.intCast_add,Rat.intCast_mul,Rat.intCast_mul,Rat.intCast_mul];generalize (p.num:Rat)=a at *;generalize ((p.den:Int):Rat)=b at *;generalize (q.num:Rat)=c at *;generalize ((q.den:Int):Rat)=d at *;subst h1 h2
 grind
theorem gZ.four {k:Nat} {q:Rat} (h:gZ k q):sz 10000 q.num.natAbs≤3*k∧sz 10000 (q.den:Int).natAbs≤3*k:=⟨CV h.1,by rw [Int.natAbs_natCast];exact CV h.2⟩
theorem nQ {a b:Int} {m n:Nat} (h:sz 10000 a.natAbs≤m) (k:sz 10000 b.natAbs≤n):sz 10000 (a*b).natAbs≤m+n:=by
 rw [Int.natAbs_mul];have:=jL (B:=10000) zo a.natAbs b.natAbs;omega
theorem ah1 {a b:Int} {m:Nat} (h:sz 10000 a.natAbs≤m) (k:sz 10000 b.natAbs≤m):sz 10000 (a+b).natAbs≤m+1:=by
 have h1:=dh (B:=10000) zo (Int.natAbs_add_le a b);have h2:=wV (B:=10000) zo a.natAbs b.natAbs;omega
theorem vZ (x:Value) (p:Rat) (w:World) (hx:Ra w x p):Calls Tryz.prog 268 #[x] w (jM w (-p)):=by
 obtain ⟨bA,je,lA,jG,xP,jX,xE,kD,rfl,NA,zI⟩:=id hx;have H:=fun W (h:Pl W (.agg #[.bool bA,.slice je lA jG]) p.num)=>(au.vZ _ _ W h).mono fun _ _ q=>VL q
 have HQ:∀ w b pa l ca,Pl w (.agg #[.bool b,.slice pa l ca]) (-p.num)→Pl w (.agg #[.bool xP,.slice jX xE kD]) p.den→Ra w (.agg #[.bool b,.slice pa l ca,.bool xP,.slice jX xE kD]) (-p):=fun w b pa l ca h1 h2=>by
  unfold Ra;rw [Rat.neg_num,Rat.neg_den];exact ⟨_,_,_,_,_,_,_,_,rfl,h1,h2⟩
 refine Fx.door Tryz.func268 rfl (.nil w []) ?_;have B0:=Fx.Gw.nil w;refine Fx.new [] 1 #[.bool bA,.slice je lA jG,.bool xP,.slice jX xE kD] 163 [] [] fun dW=>?_;refine Fx.aL [] 2 163 [] [] fun dM=>?_;refine Fx.draw [] [0,1,3,4,2,5,6] [] [] [] ?_;refine Fx.gM [3,3] 5 [(7,.agg #[.bool xP,.slice jX xE kD])] [] (fun W M=>H _ (NA.later (B0.at M))) ?_;rintro W w3 e M ⟨b1,p1,l1,c1,rfl,D3,Q1⟩;refine ⟨D3,fun M3=>?_⟩;have B3:=B0.next M3
 exact Fx.fV (cs:=#[.bool b1,.slice p1 l1 c1,.bool xP,.slice jX xE kD]) 1 dM [4] [(1,#[.bool b1,.slice p1 l1 c1,.bool xP,.slice jX xE kD])] (fun W M=>by have HB:=(B3.at M);exact ⟨_,rfl,HB,HQ _ _ _ _ _ (Q1.keep (M3.keep M)) (zI.later (B3.at M))⟩)
theorem gN (x y:Value) (p q:Rat) (w:World) (hx:Ra w x p) (hy:Ra w y q) (h1:gZ 10000000000 p) (h2:gZ 10000000000 q):Calls Tryz.prog 218 #[x,y] w (jM w (p*q)):=by
 obtain ⟨bA,je,lA,jG,xP,jX,xE,kD,rfl,NA,zI⟩:=id hx;obtain ⟨bB,nK,lB,nN,Yd,Bz,Ya,BP,rfl,NB,Si⟩:=id hy;obtain ⟨s1,s2⟩:=gZ.four h1;obtain ⟨s3,s4⟩:=gZ.four h2;have S1:sz 10000 p.num.natAbs≤549755813888:=zo;have S2:sz 10000 (p.den:Int).natAbs≤549755813888:=zo;have S3:sz 10000 q.num.natAbs≤549755813888:=zo;have S4:sz 10000 (q.den:Int).natAbs≤549755813888:=zo;have L1:sz 10000 (p.num*q.num).natAbs≤274877906944:=by have:=nQ s1 s3;omega
 have L2:sz 10000 ((p.den:Int)*(q.den:Int)).natAbs≤274877906944:=by have:=nQ s2 s4;omega
 have L3:(p.den:Int)*(q.den:Int)≠0:=Int.mul_ne_zero (by have:=p.den_pos;omega) (by have:=q.den_pos;omega);have HL:=fun x y w hx hy=>(wD x y (p.num*q.num) ((p.den:Int)*(q.den:Int)) w hx hy L1 L2 L3).mono fun _ _ q=>iK q;rw [ag5] at HL;refine Fx.door Tryz.func218 rfl (.nil w []) ?_;have B0:=Fx.Gw.nil w;refine Fx.new [] 2 #[.bool bA,.slice je lA jG,.bool xP,.slice jX xE kD] 163 [] [] fun dW=>?_;refine Fx.new [] 3 #[.bool bB,.slice nK lB nN,.bool Yd,.slice Bz Ya BP] 163 [] [] fun dM=>?_;refine Fx.aL [] 4 163 [] [] fun dP=>?_;refine Fx.draw [] [0,1,2,3,5,6,7,8,4,9,10,11] [] [] [] ?_;refine Fx.gM [3,4,3,4] 9 [(11,.agg #[.bool xP,.slice jX xE kD]),(13,.agg #[.bool Yd,.slice Bz Ya BP])] [] (fun W M=>au.gN _ _ _ _ _ (NA.later (B0.at M)) (NB.later (B0.at M)) S1 S3) ?_;rintro W w4 e M ⟨v1,rfl,D4,Q1⟩;refine ⟨D4,fun M4=>?_⟩
 have B4:=B0.next M4
 refine Fx.gM [] 14 [] [] (fun W M=>au.gN _ _ _ _ _ (zI.later (B4.at M)) (Si.later (B4.at M)) S2 S4) ?_;rintro W w5 e M ⟨v2,rfl,D5,Q2⟩;refine ⟨D5,fun M5=>?_⟩;replace Q1:=Q1.keep (M4.keep M5);have B5:=B4.next M5
 refine Fx.gM [] 15 [] [] (fun W M=>HL _ _ _ (Q1.keep (M5.keep M)) (Q2.keep (M5.keep M))) ?_;rintro W w6 e M ⟨n3,p3,l3,c3,m3,q3,j3,d3,rfl,D6,Q3⟩;refine ⟨D6,fun M6=>?_⟩;have B6:=B5.next M6
 exact Fx.fV (cs:=#[.bool n3,.slice p3 l3 c3,.bool m3,.slice q3 j3 d3]) 2 dP [5] [(2,#[.bool n3,.slice p3 l3 c3,.bool m3,.slice q3 j3 d3])] (fun W M=>by have HB:=(B6.at M);exact ⟨_,rfl,HB,(Q3.keep (M6.keep M))⟩)
theorem UW (x y:Value) (p q:Rat) (w:World) (hx:Ra w x p) (hy:Ra w y q) (h1:gZ 10000000000 p) (h2:gZ 10000000000 q) (h0:q≠0):Calls Tryz.prog 134 #[x,y] w (jM w (p / q)):=by
 obtain ⟨bA,je,lA,jG,xP,jX,xE,kD,rfl,NA,zI⟩:=id hx;obtain ⟨bB,nK,lB,nN,Yd,Bz,Ya,BP,rfl,NB,Si⟩:=id hy;obtain ⟨s1,s2⟩:=gZ.four h1;obtain ⟨s3,s4⟩:=gZ.four h2;have S1:sz 10000 p.num.natAbs≤549755813888:=zo;have S2:sz 10000 (p.den:Int).natAbs≤549755813888:=zo;have S3:sz 10000 q.num.natAbs≤549755813888:=zo;have S4:sz 10000 (q.den:Int).natAbs≤549755813888:=zo;have L1:sz 10000 (p.num*(q.den:Int)).natAbs≤274877906944:=by have:=nQ s1 s4;omega
 have L2:sz 10000 ((p.den:Int)*q.num).natAbs≤274877906944:=by have:=nQ s2 s3;omega
 have L3:(p.den:Int)*q.num≠0:=Int.mul_ne_zero (by have:=p.den_pos;omega) (fun e=>h0 (Rat.num_eq_zero.1 e));have HL:=fun x y w hx hy=>(wD x y (p.num*(q.den:Int)) ((p.den:Int)*q.num) w hx hy L1 L2 L3).mono fun _ _ q=>iK q;rw [aw2 p q h0] at HL;refine Fx.door Tryz.func134 rfl (.nil w []) ?_;have B0:=Fx.Gw.nil w;refine Fx.new [] 2 #[.bool bA,.slice je lA jG,.bool xP,.slice jX xE kD] 163 [] [] fun dW=>?_;refine Fx.new [] 3 #[.bool bB,.slice nK lB nN,.bool Yd,.slice Bz Ya BP] 163 [] [] fun dM=>?_;refine Fx.aL [] 4 163 [] [] fun dP=>?_;refine Fx.draw [] [0,1,2,3,5,6,7,8,4,9,10,11] [] [] [] ?_;refine Fx.gM [3,4,3,4] 9 [(11,.agg #[.bool xP,.slice jX xE kD]),(13,.agg #[.bool bB,.slice nK lB nN])] [] (fun W M=>au.gN _ _ _ _ _ (NA.later (B0.at M)) (Si.later (B0.at M)) S1 S4) ?_;rintro W w4 e M ⟨v1,rfl,D4,Q1⟩;refine ⟨D4,fun M4=>?_⟩
 have B4:=B0.next M4
 refine Fx.gM [] 14 [] [] (fun W M=>au.gN _ _ _ _ _ (zI.later (B4.at M)) (NB.later (B4.at M)) S2 S3) ?_;rintro W w5 e M ⟨v2,rfl,D5,Q2⟩;refine ⟨D5,fun M5=>?_⟩;replace Q1:=Q1.keep (M4.keep M5);have B5:=B4.next M5
 refine Fx.gM [] 15 [] [] (fun W M=>HL _ _ _ (Q1.keep (M5.keep M)) (Q2.keep (M5.keep M))) ?_;rintro W w6 e M ⟨n3,p3,l3,c3,m3,q3,j3,d3,rfl,D6,Q3⟩;refine ⟨D6,fun M6=>?_⟩;have B6:=B5.next M6
 exact Fx.fV (cs:=#[.bool n3,.slice p3 l3 c3,.bool m3,.slice q3 j3 d3]) 2 dP [5] [(2,#[.bool n3,.slice p3 l3 c3,.bool m3,.slice q3 j3 d3])] (fun W M=>by have HB:=(B6.at M);exact ⟨_,rfl,HB,(Q3.keep (M6.keep M))⟩)
theorem ql (x y:Value) (p q:Rat) (w:World) (hx:Ra w x p) (hy:Ra w y q) (h1:gZ 10000000000 p) (h2:gZ 10000000000 q):Calls Tryz.prog 234 #[x,y] w (jM w (p+q)):=by
 obtain ⟨bA,je,lA,jG,xP,jX,xE,kD,rfl,hA1,hA2⟩:=id hx;obtain ⟨bB,nK,lB,nN,Yd,Bz,Ya,BP,rfl,hB1,hB2⟩:=id hy;have QA:=zh hx;have NA:=zh hA1;have zI:=zh hA2;have QB:=zh hy;have NB:=zh hB1;have Si:=zh hB2;obtain ⟨s1,s2⟩:=gZ.four h1;obtain ⟨s3,s4⟩:=gZ.four h2;have S1:Hid (sz 10000 p.num.natAbs≤549755813888):=zh zo;have S2:Hid (sz 10000 (p.den:Int).natAbs≤549755813888):=zh zo;have S3:Hid (sz 10000 q.num.natAbs≤549755813888):=zh zo;have S4:Hid (sz 10000 (q.den:Int).natAbs≤549755813888):=zh zo;have a1:=nQ s1 s4;have a2:=nQ s3 s2;have P1:Hid (sz 10000 (p.num*(q.den:Int)).natAbs≤549755813888):=zh zo;have P2:Hid (sz 10000 (q.num*(p.den:Int)).natAbs≤549755813888):=zh zo;have L1:Hid (sz 10000 (p.num*(q.den:Int)+q.num*(p.den:Int)).natAbs≤274877906944):=zh (by have:=ah1 a1 a2;omega)
 have L2:Hid (sz 10000 ((p.den:Int)*(q.den:Int)).natAbs≤274877906944):=zh (by have:=nQ s2 s4;omega);have L3:Hid ((p.den:Int)*(q.den:Int)≠0):=zh (Int.mul_ne_zero (by have:=p.den_pos;omega) (by have:=q.den_pos;omega));have HL:=zh (fun x y w hx hy=>wD x y (p.num*(q.den:Int)+q.num*(p.den:Int)) ((p.den:Int)*(q.den:Int)) w hx hy L1.out L2.out L3.out);rw [av5] at HL;clear hx hy hA1 hA2 hB1 hB2 h1 h2 s1 s2 s3 s4 L1 L2 L3 a1 a2;go_enter Tryz.func234,Tryz.ntmps234
 go_wp2_with fail
 obtain ⟨jN,EW,hz,X1,X2,X3⟩:=Ji w #[.bool bA,.slice je lA jG,.bool xP,.slice jX xE kD] 163 #[.bool bB,.slice nK lB nN,.bool Yd,.slice Bz Ya BP] 163 #[.bool false,.slice none 0 0,.bool false,.slice none 0 0] 163;rw [EW];replace NA:=zh (NA.out.later hz);replace zI:=zh (zI.out.later hz);replace NB:=zh (NB.out.later hz);replace Si:=zh (Si.out.later hz);have hk2:=Bt (Below.refl _ _) hz;clear EW hz;obtain ⟨jV,jU,lJ⟩:=X1.clf;obtain ⟨tH,tF,xI⟩:=X2.clf;refine aF [(.pure,0),(.read,1),(.pure,2),(.read,3),(.pure,5),(.read,6),(.pure,7),(.read,8),(.ext,4),(.ext,9),(.ext,10),(.alloc #[.bool false,.slice none 0 0] 161,11),(.fin,12)] zk zk zR zP ?_;refine zV ?_;refine aH rfl rfl (fun we3 hb3 J hJ=>?_);go_simp;have hh3:Below jN.heap.size jN we3:=aD;clear hb3
 refine (au.gN _ _ _ _ _ (NA.out.later hh3) (Si.out.later hh3) S1.out S4.out).mono ?_;rintro e Td ⟨v,rfl,hb4,hv5⟩;obtain ⟨bC,paC,lC,caC,rfl⟩:=hv5.agg;refine hJ _ _ hb4 ?_;clear hJ J;have Um:=Bt hh3 hb4;have NC:=zh hv5;clear hh3 hb4 hv5;refine zV ?_;refine aH rfl rfl (fun GD hb6 J hJ=>?_);go_simp;have tQ:Below jN.heap.size jN GD:=Bt Um aD;replace NC:=zh (NC.out.later (show Below Td.heap.size Td GD from aD));clear hb6 Um;refine (au.gN _ _ _ _ _ (NB.out.later tQ) (zI.out.later tQ) S3.out S2.out).mono ?_;rintro e sQ ⟨v,rfl,iJ,qA⟩;obtain ⟨bD,paD,lD,caD,rfl⟩:=qA.agg;refine hJ _ _ iJ ?_;clear hJ J;have Bd:=Bt tQ iJ;replace NC:=zh (NC.out.later iJ);have ND:=zh qA;clear tQ iJ qA;refine zV ?_;refine aH rfl rfl (fun GI tT J hJ=>?_);go_simp;have mI:Below jN.heap.size jN GI:=Bt Bd aD
 replace NC:=zh (NC.out.later (show Below sQ.heap.size sQ GI from aD));replace ND:=zh (ND.out.later (show Below sQ.heap.size sQ GI from aD));clear tT Bd;refine (au.ql _ _ _ _ _ NC.out ND.out P1.out P2.out).mono ?_;rintro e jW ⟨v,rfl,iG,qC⟩;obtain ⟨bF,paF,lF,caF,rfl⟩:=qC.agg;refine hJ _ _ iG ?_;clear hJ J;have oQ:=Bt mI iG;replace NC:=zh (NC.out.later iG);replace ND:=zh (ND.out.later iG);have NF:=zh qC;clear mI iG qC;refine zV ?_;refine cK rfl (fun iP aJ1 Nt kg yP EH iZ=>?_);go_simp;replace iZ:ah _ _ _ _:=iZ;have DW:w.heap.size≤iP:=(by first|omega|exact Nat.le_trans (Below.size (B:=w.heap.size) aD) kg);refine aU [_] rfl (fun Yi aM1=>?_);replace NC:=zh (NC.out.later (show Below jW.heap.size jW Yi from aD))
 replace ND:=zh (ND.out.later (show Below jW.heap.size jW Yi from aD));replace NF:=zh (NF.out.later (show Below jW.heap.size jW Yi from aD));have DI:Below jN.heap.size jN Yi:=Bt oQ aD;have hq0:=iZ.later aM1;have cq0:=hq0.cell;have fq0:=hq0.free;clear iZ aM1 oQ;clear jV jU lJ tH tF xI;go_wp2_with fail
 obtain ⟨LA,EW⟩:∃ y,((Yi.setCell ⟨iP,0,none⟩ (.bool bF)).setCell ⟨iP,1,none⟩ (.slice paF lF caF))=y:=⟨_,rfl⟩;have hz:Below jN.heap.size jN LA:=by rw [← EW];exact ((DI.setCell kg _).setCell kg _)
 have X4:Hid (ah LA iP #[.bool bF,.slice paF lF caF] 161):=zh (by rw [← EW];exact ((hq0.set 0 _).set 1 _));clear NC;clear ND;have t:=((NF.out.setOther hq0 zd 0 (.bool bF)).setOther (hq0.set 0 _) zd 1 (.slice paF lF caF));rw [EW] at t;replace NF:=zh t;clear t;rw [EW];clear EW hq0 cq0 fq0 DI;replace NA:=zh (NA.out.later hz);replace zI:=zh (zI.out.later hz);replace NB:=zh (NB.out.later hz);replace Si:=zh (Si.out.later hz);replace X1:=X1.bl hz;replace X2:=X2.bl hz;replace X3:=X3.bl hz;have aL6:=Bt hk2 hz;clear hk2;clear hz;clear Nt kg yP EH DW;go_wp2_with fail
 obtain ⟨cX4,lX4,fX4⟩:=X4.clf;obtain ⟨jV,jU,lJ⟩:=X1.clf;obtain ⟨tH,tF,xI⟩:=X2.clf;refine aF [(.read,0),(.pure,1),(.read,2),(.pure,3),(.read,4),(.ext,5),(.ext,6),(.fin,7)] zk zk zR zP ?_;refine zV ?_;refine aH rfl rfl (fun aQ7 aV8 J hJ=>?_);go_simp;have al8:Below LA.heap.size LA aQ7:=aD;clear aV8;refine (au.gN _ _ _ _ _ (zI.out.later al8) (Si.out.later al8) S2.out S4.out).mono ?_;rintro e aI8 ⟨v,rfl,az5,ay1⟩;obtain ⟨bG,paG,lG,caG,rfl⟩:=ay1.agg;refine hJ _ _ az5 ?_;clear hJ J;have Dz:=Bt al8 az5;have NG:=zh ay1;clear al8 az5 ay1;refine zV ?_;refine aH rfl rfl (fun aI7 aV7 J hJ=>?_);go_simp;have ay7:Below LA.heap.size LA aI7:=Bt Dz aD;replace NG:=zh (NG.out.later (show Below aI8.heap.size aI8 aI7 from aD));clear aV7 Dz;refine (HL.out _ _ _ (NF.out.later ay7) NG.out).mono ?_
 rintro e Yj ⟨v,rfl,DL,Qx⟩;obtain ⟨bE,paE,lE,caE,bEd,bh6,lEd,bm5,rfl,aU0,aT9⟩:=id Qx;refine hJ _ _ DL ?_;clear hJ J;have aL7:=Bt ay7 DL;replace NG:=zh (NG.out.later DL);have QE:=zh Qx;clear ay7 DL Qx aU0 aT9;refine zV ?_;refine aU [_] rfl (fun au1 aV3=>?_);replace NG:=zh (NG.out.later (show Below Yj.heap.size Yj au1 from aD));replace QE:=zh (QE.out.later (show Below Yj.heap.size Yj au1 from aD));have Dy:Below LA.heap.size LA au1:=Bt aL7 aD;clear aV3 aL7;clear cX4 lX4 fX4 jV jU lJ tH tF xI;replace NA:=zh (NA.out.later Dy);replace zI:=zh (zI.out.later Dy);replace NB:=zh (NB.out.later Dy);replace Si:=zh (Si.out.later Dy);replace X1:=X1.bl Dy;replace X2:=X2.bl Dy;replace X3:=X3.bl Dy;replace X4:=X4.bl Dy;replace NF:=zh (NF.out.later Dy);have bj3:=Bt aL6 Dy;clear aL6;clear Dy;clear NG
 obtain ⟨cX3,Zw,fX3⟩:=X3.clf;have hres:=X3.out;have xK:=hres.cell;have xH:=hres.free;go_wp2_with fail
 refine dH rfl rfl aJ Tryz.underlying163 rfl zk ?_;exact ⟨_,rfl,aD,Ra.GR QE.out hres zd _ _ _ _⟩
theorem nH (x y:Value) (p q:Rat) (w:World) (hx:Ra w x p) (hy:Ra w y q) (h1:gZ 10000000000 p) (h2:gZ 10000000000 q):Calls Tryz.prog 215 #[x,y] w (jM w (p - q)):=by
 have HT:=fun W h=>(vZ y q W h).mono fun _ _ q=>iK q;have HP:=fun v W h k=>(ql x v p (-q) W h k h1 (vI h2)).mono fun _ _ q=>iK q;rw [← Rat.sub_eq_add_neg] at HP;obtain ⟨bA,je,lA,jG,xP,jX,xE,kD,rfl,NA,zI⟩:=id hx;obtain ⟨bB,nK,lB,nN,Yd,Bz,Ya,BP,rfl,NB,Si⟩:=id hy;refine Fx.door Tryz.func215 rfl (.nil w []) ?_;have B0:=Fx.Gw.nil w;refine Fx.new [] 2 #[.bool bA,.slice je lA jG,.bool xP,.slice jX xE kD] 163 [] [] fun dW=>?_;refine Fx.new [] 3 #[.bool bB,.slice nK lB nN,.bool Yd,.slice Bz Ya BP] 163 [] [] fun dM=>?_;refine Fx.aL [] 4 163 [] [] fun dP=>?_;refine Fx.draw [] (List.range 5) [] [] [] ?_;refine Fx.gM [3,4] 7 [(5,.agg #[.bool bA,.slice je lA jG,.bool xP,.slice jX xE kD])] [] (fun W M=>HT _ (hy.later (B0.at M))) ?_;rintro W w4 e M ⟨n1,p1,l1,c1,m1,q1,j1,d1,rfl,D4,Q1⟩;refine ⟨D4,fun M4=>?_⟩;have B4:=B0.next M4
 refine Fx.gM [] 8 [] [] (fun W M=>HP _ _ (hx.later (B4.at M)) (Q1.keep (M4.keep M))) ?_;rintro W w5 e M ⟨n3,p3,l3,c3,m3,q3,j3,d3,rfl,D5,Q3⟩;refine ⟨D5,fun M5=>?_⟩;have B5:=B4.next M5
 exact Fx.fV (cs:=#[.bool n3,.slice p3 l3 c3,.bool m3,.slice q3 j3 d3]) 2 dP [5] [(2,#[.bool n3,.slice p3 l3 c3,.bool m3,.slice q3 j3 d3])] (fun W M=>by have HB:=(B5.at M);exact ⟨_,rfl,HB,(Q3.keep (M5.keep M))⟩)
theorem aB0 (p q:Rat):zl (p.num*(q.den:Int)) (q.num*(p.den:Int))=pJ p q:=by
 rw [← yw];unfold zl uj;split
 ·rw [if_neg zo,if_pos zo]
 ·split
  ·rw [if_neg zo,if_neg zo]
  ·rw [if_pos zo]
theorem iI (x y:Value) (p q:Rat) (w:World) (hx:Ra w x p) (hy:Ra w y q) (h1:gZ 10000000000 p) (h2:gZ 10000000000 q):Calls Tryz.prog 212 #[x,y] w (fun e w'=>e= .returned (.int .i64 (pJ p q))∧Below w.heap.size w w'):=by
 obtain ⟨bA,je,lA,jG,xP,jX,xE,kD,rfl,NA,zI⟩:=id hx;obtain ⟨bB,nK,lB,nN,Yd,Bz,Ya,BP,rfl,NB,Si⟩:=id hy;obtain ⟨s1,s2⟩:=gZ.four h1;obtain ⟨s3,s4⟩:=gZ.four h2;have S1:sz 10000 p.num.natAbs≤549755813888:=zo;have S2:sz 10000 (p.den:Int).natAbs≤549755813888:=zo;have S3:sz 10000 q.num.natAbs≤549755813888:=zo;have S4:sz 10000 (q.den:Int).natAbs≤549755813888:=zo;have a1:=nQ s1 s4;have a2:=nQ s3 s2;have P1:sz 10000 (p.num*(q.den:Int)).natAbs≤549755813888:=by omega
 have P2:sz 10000 (q.num*(p.den:Int)).natAbs≤549755813888:=by omega
 have HO:=fun x y W h k=>au.iI x y (p.num*(q.den:Int)) (q.num*(p.den:Int)) W h k P1 P2;rw [aB0] at HO;generalize pJ p q=cc at *;refine Fx.door Tryz.func212 rfl (.nil w []) ?_;have B0:=Fx.Gw.nil w;refine Fx.new [] 2 #[.bool bA,.slice je lA jG,.bool xP,.slice jX xE kD] 163 [] [] fun dW=>?_;refine Fx.new [] 3 #[.bool bB,.slice nK lB nN,.bool Yd,.slice Bz Ya BP] 163 [] [] fun dM=>?_;refine Fx.draw [] [0,1,2,3,5,6,7,8,4,9,10,5011] [] [] [] ?_;refine Fx.gM [3,4,4,3] 9 [(11,.agg #[.bool bB,.slice nK lB nN]),(13,.agg #[.bool xP,.slice jX xE kD])] [] (fun W M=>au.gN _ _ _ _ _ (NA.later (B0.at M)) (Si.later (B0.at M)) S1 S4) ?_;rintro W w3 e M ⟨v1,rfl,D3,Q1⟩;refine ⟨D3,fun M3=>?_⟩;have B3:=B0.next M3
 refine Fx.gM [] 14 [] [] (fun W M=>au.gN _ _ _ _ _ (NB.later (B3.at M)) (zI.later (B3.at M)) S3 S2) ?_;rintro W w4 e M ⟨v2,rfl,D4,Q2⟩;refine ⟨D4,fun M4=>?_⟩;replace Q1:=Q1.keep (M3.keep M4);have B4:=B3.next M4
 refine Fx.call [] 15 [] [] (fun W M=>HO _ _ _ (Q1.keep (M4.keep M)) (Q2.keep (M4.keep M))) ?_;exact Fx.wF (v:=.int .i64 cc) [] [] (fun W M=>by have HB:=(B4.at M);exact ⟨rfl,HB⟩)
end Go.Proofs.aC
namespace Go.Proofs.au
open Go Go.RowKit Go.SW Go.Num Go.Mem Go.Proofs
theorem Wv {a b:Int} (ha:a<0) (hb:0<b) (h:¬ b ∣ a):gT (a.natAbs / b.natAbs) true= -((a.natAbs / b.natAbs:Nat):Int)∧gT (a.natAbs%b.natAbs) true= -((a.natAbs%b.natAbs:Nat):Int)∧0<a.natAbs%b.natAbs∧a / b= -((a.natAbs / b.natAbs:Nat):Int) - 1∧a%b= -((a.natAbs%b.natAbs:Nat):Int)+b:=by
 obtain ⟨n,rfl⟩:∃ n:Nat,a= -(n:Int):=⟨a.natAbs,by omega⟩;obtain ⟨d,rfl⟩:∃ d:Nat,b=(d:Int):=⟨b.natAbs,by omega⟩;rw [Int.natAbs_neg,Int.natAbs_natCast,Int.natAbs_natCast];have hm:n%d≠0:=fun e=>h (Int.dvd_neg.2 (Int.natCast_dvd_natCast.2 (Nat.dvd_of_mod_eq_zero e)));have hlt:=Nat.mod_lt n (show 0<d by omega);have QF:=Nat.div_add_mod n d
 have e1: -(n:Int)=(d:Int)*(-((n / d:Nat):Int) - 1)+((d:Int) - ((n%d:Nat):Int)):=by
  have:(n:Int)=(d:Int)*((n / d:Nat):Int)+((n%d:Nat):Int):=by exact_mod_cast QF.symm
  rw [this];grind
 refine ⟨by unfold gT;simp,by unfold gT;simp,by omega,?_,?_⟩
 ·rw [e1,Int.add_comm,Int.add_mul_ediv_left _ _ zo,Int.ediv_eq_zero_of_lt zo zo];omega
 ·rw [e1,Int.add_comm,Int.add_mul_emod_self_left,Int.emod_eq_of_lt zo zo];omega
def ae2 (w:World) (z:Int) (e:Ending) (w':World):Prop:=∃ b pa l ca,e= .returned (.agg #[.bool b,.slice pa l ca])∧Below w.heap.size w w'∧Pl w' (.agg #[.bool b,.slice pa l ca]) z
theorem as4 {w:World} {z:Int} {e:Ending} {w':World} (h:∃ v',e= .returned v'∧Below w.heap.size w w'∧Pl w' v' z):ae2 w z e w':=by
 obtain ⟨v,rfl,h,hv⟩:=h;obtain ⟨b,pa,l,ca,rfl⟩:=hv.agg;exact ⟨b,pa,l,ca,rfl,h,hv⟩
theorem ap2 (x y:Value) (a b:Int) (w:World) (hx:Pl w x a) (hy:Pl w y b) (ha:sz 10000 a.natAbs≤549755813888) (hb:sz 10000 b.natAbs≤549755813888):Calls Tryz.prog 279 #[x,y] w (ae2 w (a+b)):=(ql x y a b w hx hy ha hb).mono fun _ _ h=>as4 h
theorem ae6 (x y:Value) (a b:Int) (w:World) (hx:Pl w x a) (hy:Pl w y b) (ha:sz 10000 a.natAbs≤549755813888) (hb:sz 10000 b.natAbs≤549755813888):Calls Tryz.prog 301 #[x,y] w (ae2 w (a - b)):=(nH x y a b w hx hy ha hb).mono fun _ _ h=>as4 h
theorem Yq {n:Nat} {k:Nat} (h:sz 10000 n≤k):sz 10000 (-(n:Int)).natAbs≤k:=by rwa [Int.natAbs_neg,Int.natAbs_natCast]
theorem au7:sz 10000 (1:Int).natAbs≤549755813888:=by decide+kernel
theorem Xv (x y:Value) (a b:Int) (w:World) (hx:Pl w x a) (hy:Pl w y b) (ha:sz 10000 a.natAbs≤274877906944) (hb:sz 10000 b.natAbs≤274877906944) (ha0:a<0) (hb0:0<b) (hd:¬ b ∣ a) :
  Calls Tryz.prog 262 #[x,y] w (sP w (a / b) (a%b)):=by
 obtain ⟨bA,je,lA,jG,rfl⟩:=hx.agg;obtain ⟨bB,nK,lB,nN,rfl⟩:=hy.agg;obtain ⟨nA,eA⟩:=hx.nm;obtain ⟨nB,eB⟩:=hy.nm;have hbf:bB=false:=by rw [eB];simp;omega
 subst hbf;have hbt:bA=true:=by rw [eA];simp;omega
 subst hbt;obtain ⟨s1,s2,s3,s4,s5⟩:=Wv ha0 hb0 hd;have hqz:sz 10000 (a.natAbs / b.natAbs)≤549755813888:=Nat.le_trans (dh zo (Nat.div_le_self _ _)) zo;have hrz:sz 10000 (a.natAbs%b.natAbs)≤549755813888:=Nat.le_trans (dh zo (Nat.mod_le _ _)) zo;have tL:=zh nA;have zH:=zh nB;have NBp:=zh hy;have KA:=zh ha;have KB:=zh hb;have H0:Hid (0<b.natAbs):=zh zo;have HS1:=zh s1;have HS2:=zh s2;have HS3:=zh s3;have HQ:=zh hqz;have HRz:=zh hrz;rw [s4,s5];clear hx hy ha hb hb0 ha0 hd nA nB eA eB s1 s2 s3 s4 s5 hqz hrz;go_enter Tryz.func262,Tryz.ntmps262
 go_wp2_with fail
 obtain ⟨jN,EW,hz,X1,X2,X3,X4⟩:=al4 w #[.bool true,.slice je lA jG] 161 #[.bool false,.slice nK lB nN] 161 #[.bool false,.slice none 0 0] 161 #[.bool false,.slice none 0 0] 161;rw [EW];have hk2:=Bt (Below.refl _ _) hz;clear EW hz;refine (Di _ _ _ _ _ (tL.out.later hk2) (zH.out.later hk2) H0.out KA.out KB.out).mono ?_;rintro e kE ⟨q,r,rfl,hb3,hq,hr⟩;obtain ⟨paQ,lQ,caQ,rfl⟩:=hq.slice;obtain ⟨paR,lR,caR,rfl⟩:=hr.slice;replace X1:=X1.bl hb3;replace X2:=X2.bl hb3;replace X3:=X3.bl hb3;replace X4:=X4.bl hb3;have hk5:=Bt hk2 hb3;clear hk2;have NQ:=zh hq;have NR:=zh hr;clear hb3 hq hr;have HL4:=zh X4.out.lt;go_wp2_with fail
 obtain ⟨jV,jU,lJ⟩:=X1.clf;obtain ⟨tH,tF,xI⟩:=X2.clf;refine aF [(.pure,0),(.read,1),(.pure,2),(.read,3),(.pure,4),(.pure,5),(.pure,7),(.read,8),(.pure,9),(.ext,6),(.ext,10),(.alloc #[.bool false,.slice none 0 0] 161,11),(.alloc #[.bool false,.slice none 0 0] 161,12),(.fin,13),(.fin,14)] zk zk zR zP ?_;refine zV ?_;refine aH rfl rfl (fun GD hb6 J hJ=>?_);go_simp;have tQ:Below kE.heap.size kE GD:=aD;clear hb6;refine (rV _ _ _ _ _ (NQ.out.later tQ) HS1.out).mono ?_;rintro e sQ ⟨v,rfl,iJ,qA⟩;obtain ⟨bU,VU,lU,Xd,rfl⟩:=qA.agg;refine hJ _ _ iJ ?_;clear hJ J;have Bd:=Bt tQ iJ;have NU:=zh qA;clear tQ iJ qA;refine zV ?_;refine aH rfl rfl (fun GI tT J hJ=>?_);go_simp;have mI:Below kE.heap.size kE GI:=Bt Bd aD;replace NU:=zh (NU.out.later (show Below sQ.heap.size sQ GI from aD));clear tT Bd
 refine (rV _ _ _ _ _ (NR.out.later mI) HS2.out).mono ?_;rintro e jW ⟨v,rfl,iG,hv⟩;obtain ⟨bV,VT,lV,Xc,rfl⟩:=hv.agg;have hbv:bV=true:=hv.nm.2.trans (decide_eq_true (by have:=HS3.out;omega));subst hbv;refine hJ _ _ iG ?_;clear hJ J;have oQ:=Bt mI iG;replace NU:=zh (NU.out.later iG);have NV:=zh hv;clear mI iG hv;refine zV ?_;refine cK rfl (fun iP aJ1 Nt kg yP EH iZ=>?_);go_simp;replace iZ:ah _ _ _ _:=iZ;have DW:w.heap.size≤iP:=(by first|omega|exact Nat.le_trans (Below.size (B:=w.heap.size) aD) kg);refine cK rfl (fun kK aQ8 Ns qD Km DY rW=>?_);go_simp;replace rW:ah _ _ _ _:=rW;have QJ:w.heap.size≤kK:=(by first|omega|exact Nat.le_trans (Below.size (B:=w.heap.size) aD) qD);replace iZ:=ah.later iZ Ns;have hne:iP≠kK:=fun h=>DY (by simp [h])
 have hne2:kK≠iP:=fun h=>hne h.symm;refine aU [_,_] rfl (fun wf hf=>?_);replace NU:=zh (NU.out.later (show Below jW.heap.size jW wf from aD));replace NV:=zh (NV.out.later (show Below jW.heap.size jW wf from aD));have WK:Below kE.heap.size kE wf:=Bt oQ aD;have hq0:=iZ.later hf;have cq0:=hq0.cell;have fq0:=hq0.free;have hq1:=rW.later hf;have cq1:=hq1.cell;have fq1:=hq1.free;have Y2:=X2.out.later WK;have c2:=Y2.cell;have l2:=Y2.lt;have hl2:=X2.out.lt;have hl3:=X3.out.lt;have hl4:=HL4.out;have m1:iP≠w.heap.size+1:=by omega
 have m2:kK≠w.heap.size+1:=by omega
 clear iZ rW hf oQ jV jU lJ tH tF xI;go_wp2_with fail
 obtain ⟨w4,EW⟩:∃ y,((((wf.setCell ⟨iP,0,none⟩ (.bool bU)).setCell ⟨iP,1,none⟩ (.slice VU lU Xd)).setCell ⟨kK,0,none⟩ (.bool true)).setCell ⟨kK,1,none⟩ (.slice VT lV Xc))=y:=⟨_,rfl⟩;have hz:Below kE.heap.size kE w4:=by rw [← EW];exact ((((WK.setCell kg _).setCell kg _).setCell qD _).setCell qD _)
 have X5:Hid (ah w4 iP #[.bool bU,.slice VU lU Xd] 161):=zh (by rw [← EW];exact ((((hq0.set 0 _).set 1 _).setOther _ hne).setOther _ hne));have X6:Hid (ah w4 kK #[.bool true,.slice VT lV Xc] 161):=zh (by rw [← EW];exact ((((hq1.setOther _ hne2).setOther _ hne2).set 0 _).set 1 _));have t:=(NU.out.set2 hq0 zd 0 1 (.bool bU) (.slice VU lU Xd)).set2 ((hq1.setOther (a:=⟨iP,0,none⟩) _ hne2).setOther (a:=⟨iP,1,none⟩) _ hne2) zd 0 1 (.bool true) (.slice VT lV Xc);rw [EW] at t;replace NU:=zh t;clear t;have t:=(NV.out.set2 hq0 zd 0 1 (.bool bU) (.slice VU lU Xd)).set2 ((hq1.setOther (a:=⟨iP,0,none⟩) _ hne2).setOther (a:=⟨iP,1,none⟩) _ hne2) zd 0 1 (.bool true) (.slice VT lV Xc);rw [EW] at t;replace NV:=zh t;clear t;rw [EW];have HB:=zh (Bt hk5 hz);replace X2:=X2.bl hz;replace X3:=X3.bl hz;replace X4:=X4.bl hz;have aM0:w.heap.size≤iP:=by omega
 have aL9:w.heap.size≤kK:=by omega
 have n1:kK≠w.heap.size+1+1:=by omega
 have n2:kK≠w.heap.size+1+1+1:=by omega
 have n3:iP≠w.heap.size+1+1:=by omega
 have n4:iP≠w.heap.size+1+1+1:=by omega
 have NBq:=zh (NBp.out.later HB.out);have K1:sz 10000 b.natAbs≤549755813888:=by have:=KB.out;omega
 clear EW hq0 cq0 fq0 hq1 cq1 fq1 WK hz tL zH NBp NQ NR X1 hk5 Nt Ns EH DY DW QJ kg qD yP Km Y2 c2 l2 hl2 hl3 hl4 HS1 HS2 HS3 H0 KA KB HL4;refine (ap2 _ _ _ _ _ NV.out NBq.out (Yq HRz.out) K1).mono ?_;rintro e w5 ⟨bP,TV,lP,UG,rfl,h,hm⟩;replace X2:=X2.bl h;replace X3:=X3.bl h;replace X4:=X4.bl h;replace X5:=X5.bl h;replace X6:=X6.bl h;replace NU:=zh (NU.out.later h);replace HB:=zh (Bt HB.out h);have NP:=zh hm;clear h hm NV NBq K1;have c6:=X6.out.cell;have f6:=X6.out.free;have Y2:=X2.out;have c2:=Y2.cell;have l2:=Y2.lt;have Y5:=X5.out;have c5:=Y5.cell;have l5:=Y5.lt;go_wp2_with fail
 clear c6 f6 c2 l2 c5 l5;obtain ⟨w6,EW⟩:∃ y,((w5.setCell ⟨kK,0,none⟩ (.bool bP)).setCell ⟨kK,1,none⟩ (.slice TV lP UG))=y:=⟨_,rfl⟩;have q6:=X6.out;have q5:=X5.out;have t:=(HB.out.setCell (p:=⟨kK,0,none⟩) aL9 (.bool bP)).setCell (p:=⟨kK,1,none⟩) aL9 (.slice TV lP UG);rw [EW] at t;replace HB:=zh t;clear t;have t:=(q6.set 0 (.bool bP)).set 1 (.slice TV lP UG);rw [EW] at t;replace X6:Hid (ah w6 kK #[.bool bP,.slice TV lP UG] 161):=zh t;clear t;have t:=(q5.setOther (a:=⟨kK,0,none⟩) (.bool bP) hne).setOther (a:=⟨kK,1,none⟩) (.slice TV lP UG) hne;rw [EW] at t;replace X5:=zh t;clear t;have t:=(X3.out.setOther (a:=⟨kK,0,none⟩) (.bool bP) (Ne.symm n1)).setOther (a:=⟨kK,1,none⟩) (.slice TV lP UG) (Ne.symm n1);rw [EW] at t;replace X3:=zh t;clear t
 have t:=(X4.out.setOther (a:=⟨kK,0,none⟩) (.bool bP) (Ne.symm n2)).setOther (a:=⟨kK,1,none⟩) (.slice TV lP UG) (Ne.symm n2);rw [EW] at t;replace X4:=zh t;clear t;have t:=NU.out.set2 q6 zd 0 1 (.bool bP) (.slice TV lP UG);rw [EW] at t;replace NU:=zh t;clear t;have t:=NP.out.set2 q6 zd 0 1 (.bool bP) (.slice TV lP UG);rw [EW] at t;replace NP:=zh t;clear t q5 q6 X2 Y2 Y5;rw [EW];clear EW;have tN:=zh (Below.refl w6.heap.size w6);refine aF [(.read,0),(.ext,1),(.ext,2),(.fin,3)] zk zk zR zP ?_;refine Wk.out ?_;have cX5:=X5.out.cell;have lX5:=X5.out.lt;refine zS ?_;clear cX5 lX5;refine dV rfl rfl (fun we hbe J hJ=>?_);go_simp;have hx:Below w6.heap.size w6 we:=aD;have Gt:=zh (Bt HB.out hx);refine (iQ 1 _ zo zo).mono ?_;rintro e u1 ⟨vi,rfl,h,hm⟩;have hy:=Bt hx h;refine hJ _ _ h ?_;clear hJ J hbe hx h Gt;replace X3:=X3.bl hy;replace X4:=X4.bl hy
 replace X5:=X5.bl hy;replace X6:=X6.bl hy;replace NU:=zh (NU.out.later hy);replace NP:=zh (NP.out.later hy);replace HB:=zh (Bt HB.out hy);replace tN:=zh (Bt tN.out hy);clear hy;have FI:=zh hm;clear hm;have cX5:=X5.out.cell;have lX5:=X5.out.lt;refine zS ?_;clear cX5 lX5;refine dV rfl rfl (fun we hbe J hJ=>?_);go_simp;have hx:Below u1.heap.size u1 we:=aD;have Gt:=zh (Bt HB.out hx);refine (ae6 _ _ _ _ _ (NU.out.later hx) (FI.out.later hx) (Yq HQ.out) au7).mono ?_;rintro e u2 ⟨bX,VR,lX,Xb,rfl,h,hm⟩;have hy:=Bt hx h;refine hJ _ _ h ?_;clear hJ J hbe hx h Gt;replace X3:=X3.bl hy;replace X4:=X4.bl hy;replace X5:=X5.bl hy;replace X6:=X6.bl hy;replace NU:=zh (NU.out.later hy);replace NP:=zh (NP.out.later hy);replace FI:=zh (FI.out.later hy);replace HB:=zh (Bt HB.out hy);replace tN:=zh (Bt tN.out hy);clear hy;have FX:=zh hm;clear hm;have cX5:=X5.out.cell
 have lX5:=X5.out.lt;refine zS ?_;clear cX5 lX5;refine wS [_] rfl (fun u3 hbf=>?_);have hy:Below u2.heap.size u2 u3:=aD;replace X3:=X3.bl hy;replace X4:=X4.bl hy;replace X5:=X5.bl hy;replace X6:=X6.bl hy;replace NU:=zh (NU.out.later hy);replace NP:=zh (NP.out.later hy);replace FI:=zh (FI.out.later hy);replace FX:=zh (FX.out.later hy);replace HB:=zh (Bt HB.out hy);clear hy hbf tN;have q5:=X5.out;have c5:=q5.cell;have f5:=q5.free;clear FI NU;go_wp2_with fail
 clear c5 f5;obtain ⟨w8,EW⟩:∃ y,((u3.setCell ⟨iP,0,none⟩ (.bool bX)).setCell ⟨iP,1,none⟩ (.slice VR lX Xb))=y:=⟨_,rfl⟩;have t:=(HB.out.setCell (p:=⟨iP,0,none⟩) aM0 (.bool bX)).setCell (p:=⟨iP,1,none⟩) aM0 (.slice VR lX Xb);rw [EW] at t;replace HB:=zh t;clear t;have t:=(q5.set 0 (.bool bX)).set 1 (.slice VR lX Xb);rw [EW] at t;replace X5:Hid (ah w8 iP #[.bool bX,.slice VR lX Xb] 161):=zh t;clear t;have t:=(X6.out.setOther (a:=⟨iP,0,none⟩) (.bool bX) hne2).setOther (a:=⟨iP,1,none⟩) (.slice VR lX Xb) hne2;rw [EW] at t;replace X6:=zh t;clear t;have t:=(X3.out.setOther (a:=⟨iP,0,none⟩) (.bool bX) (Ne.symm n3)).setOther (a:=⟨iP,1,none⟩) (.slice VR lX Xb) (Ne.symm n3);rw [EW] at t;have h3:=t;clear t;have t:=(X4.out.setOther (a:=⟨iP,0,none⟩) (.bool bX) (Ne.symm n4)).setOther (a:=⟨iP,1,none⟩) (.slice VR lX Xb) (Ne.symm n4);rw [EW] at t;have h4:=t;clear t
 have t:=NP.out.set2 q5 zd 0 1 (.bool bX) (.slice VR lX Xb);rw [EW] at t;replace NP:=zh t;clear t;have t:=FX.out.set2 q5 zd 0 1 (.bool bX) (.slice VR lX Xb);rw [EW] at t;replace FX:=zh t;clear t q5 X3 X4;rw [EW];clear EW;have c5:=X5.out.cell;have c6:=X6.out.cell;have c3:=h3.cell;have c4:=h4.cell;have f3:=h3.free;have f4:=h4.free;clear X5 X6 hne hne2 HQ HRz;go_region
 go_wp2_with fail
 have h4b:=(h4.setOther (a:=⟨w.heap.size+1+1,0,none⟩) (.bool bX) zi).setOther (a:=⟨w.heap.size+1+1,1,none⟩) (.slice VR lX Xb) zi;have h3b:=(((h3.set 0 (.bool bX)).set 1 (.slice VR lX Xb)).setOther (a:=⟨w.heap.size+1+1+1,0,none⟩) (.bool bP) zi).setOther (a:=⟨w.heap.size+1+1+1,1,none⟩) (.slice TV lP UG) zi;have hU:=(FX.out.set2 h3 zd 0 1 (.bool bX) (.slice VR lX Xb)).set2 h4b zd 0 1 (.bool bP) (.slice TV lP UG);have hV:=(NP.out.set2 h3 zd 0 1 (.bool bX) (.slice VR lX Xb)).set2 h4b zd 0 1 (.bool bP) (.slice TV lP UG);have hk:=HB.out;refine YE rfl rfl (ah.drew h3b) Tryz.underlying161 rfl zk rfl (ah.drew ((h4b.set 0 (.bool bP)).set 1 (.slice TV lP UG))) Tryz.underlying161 rfl zk ?_;exact ⟨_,_,rfl,aD,hU.later (Below.drew (Below.refl _ _)),hV.later (Below.drew (Below.refl _ _))⟩
theorem Xw (x y:Value) (a b:Int) (w:World) (hx:Pl w x a) (hy:Pl w y b) (ha:sz 10000 a.natAbs≤274877906944) (hb:sz 10000 b.natAbs≤274877906944) (hb0:0<b):Calls Tryz.prog 262 #[x,y] w (sP w (a / b) (a%b)):=by
 by_cases h:0≤a∨b ∣ a
 ·exact vB x y a b w hx hy ha hb hb0 h
 ·exact Xv x y a b w hx hy ha hb zo hb0 (fun e=>h (.inr e))
end Go.Proofs.au
namespace Go.Proofs.aC
open Go Go.RowKit Go.SW Go.Num Go.Mem Go.Proofs Go.Dec Go.Proofs.au Go.fF
def flr (q:Rat):Int:=q.num / (q.den:Int)
theorem _root_.Go.Mem.Pl.alloc {w:World} {v:Value} {z:Int} (h:Pl w v z) (o:Obj):Pl (w.alloc o) v z:=h.later ((Below.refl _ _).alloc (Nat.le_refl _) _)
theorem Ve (x:Value) (p:Rat) (w:World) (hx:Ra w x p) (h1:gZ 10000000000 p):Calls Tryz.prog 267 #[x] w (xV w (flr p)):=by
 obtain ⟨bA,je,lA,jG,xP,jX,xE,kD,rfl,hA1,hA2⟩:=id hx;have QA:=zh hx;have NA:=zh hA1;have zI:=zh hA2;obtain ⟨s1,s2⟩:=gZ.four h1;have S1:Hid (sz 10000 p.num.natAbs≤274877906944):=zh zo;have S2:Hid (sz 10000 (p.den:Int).natAbs≤274877906944):=zh zo;have S3:Hid ((0:Int)<(p.den:Int)):=zh (by have:=p.den_pos;omega);clear hx hA1 hA2 s1 s2 h1;unfold flr;go_enter Tryz.func267,Tryz.ntmps267
 go_wp2_with fail
 obtain ⟨jN,EW,hz,X1,X2⟩:=Gj w #[.bool bA,.slice je lA jG,.bool xP,.slice jX xE kD] 163 #[.bool false,.slice none 0 0] 161;rw [EW];replace NA:=zh (NA.out.later hz);replace zI:=zh (zI.out.later hz);have hk2:=Bt (Below.refl _ _) hz;clear EW hz;refine (au.Xw _ _ _ _ _ NA.out zI.out S1.out S2.out S3.out).mono ?_;rintro e kE ⟨q,r,rfl,hb3,hq,hr⟩;obtain ⟨bT,paQ,lQ,caQ,rfl⟩:=hq.agg;obtain ⟨bS,paR,lR,caR,rfl⟩:=hr.agg;replace NA:=zh (NA.out.later hb3);replace zI:=zh (zI.out.later hb3);replace X1:=X1.bl hb3;replace X2:=X2.bl hb3;have hk5:=Bt hk2 hb3;clear hk2;have NQ:=zh hq;clear hb3 hq;obtain ⟨tH,tF,xI⟩:=X2.clf;have hres:=((X2.out.alloc (.cells #[.bool bT,.slice paQ lQ caQ] 161)).alloc (.cells #[.bool bS,.slice paR lR caR] 161));have xK:=hres.cell;have xH:=hres.free;go_wp2_with fail
 have hQ:=(NQ.out.alloc (.cells #[.bool bT,.slice paQ lQ caQ] 161)).alloc (.cells #[.bool bS,.slice paR lR caR] 161);refine dH rfl rfl aJ Tryz.underlying161 rfl zk ?_;exact ⟨_,rfl,aD,hQ.set2 hres zd _ _ _ _⟩
end Go.Proofs.aC
namespace Go.Proofs.au
open Go Go.RowKit Go.SW Go.Num Go.Mem Go.Proofs Go.Dec
def Ic (z:Int):Int × Int:=if -9223372036854775808≤z∧z≤9223372036854775807 then (z,0) else (0,6)
theorem Px:sz 10000 (-9223372036854775808:Int).natAbs≤549755813888:=by decide+kernel
theorem Yp:sz 10000 (9223372036854775807:Int).natAbs≤549755813888:=by decide+kernel
theorem GL {l:List Nat} {k:Nat} (h:k<l.length):val 10000 (l.drop k)=l.getD k 0+10000*val 10000 (l.drop (k+1)):=by
 rw [List.drop_eq_getElem_cons h];simp [val,h]
theorem Ki (x:Value) (z:Int) (w:World) (hx:Pl w x z) (hs:sz 10000 z.natAbs≤549755813888) (hz0:z< -9223372036854775808) :
  Calls Tryz.prog 266 #[x] w (fun e w'=>e= .returned (.tuple #[.int .i64 0,.int .i64 6])∧Below w.heap.size w w'):=by
 obtain ⟨bA,je,lA,jG,rfl⟩:=hx.agg
 have O1:Hid (∀ v v' W,Pl W v z→Pl W v' (-9223372036854775808)→Calls Tryz.prog 264 #[v,v'] W (fun e w'=>e= .returned (.int .i64 (-1))∧Below W.heap.size W w')):=zh fun v v' W h h'=>by
  have:=iI v v' z (-9223372036854775808) W h h' hs Px
  rwa [show zl z (-9223372036854775808)= -1 by unfold zl;rw [if_pos hz0]] at this
 clear hs hz0;have FA:=zh hx;go_enter Tryz.func266,Tryz.ntmps266
 go_wp2_with fail
 obtain ⟨u0,EW,hz,HX⟩:=wO w #[.bool bA,.slice je lA jG] 161;rw [EW];replace FA:=zh (FA.out.later hz);have HB:=zh hz;clear EW hz hx;have tN:=zh (Below.refl u0.heap.size u0);refine aF [(.read,0),(.ext,1),(.ext,2),(.pure,3),(.pure,4),(.read,5),(.ext,6),(.ext,7),(.pure,8),(.pure,9)] zk zk zR zP ?_;refine Wk.out ?_;have wI:=HX.out.cell;have wG:=HX.out.lt;refine zS ?_;clear wI wG;refine dV rfl rfl (fun we hbe J hJ=>?_);go_simp;have hx:Below u0.heap.size u0 we:=aD;have Gt:=zh (Bt HB.out hx);refine (iQ _ _ zo zo).mono ?_;rintro e u1 ⟨vi,rfl,h,hm⟩;have hy:=Bt hx h;refine hJ _ _ h ?_;clear hJ J hbe hx h Gt;replace HX:=zh (HX.out.later hy);replace FA:=zh (FA.out.later hy);replace HB:=zh (Bt HB.out hy);replace tN:=zh (Bt tN.out hy);clear hy;have FI:=zh hm;clear hm;have wI:=HX.out.cell;have wG:=HX.out.lt;refine zS ?_;clear wI wG
 refine dV rfl rfl (fun we hbe J hJ=>?_);go_simp;have hx:Below u1.heap.size u1 we:=aD;have Gt:=zh (Bt HB.out hx);refine (O1.out _ _ _ (FA.out.later hx) (FI.out.later hx)).mono ?_;rintro e u2 ⟨rfl,h⟩;have hy:=Bt hx h;refine hJ _ _ h ?_;clear hJ J hbe hx h Gt;replace HX:=zh (HX.out.later hy);replace FA:=zh (FA.out.later hy);replace FI:=zh (FI.out.later hy);replace HB:=zh (Bt HB.out hy);replace tN:=zh (Bt tN.out hy);clear hy;have wI:=HX.out.cell;have wG:=HX.out.lt;refine zS ?_;clear wI wG;refine mo (fun u3 hbf=>?_);have hy:Below u2.heap.size u2 u3:=aD;replace HX:=zh (HX.out.later hy);replace FA:=zh (FA.out.later hy);replace FI:=zh (FI.out.later hy);replace HB:=zh (Bt HB.out hy);clear hy hbf tN;go_wp2_with fail
 go_ret2
 exact ⟨rfl,HB.out⟩
theorem Ib (x:Value) (z:Int) (w:World) (hx:Pl w x z) (hs:sz 10000 z.natAbs≤549755813888) (hz0:9223372036854775807<z) :
  Calls Tryz.prog 266 #[x] w (fun e w'=>e= .returned (.tuple #[.int .i64 0,.int .i64 6])∧Below w.heap.size w w'):=by
 obtain ⟨bA,je,lA,jG,rfl⟩:=hx.agg
 have O1:Hid (∀ v v' W,Pl W v z→Pl W v' (-9223372036854775808)→Calls Tryz.prog 264 #[v,v'] W (fun e w'=>e= .returned (.int .i64 1)∧Below W.heap.size W w')):=zh fun v v' W h h'=>by
  have:=iI v v' z (-9223372036854775808) W h h' hs Px
  rwa [show zl z (-9223372036854775808)=1 by unfold zl;rw [if_neg zo,if_pos zo]] at this
 have O2:Hid (∀ v v' W,Pl W v z→Pl W v' 9223372036854775807→Calls Tryz.prog 264 #[v,v'] W (fun e w'=>e= .returned (.int .i64 1)∧Below W.heap.size W w')):=zh fun v v' W h h'=>by
  have:=iI v v' z 9223372036854775807 W h h' hs Yp
  rwa [show zl z 9223372036854775807=1 by unfold zl;rw [if_neg zo,if_pos hz0]] at this
 clear hs hz0;have FA:=zh hx;go_enter Tryz.func266,Tryz.ntmps266
 go_wp2_with fail
 obtain ⟨u0,EW,hz,HX⟩:=wO w #[.bool bA,.slice je lA jG] 161;rw [EW];replace FA:=zh (FA.out.later hz);have HB:=zh hz;clear EW hz hx;have tN:=zh (Below.refl u0.heap.size u0);refine aF [(.read,0),(.ext,1),(.ext,2),(.pure,3),(.pure,4),(.read,5),(.ext,6),(.ext,7),(.pure,8),(.pure,9)] zk zk zR zP ?_;refine Wk.out ?_;have wI:=HX.out.cell;have wG:=HX.out.lt;refine zS ?_;clear wI wG;refine dV rfl rfl (fun we hbe J hJ=>?_);go_simp;have hx:Below u0.heap.size u0 we:=aD;have Gt:=zh (Bt HB.out hx);refine (iQ _ _ zo zo).mono ?_;rintro e u1 ⟨vi,rfl,h,hm⟩;have hy:=Bt hx h;refine hJ _ _ h ?_;clear hJ J hbe hx h Gt;replace HX:=zh (HX.out.later hy);replace FA:=zh (FA.out.later hy);replace HB:=zh (Bt HB.out hy);replace tN:=zh (Bt tN.out hy);clear hy;have FI:=zh hm;clear hm;have wI:=HX.out.cell;have wG:=HX.out.lt;refine zS ?_;clear wI wG
 refine dV rfl rfl (fun we hbe J hJ=>?_);go_simp;have hx:Below u1.heap.size u1 we:=aD;have Gt:=zh (Bt HB.out hx);refine (O1.out _ _ _ (FA.out.later hx) (FI.out.later hx)).mono ?_;rintro e u2 ⟨rfl,h⟩;have hy:=Bt hx h;refine hJ _ _ h ?_;clear hJ J hbe hx h Gt;replace HX:=zh (HX.out.later hy);replace FA:=zh (FA.out.later hy);replace FI:=zh (FI.out.later hy);replace HB:=zh (Bt HB.out hy);replace tN:=zh (Bt tN.out hy);clear hy;have wI:=HX.out.cell;have wG:=HX.out.lt;refine zS ?_;clear wI wG;refine dV rfl rfl (fun we hbe J hJ=>?_);go_simp;have hx:Below u2.heap.size u2 we:=aD;have Gt:=zh (Bt HB.out hx);refine (iQ _ _ zo zo).mono ?_;rintro e u3 ⟨vk,rfl,h,hm⟩;have hy:=Bt hx h;refine hJ _ _ h ?_;clear hJ J hbe hx h Gt;replace HX:=zh (HX.out.later hy);replace FA:=zh (FA.out.later hy);replace FI:=zh (FI.out.later hy);replace HB:=zh (Bt HB.out hy)
 replace tN:=zh (Bt tN.out hy);clear hy;have FK:=zh hm;clear hm;have wI:=HX.out.cell;have wG:=HX.out.lt;refine zS ?_;clear wI wG;refine dV rfl rfl (fun we hbe J hJ=>?_);go_simp;have hx:Below u3.heap.size u3 we:=aD;have Gt:=zh (Bt HB.out hx);refine (O2.out _ _ _ (FA.out.later hx) (FK.out.later hx)).mono ?_;rintro e u4 ⟨rfl,h⟩;have hy:=Bt hx h;refine hJ _ _ h ?_;clear hJ J hbe hx h Gt;replace HX:=zh (HX.out.later hy);replace FA:=zh (FA.out.later hy);replace FI:=zh (FI.out.later hy);replace FK:=zh (FK.out.later hy);replace HB:=zh (Bt HB.out hy);replace tN:=zh (Bt tN.out hy);clear hy;have wI:=HX.out.cell;have wG:=HX.out.lt;refine zS ?_;clear wI wG;refine mo (fun u5 hbf=>?_);have hy:Below u4.heap.size u4 u5:=aD;replace HX:=zh (HX.out.later hy);replace FA:=zh (FA.out.later hy);replace FI:=zh (FI.out.later hy);replace FK:=zh (FK.out.later hy)
 replace HB:=zh (Bt HB.out hy);clear hy hbf tN;go_wp2_with fail
 go_ret2
 exact ⟨rfl,HB.out⟩
theorem Nn (x:Value) (z:Int) (w:World) (hx:Pl w x z) (hs:sz 10000 z.natAbs≤549755813888) (hz0: -9223372036854775808≤z∧z≤9223372036854775807) :
  Calls Tryz.prog 266 #[x] w (fun e w'=>e= .returned (.tuple #[.int .i64 z,.int .i64 0])∧Below w.heap.size w w'):=by
 obtain ⟨bA,je,lA,jG,rfl⟩:=hx.agg;have O1:Hid (∃ o:Int,0≤o∧∀ v v' W,Pl W v z→Pl W v' (-9223372036854775808)→Calls Tryz.prog 264 #[v,v'] W (fun e w'=>e= .returned (.int .i64 o)∧Below W.heap.size W w')):=zh ⟨zl z (-9223372036854775808),by unfold zl;rw [if_neg zo];split<;>omega,fun v v' W h h'=>iI v v' z (-9223372036854775808) W h h' hs Px⟩;have O2:Hid (∃ o:Int,o≤0∧∀ v v' W,Pl W v z→Pl W v' 9223372036854775807→Calls Tryz.prog 264 #[v,v'] W (fun e w'=>e= .returned (.int .i64 o)∧Below W.heap.size W w')):=zh ⟨zl z 9223372036854775807,by unfold zl;split;omega;rw [if_neg zo];omega,fun v v' W h h'=>iI v v' z 9223372036854775807 W h h' hs Yp⟩;obtain ⟨o1,ho1,O1⟩:=O1.out;obtain ⟨o2,ho2,O2⟩:=O2.out;replace O1:=zh O1;replace O2:=zh O2;have q1:decide (o1<0)=false:=decide_eq_false zo;have q2:decide (0<o2)=false:=decide_eq_false zo;obtain ⟨hn,hbz⟩:=hx.nm
 obtain ⟨l,El⟩:∃ l,bW 10000 z.natAbs=l:=⟨_,rfl⟩;obtain ⟨pa',Ph,e,k1,k2,k3⟩:=hn.read;simp only [Value.slice.injEq] at e;obtain ⟨rfl,rfl,rfl⟩:=e;rw [El] at k3;have hl:l.length=sz 10000 z.natAbs:=by rw [← El];rfl
 have hvl:val 10000 l=z.natAbs:=by rw [← El];exact aP zo _
 have hlL:sz 10000 z.natAbs≤549755813888:=hs;obtain ⟨L,EL⟩:∃ L,sz 10000 z.natAbs=L:=⟨_,rfl⟩;rw [EL] at hl k1 k3 hx hlL;have K3:=zh k3;have HL:=zh hl;have HVL:=zh hvl;have HBZ:=zh hbz;have HZ0:=zh hz0;clear hs hz0 ho1 ho2 k3 hl hvl hbz hn El;rw [EL];clear EL;have FA:=zh hx;go_enter Tryz.func266,Tryz.ntmps266
 go_wp2_with fail
 obtain ⟨u0,EW,hz,HX⟩:=wO w #[.bool bA,.slice je L jG] 161;rw [EW];replace FA:=zh (FA.out.later hz);have HB:=zh hz;clear EW hz hx;have tN:=zh (Below.refl u0.heap.size u0);refine aF [(.read,0),(.ext,1),(.ext,2),(.pure,3),(.pure,4),(.read,5),(.ext,6),(.ext,7),(.pure,8),(.pure,9)] zk zk zR zP ?_;refine Wk.out ?_;have wI:=HX.out.cell;have wG:=HX.out.lt;refine zS ?_;clear wI wG;refine dV rfl rfl (fun we hbe J hJ=>?_);go_simp;have hx:Below u0.heap.size u0 we:=aD;have Gt:=zh (Bt HB.out hx);refine (iQ _ _ zo zo).mono ?_;rintro e u1 ⟨vi,rfl,h,hm⟩;have hy:=Bt hx h;refine hJ _ _ h ?_;clear hJ J hbe hx h Gt;replace HX:=zh (HX.out.later hy);replace FA:=zh (FA.out.later hy);replace HB:=zh (Bt HB.out hy);replace tN:=zh (Bt tN.out hy);clear hy;have FI:=zh hm;clear hm;have wI:=HX.out.cell;have wG:=HX.out.lt;refine zS ?_;clear wI wG
 refine dV rfl rfl (fun we hbe J hJ=>?_);go_simp;have hx:Below u1.heap.size u1 we:=aD;have Gt:=zh (Bt HB.out hx);refine (O1.out _ _ _ (FA.out.later hx) (FI.out.later hx)).mono ?_;rintro e u2 ⟨rfl,h⟩;have hy:=Bt hx h;refine hJ _ _ h ?_;clear hJ J hbe hx h Gt;replace HX:=zh (HX.out.later hy);replace FA:=zh (FA.out.later hy);replace FI:=zh (FI.out.later hy);replace HB:=zh (Bt HB.out hy);replace tN:=zh (Bt tN.out hy);clear hy;have wI:=HX.out.cell;have wG:=HX.out.lt;refine zS ?_;clear wI wG;refine dV rfl rfl (fun we hbe J hJ=>?_);go_simp;have hx:Below u2.heap.size u2 we:=aD;have Gt:=zh (Bt HB.out hx);refine (iQ _ _ zo zo).mono ?_;rintro e u3 ⟨vk,rfl,h,hm⟩;have hy:=Bt hx h;refine hJ _ _ h ?_;clear hJ J hbe hx h Gt;replace HX:=zh (HX.out.later hy);replace FA:=zh (FA.out.later hy);replace FI:=zh (FI.out.later hy);replace HB:=zh (Bt HB.out hy)
 replace tN:=zh (Bt tN.out hy);clear hy;have FK:=zh hm;clear hm;have wI:=HX.out.cell;have wG:=HX.out.lt;refine zS ?_;clear wI wG;refine dV rfl rfl (fun we hbe J hJ=>?_);go_simp;have hx:Below u3.heap.size u3 we:=aD;have Gt:=zh (Bt HB.out hx);refine (O2.out _ _ _ (FA.out.later hx) (FK.out.later hx)).mono ?_;rintro e u4 ⟨rfl,h⟩;have hy:=Bt hx h;refine hJ _ _ h ?_;clear hJ J hbe hx h Gt;replace HX:=zh (HX.out.later hy);replace FA:=zh (FA.out.later hy);replace FI:=zh (FI.out.later hy);replace FK:=zh (FK.out.later hy);replace HB:=zh (Bt HB.out hy);replace tN:=zh (Bt tN.out hy);clear hy;have wI:=HX.out.cell;have wG:=HX.out.lt;refine zS ?_;clear wI wG;refine mo (fun u5 hbf=>?_);have hy:Below u4.heap.size u4 u5:=aD;replace HX:=zh (HX.out.later hy);replace FA:=zh (FA.out.later hy);replace FI:=zh (FI.out.later hy);replace FK:=zh (FK.out.later hy)
 replace HB:=zh (Bt HB.out hy);clear hy hbf tN;obtain ⟨ws,EZ⟩:∃ y,y=u5:=⟨_,rfl⟩;have c0:=HX.out.cell;have l0:=HX.out.lt;rw [← EZ] at HX HB c0 l0 ⊢;clear EZ O1 O2 FA FI FK;go_wp2_with fail
 go_loopw [4,5] (fun nv iv wr=>∃ (q n:Int), -1≤q∧q<L∧iv= .int .i64 q∧nv= .int .i64 n∧Hid (n= -(val 10000 (l.drop (q+1).toNat):Int))∧wr=ws) (fun _ iv _=>(intOf iv+1).toNat)
 case atStart =>
  have e:((L:Int) - 1+1).toNat=l.length:=by have:=HL.out;omega
  exact ⟨(L:Int) - 1,0,by omega,by omega,by go_num,rfl,zh (by rw [e,List.drop_length];rfl),rfl⟩
 case round =>
  obtain ⟨q,n,hq1,hq2,rfl,rfl,HN,rfl⟩:=hrel
  by_cases hq:q<0
  ·obtain rfl:q= -1:=by omega
   have hn:n= -(z.natAbs:Int):=by have:=HN.out;rw [← HVL.out];simpa using this
   clear HN hq hq1 hq2
   rcases (show z<0∨0≤z by omega) with h0|h0
   ·have hb1:bA=true:=HBZ.out.trans (decide_eq_true h0);have hnz:n=z:=by omega
    subst hb1 hnz;go_wp2_with fail
    go_ret2
    exact ⟨rfl,HB.out⟩
   ·have hb1:bA=false:=HBZ.out.trans (decide_eq_false zo);have hnz:n= -z:=by omega
    subst hb1 hnz
    have hw:IntKind.i64.wrap (- -z)=z:=by
     have:=HZ0.out;rw [Int.neg_neg];unfold IntKind.wrap;simp [IntKind.bits,IntKind.signed];omega
    have hw2:wrap64 (z.natAbs:Int)=z:=by have:=HZ0.out;unfold wrap64;omega
    go_wp2_with fail
    go_ret2
    refine ⟨?_,HB.out⟩
    show Ending.returned (.tuple #[.int .i64 (wrap64 _),.int .i64 0])=_
    rw [hw2]
  ·obtain ⟨k,rfl⟩:∃ k:Nat,q=(k:Int):=⟨q.toNat,by omega⟩;obtain ⟨b,off,e,h1,h2⟩:=K3.out k zo;have hcl:=(HB.out.cell (p:=⟨b,off+k,none⟩) h1).trans h2;have hst:=GL (l:=l) (k:=k) (by have:=HL.out;omega);have hle:=uf 10000 zo l k;have hv:=HVL.out;have hz0:=HZ0.out;have hn:=HN.out;rw [show ((k:Int)+1).toNat=k+1 by omega] at hn;obtain ⟨d,ed⟩:∃ d,l.getD k 0=d:=⟨_,rfl⟩;obtain ⟨m,em⟩:∃ m,val 10000 (l.drop (k+1))=m:=⟨_,rfl⟩;rw [ed,em] at hst;rw [ed] at hcl;rw [em] at hn;subst hn
   have hw1:IntKind.i64.wrap (-(m:Int)*10000)= -(m:Int)*10000:=by
    unfold IntKind.wrap;simp [IntKind.bits,IntKind.signed];omega
   have hw2:IntKind.i64.wrap (-(m:Int)*10000 - (d:Int))= -((d+10000*m:Nat):Int):=by
    unfold IntKind.wrap;simp [IntKind.bits,IntKind.signed];omega
   have HS:=zh hst;subst e;have hbl:=Nat.lt_of_lt_of_le h1 HB.out.size;clear hst hle hv hz0 h1 h2 HN;go_wp2_with fail
   go_roundw
   case rel=>exact ⟨(k:Int) - 1,_,by omega,by omega,by go_num,rfl,zh (by rw [show ((k:Int) - 1+1).toNat=k by omega,HS.out];omega),trivial⟩
   case measure=>simp [intOf]<;>omega
theorem Br (x:Value) (z:Int) (w:World) (hx:Pl w x z) (hs:sz 10000 z.natAbs≤549755813888) :
  Calls Tryz.prog 266 #[x] w (fun e w'=>e= .returned (.tuple #[.int .i64 (Ic z).1,.int .i64 (Ic z).2])∧Below w.heap.size w w'):=by
 unfold Ic
 by_cases h: -9223372036854775808≤z∧z≤9223372036854775807
 ·rw [if_pos h];exact Nn x z w hx hs h
 ·rw [if_neg h]
  by_cases h2:z< -9223372036854775808
  ·exact Ki x z w hx hs h2
  ·exact Ib x z w hx hs zo
end Go.Proofs.au
namespace Go.Proofs.aN
open Go Go.RowKit Go.SW Go.Num Go.Mem Go.Proofs Go.Dec Go.fF Go.Proofs.aW Go.Proofs.aC Go.Proofs.au
theorem dG (lo hi:Int) (w:World):Calls Tryz.prog 164 #[.agg #[.int .i64 lo,.int .i64 hi]] w (fun e w'=>e= .returned (.bool (dY lo hi))∧Below w.heap.size w w'):=by
 unfold dY;cases h1:decide (-1000000000000000000≤lo)<;>cases h2:decide (lo≤hi)<;>cases h3:decide (hi≤1000000000000000000)
 all_goals
  go_enter Tryz.func164,Tryz.ntmps164
  go_wp2_with fail
  go_ret
  exact ⟨rfl,aD⟩
def un (n:Int):Rat:=(n:Rat) / ((1000000000000:Int):Rat)
theorem gI (n:Int) (h1: -9223372036854775808≤n) (h2:n≤9223372036854775807) (w:World):Calls Tryz.prog 216 #[.int .i64 n] w (jM w (un n)):=by
 have H:=zh (fun W=>rD n 1000000000000 h1 h2 zo zo zo W);have e:((n:Rat) / ((1000000000000:Int):Rat))=un n:=rfl;rw [e] at H;generalize un n=q at *;go_enter Tryz.func216,Tryz.ntmps216
 go_wp2_with fail
 obtain ⟨jN,EW,hz,X1⟩:=wO w #[.bool false,.slice none 0 0,.bool false,.slice none 0 0] 163;rw [EW];have hk2:=Bt (Below.refl _ _) hz;clear EW hz;refine (H.out _).mono ?_;rintro e kE ⟨v,rfl,hb3,hv4⟩;obtain ⟨bC,paC,lC,caC,bCd,aS0,lCd,aW8,rfl,hx4,hy4⟩:=id hv4;replace X1:=X1.bl hb3;have hk5:=Bt hk2 hb3;clear hk2;have QC:=zh hv4;clear hb3 hv4 hx4 hy4;obtain ⟨jV,jU,lJ⟩:=X1.clf;have hres:=X1.out;have xK:=hres.cell;have xH:=hres.free;go_wp2_with fail
 refine dH rfl rfl aJ Tryz.underlying163 rfl zk ?_;exact ⟨_,rfl,aD,Ra.GR QC.out hres zd _ _ _ _⟩
def jh (a b:Rat):(Int × Int) × Int:=dK (flr (a*((1000000000000:Int):Rat))) (-(flr (-(b*((1000000000000:Int):Rat)))))
theorem aK1:((1000000000000:Int):Rat) / ((1:Int):Rat)=((1000000000000:Int):Rat):=by decide+kernel
theorem Tk:gZ 2 ((1000000000000:Int):Rat):=by constructor<;>decide+kernel
theorem aa3 {q:Rat} {k:Nat} (h:gZ k q) (hk:k≤100000):sz 10000 (flr q).natAbs≤549755813888:=by
 obtain ⟨s1,s2⟩:=gZ.four h;have hd:=q.den_pos
 have h1:(flr q).natAbs≤q.num.natAbs:=by
  unfold flr;exact Int.natAbs_ediv_le_natAbs _ _
 exact Nat.le_trans (dh zo h1) zo
theorem Gc {X Y:Int} (h:X< -1000000000000000000∨1000000000000000000<Y∨Y<X):dY X Y=false:=by
 unfold dY
 rcases h with h|h|h
 ·rw [decide_eq_false (show ¬ -1000000000000000000≤X by omega)];rfl
 ·rw [decide_eq_false (show ¬ Y≤1000000000000000000 by omega)];simp
 ·rw [decide_eq_false (show ¬ X≤Y by omega)];simp
theorem qH {X Y:Int} (h:dY X Y=true): -1000000000000000000≤X∧X≤Y∧Y≤1000000000000000000:=by
 unfold dY at h
 simpa using h
theorem zy (x y:Value) (a b:Rat) (w:World) (hx:Ra w x a) (hy:Ra w y b) (h1:gZ 1000 a) (h2:gZ 1000 b) :
  Calls Tryz.prog 214 #[x,y] w (fun e w'=>e= .returned (aY (jh a b))∧Below w.heap.size w w'):=by
 obtain ⟨bA,je,lA,jG,xP,jX,xE,kD,rfl, -⟩:=id hx;obtain ⟨bB,nK,lB,nN,Yd,Bz,Ya,BP,rfl, -⟩:=id hy;have s1:=jT (h1.mono (show 1000≤1000 by omega)) (Tk.mono (show 2≤1000 by omega));have s2:=jT (h2.mono (show 1000≤1000 by omega)) (Tk.mono (show 2≤1000 by omega));have hQ:=zh (fun W=>(rD 1000000000000 1 zo zo zo zo zo W).mono fun _ _ q=>iK (aK1 ▸ q));have T1:=zh (fun v v' W (h:Ra W v a) (h':Ra W v' ((1000000000000:Int):Rat))=>gN v v' a _ W h h' (h1.mono zo) (Tk.mono zo));have T2:=zh (fun v v' W (h:Ra W v b) (h':Ra W v' ((1000000000000:Int):Rat))=>gN v v' b _ W h h' (h2.mono zo) (Tk.mono zo));have D1:=zh (fun v W (h:Ra W v (a*((1000000000000:Int):Rat)))=>Ve v _ W h (s1.mono zo));have D2:=zh (fun v W (h:Ra W v (-(b*((1000000000000:Int):Rat))))=>Ve v _ W h ((vI s2).mono zo));have z1:=aa3 s1 zo
 have z2:=aa3 (vI s2) zo;unfold jh;generalize ((1000000000000:Int):Rat)=E at *;generalize flr (a*E)=X at *;generalize flr (-(b*E))=Y at *;have J1:=zh (fun v W (h:Pl W v X)=>Br v X W h z1);have J2:=zh (fun v W (h:Pl W v Y)=>Br v Y W h z2);obtain ⟨⟨X',e1⟩,EX⟩:∃ y,Ic X=y:=⟨_,rfl⟩;obtain ⟨⟨Y',e2⟩,EY⟩:∃ y,Ic Y=y:=⟨_,rfl⟩;rw [EX] at J1;rw [EY] at J2;have HEX:=zh EX;have HEY:=zh EY;have QA:=zh hx;have QB:=zh hy;clear hx hy h1 h2 s1 s2 z1 z2 EX EY;go_enter Tryz.func214,Tryz.ntmps214
 go_wp2_with fail
 obtain ⟨u0,EW,hz,HX,HY,HR⟩:=Ji w #[.bool bA,.slice je lA jG,.bool xP,.slice jX xE kD] 163 #[.bool bB,.slice nK lB nN,.bool Yd,.slice Bz Ya BP] 163 #[.int .i64 0,.int .i64 0] 40;rw [EW];replace QA:=zh (QA.out.later hz);replace QB:=zh (QB.out.later hz);have HB:=zh hz;clear EW hz;refine (hQ.out _).mono ?_;rintro e u1 ⟨bO,paO,lO,caO,bOd,YR,lOd,ac3,rfl,h,hm⟩;replace HX:=zh (HX.out.later h);replace HY:=zh (HY.out.later h);replace HR:=zh (HR.out.later h);replace QA:=zh (QA.out.later h);replace QB:=zh (QB.out.later h);replace HB:=zh (Bt HB.out h);clear h;have QO:=zh hm;clear hm;have wI:=HX.out.cell;have wG:=HX.out.lt;go_wp2_with fail
 clear wI wG;obtain ⟨v1,EW,hz,HO⟩:=wO u1 #[.bool bO,.slice paO lO caO,.bool bOd,.slice YR lOd ac3] 163;rw [EW];obtain ⟨bq,ebq⟩:∃ y,u1.heap.size=y:=⟨_,rfl⟩;rw [ebq] at HO ⊢;clear EW ebq;replace HX:=zh (HX.out.later hz);replace HY:=zh (HY.out.later hz);replace HR:=zh (HR.out.later hz);replace QA:=zh (QA.out.later hz);replace QB:=zh (QB.out.later hz);replace QO:=zh (QO.out.later hz);replace HB:=zh (Bt HB.out hz);clear hz;refine (T1.out _ _ _ QA.out QO.out).mono ?_;rintro e u2 ⟨vt,rfl,h,hm⟩;replace HX:=zh (HX.out.later h);replace HY:=zh (HY.out.later h);replace HR:=zh (HR.out.later h);replace QA:=zh (QA.out.later h);replace QB:=zh (QB.out.later h);replace QO:=zh (QO.out.later h);replace HO:=zh (HO.out.later h);replace HB:=zh (Bt HB.out h);clear h;have FT:=zh hm;clear hm;go_wp2_with fail
 refine (D1.out _ _ FT.out).mono ?_;rintro e u3 ⟨vd,rfl,h,hm⟩;replace HX:=zh (HX.out.later h);replace HY:=zh (HY.out.later h);replace HR:=zh (HR.out.later h);replace QA:=zh (QA.out.later h);replace QB:=zh (QB.out.later h);replace QO:=zh (QO.out.later h);replace HO:=zh (HO.out.later h);replace FT:=zh (FT.out.later h);replace HB:=zh (Bt HB.out h);clear h;have FD:=zh hm;clear hm;go_wp2_with fail
 refine (J1.out _ _ FD.out).mono ?_;rintro e u4 ⟨rfl,h⟩;replace HX:=zh (HX.out.later h);replace HY:=zh (HY.out.later h);replace HR:=zh (HR.out.later h);replace QA:=zh (QA.out.later h);replace QB:=zh (QB.out.later h);replace QO:=zh (QO.out.later h);replace HO:=zh (HO.out.later h);replace FT:=zh (FT.out.later h);replace FD:=zh (FD.out.later h);replace HB:=zh (Bt HB.out h);clear h;have cHY:=HY.out.cell;have lHY:=HY.out.lt;have cHO:=HO.out.cell;have lHO:=HO.out.lt;go_wp2_with fail
 clear cHY lHY;clear cHO lHO;clear FT FD;refine (T2.out _ _ _ QB.out QO.out).mono ?_;rintro e u5 ⟨vt2,rfl,h,hm⟩;replace HX:=zh (HX.out.later h);replace HY:=zh (HY.out.later h);replace HR:=zh (HR.out.later h);replace QA:=zh (QA.out.later h);replace QB:=zh (QB.out.later h);replace QO:=zh (QO.out.later h);replace HO:=zh (HO.out.later h);replace HB:=zh (Bt HB.out h);clear h;have FT:=zh hm;clear hm;go_wp2_with fail
 refine (aC.vZ _ _ _ FT.out).mono ?_;rintro e u6 ⟨vu,rfl,h,hm⟩;replace HX:=zh (HX.out.later h);replace HY:=zh (HY.out.later h);replace HR:=zh (HR.out.later h);replace QA:=zh (QA.out.later h);replace QB:=zh (QB.out.later h);replace QO:=zh (QO.out.later h);replace HO:=zh (HO.out.later h);replace FT:=zh (FT.out.later h);replace HB:=zh (Bt HB.out h);clear h;have FU:=zh hm;clear hm;go_wp2_with fail
 refine (D2.out _ _ FU.out).mono ?_;rintro e u7 ⟨vd2,rfl,h,hm⟩;replace HX:=zh (HX.out.later h);replace HY:=zh (HY.out.later h);replace HR:=zh (HR.out.later h);replace QA:=zh (QA.out.later h);replace QB:=zh (QB.out.later h);replace QO:=zh (QO.out.later h);replace HO:=zh (HO.out.later h);replace FT:=zh (FT.out.later h);replace FU:=zh (FU.out.later h);replace HB:=zh (Bt HB.out h);clear h;have FD:=zh hm;clear hm;go_wp2_with fail
 refine (J2.out _ _ FD.out).mono ?_;rintro e u8 ⟨rfl,h⟩;replace HX:=zh (HX.out.later h);replace HY:=zh (HY.out.later h);replace HR:=zh (HR.out.later h);replace QA:=zh (QA.out.later h);replace QB:=zh (QB.out.later h);replace QO:=zh (QO.out.later h);replace HO:=zh (HO.out.later h);replace FT:=zh (FT.out.later h);replace FU:=zh (FU.out.later h);replace FD:=zh (FD.out.later h);replace HB:=zh (Bt HB.out h);clear h;have hr:=HR.out;have cr:=hr.cell;have fr:=hr.free;have hb:=HB.out;have EX:=HEX.out;have EY:=HEY.out;unfold Ic at EX EY;clear HX HY HO QA QB QO FT FU FD HB HR T1 T2 D1 D2 J1 J2 hQ HEX HEY;have bad:dY X (-Y)=false→dK X (-Y)=((0,0),6):=fun h=>by unfold dK;rw [h];rfl
 have ab0:∀ {r:(Int × Int) × Int},dK X (-Y)=r→dK X (-Y)=r:=fun h=>h
 by_cases gx: -9223372036854775808≤X∧X≤9223372036854775807
 ·rw [if_pos gx] at EX;simp only [Prod.mk.injEq] at EX;obtain ⟨rfl,rfl⟩:=EX
  by_cases gy: -9223372036854775808≤Y∧Y≤9223372036854775807
  ·rw [if_pos gy] at EY;simp only [Prod.mk.injEq] at EY;obtain ⟨rfl,rfl⟩:=EY
   by_cases g0:Y= -9223372036854775808
   ·subst g0;have hm:=bad (Gc zo);clear bad ab0 gx gy;go_wp2_with fail
    refine aM rfl rfl ((hr.set 0 _).set 1 _) Tryz.underlying40 rfl zk ?_;exact ⟨by rw [hm];rfl,(hb.setCell (p:=⟨w.heap.size+1+1,0,none⟩) (by show w.heap.size≤w.heap.size+1+1;omega) _).setCell (p:=⟨w.heap.size+1+1,1,none⟩) (by show w.heap.size≤w.heap.size+1+1;omega) _⟩
   ·have hy0:(Y == -9223372036854775808)=false:=by simpa using g0
    have hw:wrap64 (-Y)= -Y:=by unfold wrap64;omega
    have RT:=zh (fun W=>dG X (-Y) W);cases hbk:dY X (-Y)
    ·have hm:=bad hbk;rw [hbk] at RT;clear bad ab0 gx gy hbk;go_wp2_with fail
     refine (RT.out _).mono ?_;rintro e u9 ⟨rfl,h⟩;replace hr:=hr.later h;replace hb:=Bt hb h;clear cr fr h;have cr:=hr.cell;have fr:=hr.free;go_wp2_with fail
     refine aM rfl rfl ((hr.set 0 _).set 1 _) Tryz.underlying40 rfl zk ?_;exact ⟨by rw [hm];rfl,(hb.setCell (p:=⟨w.heap.size+1+1,0,none⟩) (by show w.heap.size≤w.heap.size+1+1;omega) _).setCell (p:=⟨w.heap.size+1+1,1,none⟩) (by show w.heap.size≤w.heap.size+1+1;omega) _⟩
    ·have hm:dK X (-Y)=((X, -Y),0):=by unfold dK;rw [hbk];rfl
     rw [hbk] at RT;clear bad ab0 gx gy hbk;go_wp2_with fail
     refine (RT.out _).mono ?_;rintro e u9 ⟨rfl,h⟩;replace hr:=hr.later h;replace hb:=Bt hb h;clear cr fr h;have cr:=hr.cell;have fr:=hr.free;go_wp2_with fail
     refine aM rfl rfl ((hr.set 0 _).set 1 _) Tryz.underlying40 rfl zk ?_;exact ⟨by rw [hm];rfl,(hb.setCell (p:=⟨w.heap.size+1+1,0,none⟩) (by show w.heap.size≤w.heap.size+1+1;omega) _).setCell (p:=⟨w.heap.size+1+1,1,none⟩) (by show w.heap.size≤w.heap.size+1+1;omega) _⟩
  ·rw [if_neg gy] at EY;simp only [Prod.mk.injEq] at EY;obtain ⟨rfl,rfl⟩:=EY;have hm:=bad (Gc zo);clear bad ab0 gx gy;go_wp2_with fail
   refine aM rfl rfl ((hr.set 0 _).set 1 _) Tryz.underlying40 rfl zk ?_;exact ⟨by rw [hm];rfl,(hb.setCell (p:=⟨w.heap.size+1+1,0,none⟩) (by show w.heap.size≤w.heap.size+1+1;omega) _).setCell (p:=⟨w.heap.size+1+1,1,none⟩) (by show w.heap.size≤w.heap.size+1+1;omega) _⟩
 ·rw [if_neg gx] at EX;simp only [Prod.mk.injEq] at EX;obtain ⟨rfl,rfl⟩:=EX;have hm:=bad (Gc zo);clear bad ab0 gx;go_wp2_with fail
  refine aM rfl rfl ((hr.set 0 _).set 1 _) Tryz.underlying40 rfl zk ?_;exact ⟨by rw [hm];rfl,(hb.setCell (p:=⟨w.heap.size+1+1,0,none⟩) (by show w.heap.size≤w.heap.size+1+1;omega) _).setCell (p:=⟨w.heap.size+1+1,1,none⟩) (by show w.heap.size≤w.heap.size+1+1;omega) _⟩
end Go.Proofs.aN
namespace Go.Proofs.aN
open Go Go.Num Go.fF Go.Proofs.aW Go.Proofs.aC
theorem uR (q:Rat):flr q=q.floor:=(Rat.floor_def q).symm
theorem yG (a b:Rat): -(a / b)= -a / b:=by rw [Rat.div_def,Rat.div_def,Rat.neg_mul]
theorem ou (n:Int) {d:Int} (hd:0<d):((n:Rat) / (d:Rat)).floor=n / d:=by
 have hd':(0:Rat)<(d:Rat):=by exact_mod_cast hd
 have key:∀ x:Int,x≤((n:Rat) / (d:Rat)).floor↔x≤n / d:=fun x=>by
  rw [Rat.le_floor_iff,Int.le_ediv_iff_mul_le hd];have e:(n:Rat) / (d:Rat)*(d:Rat)=(n:Rat):=Rat.div_mul_cancel (fun h=>by rw [h] at hd';exact absurd hd' zd)
  constructor
  ·intro h;have:=Rat.mul_le_mul_of_nonneg_right h (Rat.le_of_lt hd');rw [e] at this
   exact_mod_cast this
  ·intro h;refine Rat.le_of_mul_le_mul_right (c:=(d:Rat)) ?_ hd';rw [e]
   exact_mod_cast h
 exact Int.le_antisymm ((key _).1 (Int.le_refl _)) ((key _).2 (Int.le_refl _))
theorem as6:(0:Rat)<((1000000000000:Int):Rat):=by decide+kernel
theorem aE0:((1000000000000:Int):Rat)≠0:=by decide+kernel
theorem LH (n:Int):un n*((1000000000000:Int):Rat)=(n:Rat):=by
 have:=aE0;unfold un;generalize ((1000000000000:Int):Rat)=E at *
 grind
theorem Te (x y:Int):un x*un y*((1000000000000:Int):Rat)=((x*y:Int):Rat) / ((1000000000000:Int):Rat):=by
 have:=aE0;unfold un;rw [Rat.intCast_mul];generalize ((1000000000000:Int):Rat)=E at *
 grind
theorem Iw (a b c d:Int):jh (un a+un b) (un c+un d)=dK (a+b) (c+d):=by
 unfold jh;rw [uR,uR,Rat.add_mul,Rat.add_mul,LH,LH,LH,LH,← Rat.intCast_add,← Rat.intCast_add,← Rat.intCast_neg,Rat.floor_intCast,Rat.floor_intCast]
 congr 1
 omega
theorem JA (q:Rat):jh q q=dK (pG (q.num*1000000000000) q.den false) (pG (q.num*1000000000000) q.den true):=by
 have hd:(0:Int)<(q.den:Int):=by have:=q.den_pos;omega
 have hd0:((q.den:Int):Rat)≠0:=by
  have:(q.den:Int)≠0:=by omega
  exact_mod_cast this
 have e:q*((1000000000000:Int):Rat)=((q.num*1000000000000:Int):Rat) / ((q.den:Int):Rat):=by
  rw [Rat.intCast_mul];have h:=rR q;generalize ((1000000000000:Int):Rat)=E at *;generalize (q.num:Rat)=n at *;generalize ((q.den:Int):Rat)=d at *;rw [h]
  grind
 have e2: -(q*((1000000000000:Int):Rat))=((-(q.num*1000000000000):Int):Rat) / ((q.den:Int):Rat):=by
  rw [e,Rat.intCast_neg,yG]
 unfold jh;rw [uR,uR,e2,e,ou _ hd,ou _ hd];rfl
def gX (m:Rat):List Rat→Rat
 | []=>m
 | x::l=>gX (if x<m then x else m) l
def dN (m:Rat):List Rat→Rat
 | []=>m
 | x::l=>dN (if m<x then x else m) l
theorem aK3 (p q r s:Rat):(gX p [q,r,s]=p∨gX p [q,r,s]=q∨gX p [q,r,s]=r∨gX p [q,r,s]=s)∧gX p [q,r,s]≤p∧gX p [q,r,s]≤q∧gX p [q,r,s]≤r∧gX p [q,r,s]≤s:=by
 unfold gX gX gX gX
 grind
theorem ar9 (p q r s:Rat):(dN p [q,r,s]=p∨dN p [q,r,s]=q∨dN p [q,r,s]=r∨dN p [q,r,s]=s)∧p≤dN p [q,r,s]∧q≤dN p [q,r,s]∧r≤dN p [q,r,s]∧s≤dN p [q,r,s]:=by
 unfold dN dN dN dN
 grind
theorem vD {a b:Rat} (h:a≤b):(a*((1000000000000:Int):Rat)).floor≤(b*((1000000000000:Int):Rat)).floor:=Rat.floor_monotone (Rat.mul_le_mul_of_nonneg_right h (Rat.le_of_lt as6))
theorem vE {a b:Rat} (h:a≤b): -((-(a*((1000000000000:Int):Rat))).floor)≤ -((-(b*((1000000000000:Int):Rat))).floor):=by
 have h2:=Rat.floor_monotone (Rat.neg_le_neg (Rat.mul_le_mul_of_nonneg_right h (Rat.le_of_lt as6)));omega
theorem JL (n:Int) {d:Nat} (hd:0<d):pG n d false≤pG n d true:=by
 unfold pG;simp only [Bool.false_eq_true,if_false,if_true];have h1:=Int.mul_ediv_self_le (x:=n) (k:=(d:Int)) zo;have h2:=Int.mul_ediv_self_le (x:= -n) (k:=(d:Int)) zo;have h3:(d:Int)*(n / d)≤(d:Int)*(-(-n / d)):=by rw [Int.mul_neg];omega
 exact Int.le_of_mul_le_mul_left h3 zo
theorem IJ (x y:Int):(un x*un y*((1000000000000:Int):Rat)).floor=pG (x*y) 1000000000000 false:=by rw [Te,ou _ zo];rfl
theorem Tx (x y:Int): -((-(un x*un y*((1000000000000:Int):Rat))).floor)=pG (x*y) 1000000000000 true:=by
 rw [Te,yG,← Rat.intCast_neg,ou _ zo];rfl
theorem pV (x y:Int) (up:Bool):((jI x y 1000000000000 up).2=true→(jI x y 1000000000000 up).1=pG (x*y) 1000000000000 up∧(pG (x*y) 1000000000000 up).natAbs≤1000000000000000000)∧((jI x y 1000000000000 up).2=false→1000000000000000000<(pG (x*y) 1000000000000 up).natAbs):=by
 by_cases h:(pG (x*y) 1000000000000 up).natAbs≤1000000000000000000
 ·rw [show jI x y 1000000000000 up=(pG (x*y) 1000000000000 up,true) from if_pos h];exact ⟨fun _=>⟨rfl,h⟩,fun h=>by cases h⟩
 ·rw [show jI x y 1000000000000 up=(0,false) from if_neg h];exact ⟨fun h=>(by cases h),fun _=>by omega⟩
theorem Vp (a b:Int × Int):jh (gX (un a.1*un b.1) [un a.1*un b.2,un a.2*un b.1,un a.2*un b.2]) (dN (un a.1*un b.1) [un a.1*un b.2,un a.2*un b.1,un a.2*un b.2])=JF a b:=by
 obtain ⟨h1,h2,h3,h4,h5⟩:=aK3 (un a.1*un b.1) (un a.1*un b.2) (un a.2*un b.1) (un a.2*un b.2);obtain ⟨g1,g2,g3,g4,g5⟩:=ar9 (un a.1*un b.1) (un a.1*un b.2) (un a.2*un b.1) (un a.2*un b.2);generalize gX (un a.1*un b.1) [un a.1*un b.2,un a.2*un b.1,un a.2*un b.2]=lo at *;generalize dN (un a.1*un b.1) [un a.1*un b.2,un a.2*un b.1,un a.2*un b.2]=hi at *;replace h2:=vD h2;replace h3:=vD h3;replace h4:=vD h4;replace h5:=vD h5;replace g2:=vE g2;replace g3:=vE g3;replace g4:=vE g4;replace g5:=vE g5
 have h6:(lo*((1000000000000:Int):Rat)).floor=pG (a.1*b.1) 1000000000000 false∨(lo*((1000000000000:Int):Rat)).floor=pG (a.1*b.2) 1000000000000 false∨(lo*((1000000000000:Int):Rat)).floor=pG (a.2*b.1) 1000000000000 false∨(lo*((1000000000000:Int):Rat)).floor=pG (a.2*b.2) 1000000000000 false:=by
  rcases h1 with rfl|rfl|rfl|rfl<;>simp only [IJ,true_or,or_true]
 have g6: -((-(hi*((1000000000000:Int):Rat))).floor)=pG (a.1*b.1) 1000000000000 true∨ -((-(hi*((1000000000000:Int):Rat))).floor)=pG (a.1*b.2) 1000000000000 true∨ -((-(hi*((1000000000000:Int):Rat))).floor)=pG (a.2*b.1) 1000000000000 true∨ -((-(hi*((1000000000000:Int):Rat))).floor)=pG (a.2*b.2) 1000000000000 true:=by
  rcases g1 with rfl|rfl|rfl|rfl<;>simp only [Tx,true_or,or_true]
 rw [IJ] at h2 h3 h4 h5;rw [Tx] at g2 g3 g4 g5;unfold jh;rw [uR,uR];generalize (lo*((1000000000000:Int):Rat)).floor=L at *;generalize -((-(hi*((1000000000000:Int):Rat))).floor)=H at *;have r1:=JL (a.1*b.1) (d:=1000000000000) zo;have r2:=JL (a.1*b.2) (d:=1000000000000) zo;have r3:=JL (a.2*b.1) (d:=1000000000000) zo;have r4:=JL (a.2*b.2) (d:=1000000000000) zo;have e0:Ui a b 0=jI a.1 b.1 1000000000000 false:=rfl;have e1:Ui a b 1=jI a.1 b.2 1000000000000 false:=rfl;have e2:Ui a b 2=jI a.2 b.1 1000000000000 false:=rfl;have e3:Ui a b 3=jI a.2 b.2 1000000000000 false:=rfl;have d0:Ah a b 0=jI a.1 b.1 1000000000000 true:=rfl;have d1:Ah a b 1=jI a.1 b.2 1000000000000 true:=rfl;have d2:Ah a b 2=jI a.2 b.1 1000000000000 true:=rfl;have d3:Ah a b 3=jI a.2 b.2 1000000000000 true:=rfl;have q0:=pV a.1 b.1 false
 have q1:=pV a.1 b.2 false;have q2:=pV a.2 b.1 false;have q3:=pV a.2 b.2 false;have p0:=pV a.1 b.1 true;have p1:=pV a.1 b.2 true;have p2:=pV a.2 b.1 true;have p3:=pV a.2 b.2 true
 have fe:aA3 a b=((Ui a b 0).2&&(Ah a b 0).2&&((Ui a b 1).2&&(Ah a b 1).2)&&((Ui a b 2).2&&(Ah a b 2).2)&&((Ui a b 3).2&&(Ah a b 3).2)):=by
  unfold aA3;simp [List.range,List.range.loop,Bool.and_assoc]
 unfold JF;rw [fe,e0,e1,e2,e3,d0,d1,d2,d3];generalize pG (a.1*b.1) 1000000000000 false=l0 at *;generalize pG (a.1*b.2) 1000000000000 false=l1 at *;generalize pG (a.2*b.1) 1000000000000 false=l2 at *;generalize pG (a.2*b.2) 1000000000000 false=l3 at *;generalize pG (a.1*b.1) 1000000000000 true=u0 at *;generalize pG (a.1*b.2) 1000000000000 true=u1 at *;generalize pG (a.2*b.1) 1000000000000 true=u2 at *;generalize pG (a.2*b.2) 1000000000000 true=u3 at *;clear e0 e1 e2 e3 d0 d1 d2 d3 fe h1 g1;generalize jI a.1 b.1 1000000000000 false=A0 at *;generalize jI a.1 b.2 1000000000000 false=A1 at *;generalize jI a.2 b.1 1000000000000 false=A2 at *;generalize jI a.2 b.2 1000000000000 false=A3 at *;generalize jI a.1 b.1 1000000000000 true=B0 at *;generalize jI a.1 b.2 1000000000000 true=B1 at *;generalize jI a.2 b.1 1000000000000 true=B2 at *
 generalize jI a.2 b.2 1000000000000 true=B3 at *;obtain ⟨x0,y0⟩:=A0;obtain ⟨x1,y1⟩:=A1;obtain ⟨x2,y2⟩:=A2;obtain ⟨x3,y3⟩:=A3;obtain ⟨s0,t0⟩:=B0;obtain ⟨s1,t1⟩:=B1;obtain ⟨s2,t2⟩:=B2;obtain ⟨s3,t3⟩:=B3;simp only at q0 q1 q2 q3 p0 p1 p2 p3 ⊢
 by_cases hf:(y0&&t0&&(y1&&t1)&&(y2&&t2)&&(y3&&t3))=true
 ·rw [if_pos hf];simp only [Bool.and_eq_true] at hf;obtain ⟨⟨⟨⟨f1,f2⟩,f3,f4⟩,f5,f6⟩,f7,f8⟩:=hf;obtain ⟨rfl, -⟩:=q0.1 f1;obtain ⟨rfl, -⟩:=q1.1 f3;obtain ⟨rfl, -⟩:=q2.1 f5;obtain ⟨rfl, -⟩:=q3.1 f7;obtain ⟨rfl, -⟩:=p0.1 f2;obtain ⟨rfl, -⟩:=p1.1 f4;obtain ⟨rfl, -⟩:=p2.1 f6;obtain ⟨rfl, -⟩:=p3.1 f8
  have m1:L=[x0,x1,x2,x3].foldl min x0:=by
   simp only [List.foldl];omega
  have m2:H=[s0,s1,s2,s3].foldl max s0:=by
   simp only [List.foldl];omega
  rw [m1,m2]
 ·rw [if_neg hf]
  have hb:dY L H=false:=by
   refine Gc ?_
   have:y0=false∨t0=false∨y1=false∨t1=false∨y2=false∨t2=false∨y3=false∨t3=false:=by
    revert hf
    cases y0<;>cases t0<;>cases y1<;>cases t1<;>cases y2<;>cases t2<;>cases y3<;>cases t3<;>simp
   rcases this with h|h|h|h|h|h|h|h
   ·have:=q0.2 h;omega
   ·have:=p0.2 h;omega
   ·have:=q1.2 h;omega
   ·have:=p1.2 h;omega
   ·have:=q2.2 h;omega
   ·have:=p2.2 h;omega
   ·have:=q3.2 h;omega
   ·have:=p3.2 h;omega
  unfold dK;rw [hb];rfl
end Go.Proofs.aN
namespace Go.Proofs.aC
open Go Go.RowKit Go.SW Go.Num Go.Mem Go.Proofs Go.Dec Go.Proofs.au Go.fF
theorem zC {s:ByteArray} {b:Bool} (h:(whole s.data.toList).isSome=b) (hs:s.size≤4611686018427387904) (W:World) :
  Calls Tryz.prog 205 #[.string s] W (fun e w'=>e= .returned (.bool b)∧Below W.heap.size W w') :=
 (au.pz s W hs).mono fun _ _ h'=>⟨h ▸ h'.1,h'.2 ▸ Below.refl _ _⟩
def Fits (a:Fr):Prop:=a.n.size≤4611686018427387904∧a.d.size≤4611686018427387904
theorem VE {s t:ByteArray} (h:whole s.data.toList=none):rd ⟨s,t⟩=none:=by unfold rd;simp only [h]
theorem VF {s t:ByteArray} (h:whole t.data.toList=none):rd ⟨s,t⟩=none:=by
 unfold rd;simp only [h];cases whole s.data.toList<;>rfl
theorem av2 {s t:ByteArray} {n d:Int} (h1:whole s.data.toList=some n) (h2:whole t.data.toList=some d):(rd ⟨s,t⟩).isSome=(decide (0<d)&&(Nat.gcd n.natAbs d.natAbs == 1)):=by
 unfold rd;simp only [h1,h2]
 by_cases h:0<d∧n.natAbs.Coprime d.natAbs
 ·rw [dif_pos h];rw [decide_eq_true h.1,show Nat.gcd n.natAbs d.natAbs=1 from h.2];rfl
 ·rw [dif_neg h];refine (Bool.eq_false_iff.2 fun e=>h ?_).symm;rw [Bool.and_eq_true,decide_eq_true_iff,beq_iff_eq] at e;exact e
theorem Ct {bs:List UInt8} {z:Int} (h:whole bs=some z):sz 10000 z.natAbs≤201:=by
 have h1:=jw (dI.2 (mD h).2);have:=CV h1;omega
theorem MZ:(Lib.itoa ((1:Nat):Int)).toArray=#[49]:=by decide+kernel
theorem toList_inj {a b:ByteArray} (h:a.toList=b.toList):a=b:=by
 rw [ByteArray.toList_eq,ByteArray.toList_eq] at h;exact Gg h
theorem ak1 {g:Nat} (h:g≠1):((⟨(Lib.itoa (g:Int)).toArray⟩:ByteArray) == ⟨#[49]⟩)=false:=by
 rw [beq_toListBytes,beq_eq_false_iff_ne];intro e;have e:=toList_inj e;simp only [ByteArray.mk.injEq] at e;rw [← MZ] at e;have:=yJ (List.toArray_inj e);omega
theorem ax5:((⟨(Lib.itoa ((1:Nat):Int)).toArray⟩:ByteArray) == ⟨#[49]⟩)=true:=by rw [MZ,beq_toListBytes];exact beq_self_eq_true _
theorem pz (s t:ByteArray) (w:World) (h1:s.size≤4611686018427387904) (h2:t.size≤4611686018427387904) :
  Calls Tryz.prog 132 #[.agg #[.string s,.string t]] w (fun e w'=>e= .returned (.bool (rd ⟨s,t⟩).isSome)∧Below w.heap.size w w'):=by
 cases e1:whole s.data.toList with
 | none =>
  rw [VE e1];have R1:=zh (fun W=>zC (b:=false) (by rw [e1];rfl) h1 W);clear e1 h1 h2;go_enter Tryz.func132,Tryz.ntmps132
  go_wp2_with fail
  refine (R1.out _).mono ?_;rintro e w1 ⟨rfl,hb⟩;go_wp2_with fail
  go_ret
  exact ⟨rfl,Bt aD hb⟩
 | some n =>
  have R1:=zh (fun W=>zC (b:=true) (by rw [e1];rfl) h1 W);cases e2:whole t.data.toList with
  | none =>
   rw [VF e2];have R2:=zh (fun W=>zC (b:=false) (by rw [e2];rfl) h2 W);have h0:Below w.heap.size w (w.alloc (.cells #[.string s,.string t] 32)):=aD;have hx:=ah.new w #[.string s,.string t] 32;clear e1 h1 h2 e2;go_enter Tryz.func132,Tryz.ntmps132
   go_wp2_with fail
   refine (R1.out _).mono ?_;rintro e w1 ⟨rfl,hb⟩;have cx:=(hx.later hb).cell;have lx:=(hx.later hb).lt;go_wp2_with fail
   refine (R2.out _).mono ?_;rintro e w2 ⟨rfl,hb2⟩;go_wp2_with fail
   go_ret
   exact ⟨rfl,Bt (Bt h0 hb) hb2⟩
  | some d =>
   have R2:=zh (fun W=>zC (b:=true) (by rw [e2];rfl) h2 W);rw [av2 e1 e2];have I1:=zh (fun W=>au.Jm s n W e1);have I2:=zh (fun W=>au.Jm t d W e2);have K1:=zh (Nat.le_trans (Ct e1) (show 201≤274877906944 by omega));have K2:=zh (Nat.le_trans (Ct e2) (show 201≤274877906944 by omega))
   have hg:0<d→sz 10000 ((Nat.gcd n.natAbs d.natAbs:Nat):Int).natAbs≤1073741824:=fun h=>by
    rw [Int.natAbs_natCast];have h3:=dh (B:=10000) zo (Nat.le_of_dvd (by omega:0<d.natAbs) (Nat.gcd_dvd_right n.natAbs d.natAbs));have h4:=Ct e2;omega
   have DV:=zh (fun x y W hx hy=>xW x y n d W hx hy K1.out K2.out);generalize Nat.gcd n.natAbs d.natAbs=g at *
   rcases Int.lt_trichotomy d 0 with hd|hd|hd
   ·have HD:=zh hd;rw [decide_eq_false (show ¬ 0<d by omega),Bool.false_and];clear e1 e2 h1 h2 hg hd;go_enter Tryz.func132,Tryz.ntmps132
    go_wp2_with fail
    obtain ⟨jN,EW,hz,X1⟩:=wO w #[.string s,.string t] 32;rw [EW];have hk2:=Bt (Below.refl _ _) hz;clear EW hz;refine (R1.out _).mono ?_;rintro e kE ⟨rfl,hb3⟩;replace X1:=X1.bl hb3;have hk5:=Bt hk2 hb3;clear hk2;clear hb3;obtain ⟨jV,jU,lJ⟩:=X1.clf;go_wp2_with fail
    clear jV jU lJ;refine (R2.out _).mono ?_;rintro e wK ⟨rfl,hb6⟩;replace X1:=X1.bl hb6;have Pb:=Bt hk5 hb6;clear hk5;clear hb6;go_wp2_with fail
    obtain ⟨jV,jU,lJ⟩:=X1.clf;refine aF [(.pure,0),(.read,1),(.pure,3),(.read,4),(.ext,2),(.ext,5),(.alloc #[.bool false,.slice none 0 0] 161,6),(.alloc #[.bool false,.slice none 0 0] 161,7),(.fin,8),(.fin,9)] zk zk zR zP ?_;refine zV ?_;refine aH rfl rfl (fun GI tT J hJ=>?_);go_simp;have mI:Below wK.heap.size wK GI:=aD;clear tT;refine (I1.out _).mono ?_;rintro e jW ⟨v,rfl,iG,qC⟩;obtain ⟨bA,je,lA,jG,rfl⟩:=qC.agg;refine hJ _ _ iG ?_;clear hJ J;have oQ:=Bt mI iG;clear mI iG qC;refine zV ?_;refine aH rfl rfl (fun Vj ZR J hJ=>?_);go_simp;have hh12:Below wK.heap.size wK Vj:=Bt oQ aD;clear ZR oQ;refine (I2.out _).mono ?_;rintro e Vk ⟨v,rfl,BG,hv⟩;obtain ⟨bB,nK,lB,nN,rfl⟩:=hv.agg;have hb1:bB=true:=hv.nm.2.trans (decide_eq_true HD.out);subst hb1;refine hJ _ _ BG ?_;clear hJ J;have DI:=Bt hh12 BG
    clear hh12 BG hv;refine zV ?_;refine cK rfl (fun tJ aJ0 Nr jC yO DX iF=>?_);go_simp;replace iF:ah _ _ _ _:=iF;have DU:w.heap.size≤tJ:=(by first|omega|exact Nat.le_trans (Below.size (B:=w.heap.size) aD) jC);refine cK rfl (fun rz aI9 Bc jB yN uO kS=>?_);go_simp;replace kS:ah _ _ _ _:=kS;have DN:w.heap.size≤rz:=(by first|omega|exact Nat.le_trans (Below.size (B:=w.heap.size) aD) jB);replace iF:=ah.later iF Bc;have hne:tJ≠rz:=fun h=>uO (by simp [h]);have hne2:rz≠tJ:=fun h=>hne h.symm;refine aU [_,_] rfl (fun GH DJ=>?_);have Dz:Below wK.heap.size wK GH:=Bt DI aD;have hq0:=iF.later DJ;have cq0:=hq0.cell;have fq0:=hq0.free;have hq1:=kS.later DJ;have cq1:=hq1.cell;have fq1:=hq1.free;clear iF kS DJ DI;clear jV jU lJ
    go_wp2_with fail
    obtain ⟨Jt,EW⟩:∃ y,((((GH.setCell ⟨tJ,0,none⟩ (.bool bA)).setCell ⟨tJ,1,none⟩ (.slice je lA jG)).setCell ⟨rz,0,none⟩ (.bool true)).setCell ⟨rz,1,none⟩ (.slice nK lB nN))=y:=⟨_,rfl⟩;have hz:Below wK.heap.size wK Jt:=by rw [← EW];exact ((((Dz.setCell jC _).setCell jC _).setCell jB _).setCell jB _)
    have X3:Hid (ah Jt rz #[.bool true,.slice nK lB nN] 161):=zh (by rw [← EW];exact ((((hq1.setOther _ (by first|exact hne|exact hne2)).setOther _ (by first|exact hne|exact hne2)).set 0 _).set 1 _));rw [EW];clear EW hq0 cq0 fq0 hq1 cq1 fq1 Dz;replace X1:=X1.bl hz;have WI:=Bt Pb hz;clear Pb;clear hz;clear Nr DX uO DU DN Bc;have ZK:=jC;have ZJ:=jB;clear jC jB yO yN;go_wp2_with fail
    go_ret
    exact ⟨rfl,WI⟩
   ·have HD:=zh hd;rw [decide_eq_false (show ¬ 0<d by omega),Bool.false_and];clear e1 e2 h1 h2 hg hd;go_enter Tryz.func132,Tryz.ntmps132
    go_wp2_with fail
    obtain ⟨jN,EW,hz,X1⟩:=wO w #[.string s,.string t] 32;rw [EW];have hk2:=Bt (Below.refl _ _) hz;clear EW hz;refine (R1.out _).mono ?_;rintro e kE ⟨rfl,hb3⟩;replace X1:=X1.bl hb3;have hk5:=Bt hk2 hb3;clear hk2;clear hb3;obtain ⟨jV,jU,lJ⟩:=X1.clf;go_wp2_with fail
    clear jV jU lJ;refine (R2.out _).mono ?_;rintro e wK ⟨rfl,hb6⟩;replace X1:=X1.bl hb6;have Pb:=Bt hk5 hb6;clear hk5;clear hb6;go_wp2_with fail
    obtain ⟨jV,jU,lJ⟩:=X1.clf;refine aF [(.pure,0),(.read,1),(.pure,3),(.read,4),(.ext,2),(.ext,5),(.alloc #[.bool false,.slice none 0 0] 161,6),(.alloc #[.bool false,.slice none 0 0] 161,7),(.fin,8),(.fin,9)] zk zk zR zP ?_;refine zV ?_;refine aH rfl rfl (fun GI tT J hJ=>?_);go_simp;have mI:Below wK.heap.size wK GI:=aD;clear tT;refine (I1.out _).mono ?_;rintro e jW ⟨v,rfl,iG,qC⟩;obtain ⟨bA,je,lA,jG,rfl⟩:=qC.agg;refine hJ _ _ iG ?_;clear hJ J;have oQ:=Bt mI iG;clear mI iG qC;refine zV ?_;refine aH rfl rfl (fun Vj ZR J hJ=>?_);go_simp;have hh12:Below wK.heap.size wK Vj:=Bt oQ aD;clear ZR oQ;refine (I2.out _).mono ?_;rintro e Vk ⟨v,rfl,BG,hv⟩;obtain ⟨bB,nK,lB,nN,rfl⟩:=hv.agg;have hb1:bB=false:=hv.nm.2.trans (decide_eq_false (by have:=HD.out;omega));subst hb1;have hl0:lB=0:=hv.nm.1.ax1 (by have:=HD.out;omega)
    subst hl0;refine hJ _ _ BG ?_;clear hJ J;have DI:=Bt hh12 BG;clear hh12 BG hv;refine zV ?_;refine cK rfl (fun tJ aJ0 Nr jC yO DX iF=>?_);go_simp;replace iF:ah _ _ _ _:=iF;have DU:w.heap.size≤tJ:=(by first|omega|exact Nat.le_trans (Below.size (B:=w.heap.size) aD) jC);refine cK rfl (fun rz aI9 Bc jB yN uO kS=>?_);go_simp;replace kS:ah _ _ _ _:=kS;have DN:w.heap.size≤rz:=(by first|omega|exact Nat.le_trans (Below.size (B:=w.heap.size) aD) jB);replace iF:=ah.later iF Bc;have hne:tJ≠rz:=fun h=>uO (by simp [h]);have hne2:rz≠tJ:=fun h=>hne h.symm;refine aU [_,_] rfl (fun GH DJ=>?_);have Dz:Below wK.heap.size wK GH:=Bt DI aD;have hq0:=iF.later DJ;have cq0:=hq0.cell;have fq0:=hq0.free
    have hq1:=kS.later DJ;have cq1:=hq1.cell;have fq1:=hq1.free;clear iF kS DJ DI;clear jV jU lJ;go_wp2_with fail
    obtain ⟨Jt,EW⟩:∃ y,((((GH.setCell ⟨tJ,0,none⟩ (.bool bA)).setCell ⟨tJ,1,none⟩ (.slice je lA jG)).setCell ⟨rz,0,none⟩ (.bool false)).setCell ⟨rz,1,none⟩ (.slice nK 0 nN))=y:=⟨_,rfl⟩;have hz:Below wK.heap.size wK Jt:=by rw [← EW];exact ((((Dz.setCell jC _).setCell jC _).setCell jB _).setCell jB _)
    have X3:Hid (ah Jt rz #[.bool false,.slice nK 0 nN] 161):=zh (by rw [← EW];exact ((((hq1.setOther _ (by first|exact hne|exact hne2)).setOther _ (by first|exact hne|exact hne2)).set 0 _).set 1 _));rw [EW];clear EW hq0 cq0 fq0 hq1 cq1 fq1 Dz;replace X1:=X1.bl hz;have WI:=Bt Pb hz;clear Pb;clear hz;clear Nr DX uO DU DN Bc;have ZK:=jC;have ZJ:=jB;clear jC jB yO yN;go_wp2_with fail
    go_ret
    exact ⟨rfl,WI⟩
   ·have HD:=zh hd;have HG:=zh (hg hd);have TX:=zh (fun x W hx=>UO x (g:Int) W hx HG.out);obtain ⟨b,hb⟩:∃ b,(decide (0<d)&&(g == 1))=b:=⟨_,rfl⟩
    have hT:((⟨(Lib.itoa (g:Int)).toArray⟩:ByteArray) == ⟨#[49]⟩)=b:=by
     rw [← hb,decide_eq_true hd,Bool.true_and]
     by_cases h:g=1
     ·rw [h];exact ax5
     ·rw [ak1 h];exact (beq_eq_false_iff_ne.2 h).symm
    rw [hb];rw [beq_toListBytes,ByteArray.toList_eq (⟨#[49]⟩:ByteArray)] at hT;replace hT:((⟨(Lib.itoa (g:Int)).toArray⟩:ByteArray).toList == [49])=b:=hT;generalize (⟨(Lib.itoa (g:Int)).toArray⟩:ByteArray)=T at *;clear e1 e2 h1 h2 hg hd hb;go_enter Tryz.func132,Tryz.ntmps132
    go_wp2_with fail
    obtain ⟨jN,EW,hz,X1⟩:=wO w #[.string s,.string t] 32;rw [EW];have hk2:=Bt (Below.refl _ _) hz;clear EW hz;refine (R1.out _).mono ?_;rintro e kE ⟨rfl,hb3⟩;replace X1:=X1.bl hb3;have hk5:=Bt hk2 hb3;clear hk2;clear hb3;obtain ⟨jV,jU,lJ⟩:=X1.clf;go_wp2_with fail
    clear jV jU lJ;refine (R2.out _).mono ?_;rintro e wK ⟨rfl,hb6⟩;replace X1:=X1.bl hb6;have Pb:=Bt hk5 hb6;clear hk5;clear hb6;go_wp2_with fail
    obtain ⟨jV,jU,lJ⟩:=X1.clf;refine aF [(.pure,0),(.read,1),(.pure,3),(.read,4),(.ext,2),(.ext,5),(.alloc #[.bool false,.slice none 0 0] 161,6),(.alloc #[.bool false,.slice none 0 0] 161,7),(.fin,8),(.fin,9)] zk zk zR zP ?_;refine zV ?_;refine aH rfl rfl (fun GI tT J hJ=>?_);go_simp;have mI:Below wK.heap.size wK GI:=aD;clear tT;refine (I1.out _).mono ?_;rintro e jW ⟨v,rfl,iG,qC⟩;obtain ⟨bA,je,lA,jG,rfl⟩:=qC.agg;refine hJ _ _ iG ?_;clear hJ J;have oQ:=Bt mI iG;have NA:=zh qC;clear mI iG qC;refine zV ?_;refine aH rfl rfl (fun Vj ZR J hJ=>?_);go_simp;have hh12:Below wK.heap.size wK Vj:=Bt oQ aD;replace NA:=zh (NA.out.later (show Below jW.heap.size jW Vj from aD));clear ZR oQ;refine (I2.out _).mono ?_;rintro e Vk ⟨v,rfl,BG,hv⟩;obtain ⟨bB,nK,lB,nN,rfl⟩:=hv.agg
    have hb1:bB=false:=hv.nm.2.trans (decide_eq_false (by have:=HD.out;omega));subst hb1;have hl0:0<lB:=hv.nm.1.ax0 (by have:=HD.out;omega);refine hJ _ _ BG ?_;clear hJ J;have DI:=Bt hh12 BG;replace NA:=zh (NA.out.later BG);have NB:=zh hv;clear hh12 BG hv;refine zV ?_;refine cK rfl (fun tJ aJ0 Nr jC yO DX iF=>?_);go_simp;replace iF:ah _ _ _ _:=iF;have DU:w.heap.size≤tJ:=(by first|omega|exact Nat.le_trans (Below.size (B:=w.heap.size) aD) jC);refine cK rfl (fun rz aI9 Bc jB yN uO kS=>?_);go_simp;replace kS:ah _ _ _ _:=kS;have DN:w.heap.size≤rz:=(by first|omega|exact Nat.le_trans (Below.size (B:=w.heap.size) aD) jB);replace iF:=ah.later iF Bc;have hne:tJ≠rz:=fun h=>uO (by simp [h]);have hne2:rz≠tJ:=fun h=>hne h.symm
    refine aU [_,_] rfl (fun GH DJ=>?_);replace NA:=zh (NA.out.later (show Below Vk.heap.size Vk GH from aD));replace NB:=zh (NB.out.later (show Below Vk.heap.size Vk GH from aD));have Dz:Below wK.heap.size wK GH:=Bt DI aD;have hq0:=iF.later DJ;have cq0:=hq0.cell;have fq0:=hq0.free;have hq1:=kS.later DJ;have cq1:=hq1.cell;have fq1:=hq1.free;clear iF kS DJ DI;clear jV jU lJ;go_wp2_with fail
    obtain ⟨Jt,EW⟩:∃ y,((((GH.setCell ⟨tJ,0,none⟩ (.bool bA)).setCell ⟨tJ,1,none⟩ (.slice je lA jG)).setCell ⟨rz,0,none⟩ (.bool false)).setCell ⟨rz,1,none⟩ (.slice nK lB nN))=y:=⟨_,rfl⟩;have hz:Below wK.heap.size wK Jt:=by rw [← EW];exact ((((Dz.setCell jC _).setCell jC _).setCell jB _).setCell jB _)
    have X2:Hid (ah Jt tJ #[.bool bA,.slice je lA jG] 161):=zh (by rw [← EW];exact ((((hq0.set 0 _).set 1 _).setOther _ (by first|exact hne|exact hne2)).setOther _ (by first|exact hne|exact hne2)));have X3:Hid (ah Jt rz #[.bool false,.slice nK lB nN] 161):=zh (by rw [← EW];exact ((((hq1.setOther _ (by first|exact hne|exact hne2)).setOther _ (by first|exact hne|exact hne2)).set 0 _).set 1 _));have t:=((((NA.out.setOther hq0 zd 0 (.bool bA)).setOther (hq0.set 0 _) zd 1 (.slice je lA jG)).setOther ((hq1.setOther _ (by first|exact hne|exact hne2)).setOther _ (by first|exact hne|exact hne2)) zd 0 (.bool false)).setOther (((hq1.setOther _ (by first|exact hne|exact hne2)).setOther _ (by first|exact hne|exact hne2)).set 0 _) zd 1 (.slice nK lB nN));rw [EW] at t;replace NA:=zh t;clear t
    have t:=((((NB.out.setOther hq0 zd 0 (.bool bA)).setOther (hq0.set 0 _) zd 1 (.slice je lA jG)).setOther ((hq1.setOther _ (by first|exact hne|exact hne2)).setOther _ (by first|exact hne|exact hne2)) zd 0 (.bool false)).setOther (((hq1.setOther _ (by first|exact hne|exact hne2)).setOther _ (by first|exact hne|exact hne2)).set 0 _) zd 1 (.slice nK lB nN));rw [EW] at t;replace NB:=zh t;clear t;rw [EW];clear EW hq0 cq0 fq0 hq1 cq1 fq1 Dz;replace X1:=X1.bl hz;have WI:=Bt Pb hz;clear Pb;clear hz;clear Nr DX uO DU DN Bc;have ZK:=jC;have ZJ:=jB;clear jC jB yO yN;go_wp2_with fail
    refine (DV.out _ _ _ NA.out NB.out).mono ?_;rintro e Yj ⟨v,rfl,DL,Qx⟩;obtain ⟨bC,paC,lC,caC,rfl⟩:=Qx.agg;clear X1;replace X2:=X2.bl DL;replace X3:=X3.bl DL;replace NA:=zh (NA.out.later DL);replace NB:=zh (NB.out.later DL);have aL5:=Bt WI DL;clear WI;have NC:=zh Qx;clear DL Qx;go_wp2_with fail
    refine (TX.out _ _ NC.out).mono ?_;rintro e be9 ⟨rfl,DK⟩;replace X2:=X2.bl DK;replace X3:=X3.bl DK;replace NA:=zh (NA.out.later DK);replace NB:=zh (NB.out.later DK);replace NC:=zh (NC.out.later DK);have aU9:=Bt aL5 DK;clear aL5;clear DK;go_wp2_with fail
    go_ret
    exact ⟨rfl,aU9⟩
theorem gP {a:Fr} {b:Bool} (h:(rd a).isSome=b) (hf:Fits a) (W:World):Calls Tryz.prog 132 #[a.v] W (fun e w'=>e= .returned (.bool b)∧Below W.heap.size W w') :=
 h ▸ pz a.n a.d W hf.1 hf.2
theorem gD (a:Fr) (w:World) (hf:Fits a):Calls Tryz.prog 169 #[a.v] w (fun e w'=>e= .returned (.int .i64 (BK a))∧Below w.heap.size w w'):=by
 unfold BK;cases h:(rd a).isSome with
 | true =>
  have R:=fun W=>gP h hf W;refine Fx.door Tryz.func169 rfl (.nil w []) ?_;refine Fx.new [] 1 #[.string a.n,.string a.d] 32 [] [] fun dW=>?_;refine Fx.aO [3] 4 [] [] R ?_;exact Fx.wF [2] [] (fun W M=>⟨rfl,M.below⟩)
 | false =>
  have R:=fun W=>gP h hf W;refine Fx.door Tryz.func169 rfl (.nil w []) ?_;refine Fx.new [] 1 #[.string a.n,.string a.d] 32 [] [] fun dW=>?_;refine Fx.aO [3] 4 [] [] R ?_;exact Fx.wF [1] [] (fun W M=>⟨rfl,M.below⟩)
theorem YH {s t:ByteArray} {q:Rat} (h:rd ⟨s,t⟩=some q):whole s.data.toList=some q.num∧whole t.data.toList=some (q.den:Int):=by
 unfold rd at h;split at h
 ·rename_i n d e1 e2;split at h
  ·rename_i hk;simp only [Option.some.injEq] at h;subst h;refine ⟨e1,e2.trans ?_⟩
   congr 1
   have:=hk.1
   show d=((d.natAbs:Nat):Int)
   omega
  ·cases h
 ·cases h
theorem Jm (s t:ByteArray) (q:Rat) (w:World) (h:rd ⟨s,t⟩=some q):Calls Tryz.prog 135 #[.agg #[.string s,.string t]] w (jM w q):=by
 obtain ⟨e1,e2⟩:=YH h;have I1:=fun W=>(au.Jm s q.num W e1).mono fun _ _ q=>VL q;have I2:=fun W=>(au.Jm t (q.den:Int) W e2).mono fun _ _ q=>VL q;refine Fx.door Tryz.func135 rfl (.nil w []) ?_;have B0:=Fx.Gw.nil w;refine Fx.new [] 1 #[.string s,.string t] 32 [] [] fun dW=>?_;refine Fx.aL [] 2 163 [] [] fun dM=>?_;refine Fx.draw [] [0,1,3,4,2,5,6,7] [] [] [] ?_;refine Fx.gM [3,3] 5 [(7,.string t)] [] (fun W M=>I1 _) ?_;rintro W w3 e M ⟨b1,p1,l1,c1,rfl,D3,Q1⟩;refine ⟨D3,fun M3=>?_⟩;have B3:=B0.next M3
 refine Fx.gM [] 8 [] [] (fun W M=>I2 _) ?_;rintro W w4 e M ⟨b2,p2,l2,c2,rfl,D4,Q2⟩;refine ⟨D4,fun M4=>?_⟩;replace Q1:=Q1.keep (M3.keep M4);have B4:=B3.next M4
 exact Fx.fV (cs:=#[.bool b1,.slice p1 l1 c1,.bool b2,.slice p2 l2 c2]) 1 dM [4] [(1,#[.bool b1,.slice p1 l1 c1,.bool b2,.slice p2 l2 c2])] (fun W M=>by have HB:=(B4.at M);exact ⟨_,rfl,HB,_,_,_,_,_,_,_,_,rfl,(Q1.keep (M4.keep M)),(Q2.keep (M4.keep M))⟩)
end Go.Proofs.aC
namespace Go.Proofs.aC
open Go Go.RowKit Go.SW Go.Num Go.Mem Go.Proofs Go.Dec Go.Proofs.au Go.fF Go.Fx
theorem mE {a:Fr} {q:Rat} (h:rd a=some q):gZ 67 q:=jr (mX h).2
theorem gZ.Ur {q:Rat} (h:gZ 1000 q):sz 10000 q.num.natAbs≤1073741824∧sz 10000 q.den≤1073741824:=by
 have h1:=CV h.1;have h2:=CV h.2;exact ⟨by omega,by omega⟩
theorem JB {k:Nat} {p q:Rat} (h:gZ k p) (i:gZ k q):gZ (2*k+1) (p - q):=by
 rw [Rat.sub_eq_add_neg];exact vJ h (vI i)
theorem sU {a:Fr} {q:Rat} (h:rd a=some q) (W:World):Calls Tryz.prog 135 #[a.v] W (jM W q):=Jm a.n a.d q W h
theorem at6:((0:Int):Rat) / ((1:Int):Rat)=0:=by decide+kernel
theorem qj (a:Fr) (w:World) (hf:Fits a):Calls Tryz.prog 180 #[a.v] w (fun e w'=>e= .returned (.tuple #[.int .i64 (gW a).1,.int .i64 (gW a).2])∧Below w.heap.size w w'):=by
 unfold gW;cases h:rd a with
 | none =>
  have R:=fun W=>gP (b:=false) (by rw [h];rfl) hf W;refine Fx.door Tryz.func180 rfl (.nil w []) ?_;refine Fx.new [] 1 #[.string a.n,.string a.d] 32 [] [] fun dW=>?_;refine Fx.aO [3] 5 [] [] R ?_;exact Fx.YG [1] [] (fun W M=>⟨rfl,M.below⟩)
 | some q =>
  have R:=fun W=>gP (b:=true) (by rw [h];rfl) hf W;have I:=fun W=>(sU h W).mono fun _ _ q=>iK q;have Z:=fun W=>(rD 0 1 zo zo zo zo zo W).mono fun _ _ q=>iK q;rw [at6] at Z;have hq:=(mE h).mono (show 67≤10000000000 by omega);have O:=fun x y W hx hy=>iI x y q 0 W hx hy hq ⟨by decide+kernel,by decide+kernel⟩
  dsimp only
  generalize pJ q 0=cc at *;refine Fx.door Tryz.func180 rfl (.nil w []) ?_;refine Fx.new [] 1 #[.string a.n,.string a.d] 32 [] [] fun dW=>?_;refine Fx.aO [3] 5 [] [] R ?_;refine Fx.gL [2,3] 8 [] [] (fun W M=>I _) ?_;rintro W wx2 e M ⟨n1,p1,l1,c1,m1,q1,j1,d1,rfl,B2,Q1⟩;refine ⟨B2,fun M2=>?_⟩;have M:=M2;have HZ2:=M.below;refine Fx.gL [] 9 [] [] (fun W M=>Z _) ?_;rintro W wx3 e M ⟨n2,p2,l2,c2,m2,q2,j2,d2,rfl,B3,Q2⟩;refine ⟨B3,fun M3=>?_⟩;have M:=M3;replace Q1:=Q1.later M.below;have HZ3:=(Bt HZ2 M.below);refine Fx.call [] 10 [] [] (fun W M=>O _ _ _ (Q1.later M.below) (Q2.later M.below)) ?_;exact Fx.YG [] [] (fun W M=>⟨rfl,(Bt HZ3 M.below)⟩)
theorem Vh {b:Fr} {q:Rat} (h:rd b=some q):(b.n.toList == [48])=decide (q=0):=by
 have e:b.n=⟨(Lib.itoa q.num).toArray⟩:=by rw [(mX h).1];rfl
 have z0:Lib.itoa 0=[48]:=by decide+kernel
 rw [e,ByteArray.toList_mk]
 by_cases h0:q=0
 ·rw [decide_eq_true h0,h0];show (Lib.itoa 0 == [48])=true;rw [z0];rfl
 ·rw [decide_eq_false h0,beq_eq_false_iff_ne];intro e;rw [← z0] at e;exact h0 (Rat.num_eq_zero.1 (yJ e))
theorem qM (a b:Fr) (w:World) (ha:Fits a) (hb:Fits b):Calls Tryz.prog 170 #[a.v,b.v] w (qK w (sK a b)):=by
 unfold qK;cases h:rd a with
 | none =>
  rw [show sK a b=(Fr.no,20) from qg h];have R:=fun W=>gP (b:=false) (by rw [h];rfl) ha W;refine Fx.door Tryz.func170 rfl (.nil w []) ?_;refine Fx.new [] 2 #[.string a.n,.string a.d] 32 [] [] fun dW=>?_;refine Fx.new [] 3 #[.string b.n,.string b.d] 32 [] [] fun dM=>?_;refine Fx.aL [] 4 32 [] [] fun dP=>?_;refine Fx.aO [3] 7 [] [] R ?_;exact Fx.dw 2 dP [0,0,1,5] [(2,#[.string ⟨#[]⟩,.string ⟨#[]⟩])] (fun W M=>⟨rfl,M.below⟩)
 | some p =>
  have R:=fun W=>gP (b:=true) (by rw [h];rfl) ha W;cases k:rd b with
  | none =>
   rw [show sK a b=(Fr.no,20) from nZ k];have R2:=fun W=>gP (b:=false) (by rw [k];rfl) hb W;refine Fx.door Tryz.func170 rfl (.nil w []) ?_;refine Fx.new [] 2 #[.string a.n,.string a.d] 32 [] [] fun dW=>?_;refine Fx.new [] 3 #[.string b.n,.string b.d] 32 [] [] fun dM=>?_;refine Fx.aL [] 4 32 [] [] fun dP=>?_;refine Fx.aO [3] 7 [] [] R ?_;refine Fx.aO [4] 11 [(9,.bool false)] [] R2 ?_;exact Fx.dw 2 dP [1,5] [(2,#[.string ⟨#[]⟩,.string ⟨#[]⟩])] (fun W M=>⟨rfl,M.below⟩)
  | some q =>
   have R2:=fun W=>gP (b:=true) (by rw [k];rfl) hb W;rw [show sK a b=wr (p+q) from kZ h k];have I1:=fun W=>(sU h W).mono fun _ _ q=>iK q;have I2:=fun W=>(sU k W).mono fun _ _ q=>iK q;have hp:=mE h;have hq:=mE k;have OP:=fun x y W hx hy=>(ql x y p q W hx hy (hp.mono zo) (hq.mono zo)).mono fun _ _ q=>iK q;have hs:gZ 1000 (p+q):=(vJ hp hq).mono zo;obtain ⟨f1,f2⟩:=gZ.Ur hs;have OU:=fun x W hx=>vC x (p+q) W hx f1 f2;generalize p+q=r at *;obtain ⟨⟨⟨s1,s2⟩,k1⟩,E⟩:∃ y,wr r=y:=⟨_,rfl⟩;rw [E] at OU ⊢;refine Fx.door Tryz.func170 rfl (.nil w []) ?_;refine Fx.new [] 2 #[.string a.n,.string a.d] 32 [] [] fun dW=>?_;refine Fx.new [] 3 #[.string b.n,.string b.d] 32 [] [] fun dM=>?_;refine Fx.aL [] 4 32 [] [] fun dP=>?_;refine Fx.aO [3] 7 [] [] R ?_;refine Fx.aO [4] 11 [(9,.bool false)] [] R2 ?_
   refine Fx.draw [2] [0,2,1,3,4,5,6,7,8,5009] [] [] [] ?_;refine Fx.gL [3,4] 16 [(17,.agg #[.string b.n,.string b.d])] [] (fun W M=>I1 _) ?_;rintro W wx4 e M ⟨n1,p1,l1,c1,m1,q1,j1,d1,rfl,B4,Q1⟩;refine ⟨B4,fun M4=>?_⟩;have M:=M4;have XG:=M.below;refine Fx.gL [] 18 [] [] (fun W M=>I2 _) ?_;rintro W wx5 e M ⟨n2,p2,l2,c2,m2,q2,j2,d2,rfl,B5,Q2⟩;refine ⟨B5,fun M5=>?_⟩;have M:=M5;replace Q1:=Q1.later M.below;have XF:=(Bt XG M.below);refine Fx.gL [] 19 [] [] (fun W M=>OP _ _ _ (Q1.later M.below) (Q2.later M.below)) ?_;rintro W wx6 e M ⟨n3,p3,l3,c3,m3,q3,j3,d3,rfl,B6,Q3⟩;refine ⟨B6,fun M6=>?_⟩;have M:=M6;replace Q1:=Q1.later M.below;replace Q2:=Q2.later M.below;have HZ6:=(Bt XF M.below);refine Fx.call [] 20 [] [] (fun W M=>OU _ _ (Q3.later M.below)) ?_;refine Fx.part 3 [] [(21,.agg #[.string s1,.string s2]),(22,.int .i64 k1)] [] ?_;refine Fx.back M6 ?_;refine Fx.back M5 ?_
   refine Fx.back M4 ?_;exact Fx.dw 2 dP [5] [(2,#[.string s1,.string s2])] (fun W M=>⟨rfl,M.below⟩)
--iff aC.Sub
theorem sN (a b:Fr) (w:World) (ha:Fits a) (hb:Fits b):Calls Tryz.prog 173 #[a.v,b.v] w (qK w (zO a b)):=by
 unfold qK;cases h:rd a with
 | none =>
  rw [show zO a b=(Fr.no,20) from qg h];have R:=fun W=>gP (b:=false) (by rw [h];rfl) ha W;refine Fx.door Tryz.func173 rfl (.nil w []) ?_;refine Fx.new [] 2 #[.string a.n,.string a.d] 32 [] [] fun dW=>?_;refine Fx.new [] 3 #[.string b.n,.string b.d] 32 [] [] fun dM=>?_;refine Fx.aL [] 4 32 [] [] fun dP=>?_;refine Fx.aO [3] 7 [] [] R ?_;exact Fx.dw 2 dP [0,0,1,5] [(2,#[.string ⟨#[]⟩,.string ⟨#[]⟩])] (fun W M=>⟨rfl,M.below⟩)
 | some p =>
  have R:=fun W=>gP (b:=true) (by rw [h];rfl) ha W;cases k:rd b with
  | none =>
   rw [show zO a b=(Fr.no,20) from nZ k];have R2:=fun W=>gP (b:=false) (by rw [k];rfl) hb W;refine Fx.door Tryz.func173 rfl (.nil w []) ?_;refine Fx.new [] 2 #[.string a.n,.string a.d] 32 [] [] fun dW=>?_;refine Fx.new [] 3 #[.string b.n,.string b.d] 32 [] [] fun dM=>?_;refine Fx.aL [] 4 32 [] [] fun dP=>?_;refine Fx.aO [3] 7 [] [] R ?_;refine Fx.aO [4] 11 [(9,.bool false)] [] R2 ?_;exact Fx.dw 2 dP [1,5] [(2,#[.string ⟨#[]⟩,.string ⟨#[]⟩])] (fun W M=>⟨rfl,M.below⟩)
  | some q =>
   have R2:=fun W=>gP (b:=true) (by rw [k];rfl) hb W;rw [show zO a b=wr (p - q) from kZ h k];have I1:=fun W=>(sU h W).mono fun _ _ q=>iK q;have I2:=fun W=>(sU k W).mono fun _ _ q=>iK q;have hp:=mE h;have hq:=mE k;have OP:=fun x y W hx hy=>(nH x y p q W hx hy (hp.mono zo) (hq.mono zo)).mono fun _ _ q=>iK q;have hs:gZ 1000 (p - q):=(JB hp hq).mono zo;obtain ⟨f1,f2⟩:=gZ.Ur hs;have OU:=fun x W hx=>vC x (p - q) W hx f1 f2;generalize p - q=r at *;obtain ⟨⟨⟨s1,s2⟩,k1⟩,E⟩:∃ y,wr r=y:=⟨_,rfl⟩;rw [E] at OU ⊢;refine Fx.door Tryz.func173 rfl (.nil w []) ?_;refine Fx.new [] 2 #[.string a.n,.string a.d] 32 [] [] fun dW=>?_;refine Fx.new [] 3 #[.string b.n,.string b.d] 32 [] [] fun dM=>?_;refine Fx.aL [] 4 32 [] [] fun dP=>?_;refine Fx.aO [3] 7 [] [] R ?_;refine Fx.aO [4] 11 [(9,.bool false)] [] R2 ?_
   refine Fx.draw [2] [0,2,1,3,4,5,6,7,8,5009] [] [] [] ?_;refine Fx.gL [3,4] 16 [(17,.agg #[.string b.n,.string b.d])] [] (fun W M=>I1 _) ?_;rintro W wx4 e M ⟨n1,p1,l1,c1,m1,q1,j1,d1,rfl,B4,Q1⟩;refine ⟨B4,fun M4=>?_⟩;have M:=M4;have XG:=M.below;refine Fx.gL [] 18 [] [] (fun W M=>I2 _) ?_;rintro W wx5 e M ⟨n2,p2,l2,c2,m2,q2,j2,d2,rfl,B5,Q2⟩;refine ⟨B5,fun M5=>?_⟩;have M:=M5;replace Q1:=Q1.later M.below;have XF:=(Bt XG M.below);refine Fx.gL [] 19 [] [] (fun W M=>OP _ _ _ (Q1.later M.below) (Q2.later M.below)) ?_;rintro W wx6 e M ⟨n3,p3,l3,c3,m3,q3,j3,d3,rfl,B6,Q3⟩;refine ⟨B6,fun M6=>?_⟩;have M:=M6;replace Q1:=Q1.later M.below;replace Q2:=Q2.later M.below;have HZ6:=(Bt XF M.below);refine Fx.call [] 20 [] [] (fun W M=>OU _ _ (Q3.later M.below)) ?_;refine Fx.part 3 [] [(21,.agg #[.string s1,.string s2]),(22,.int .i64 k1)] [] ?_;refine Fx.back M6 ?_;refine Fx.back M5 ?_
   refine Fx.back M4 ?_;exact Fx.dw 2 dP [5] [(2,#[.string s1,.string s2])] (fun W M=>⟨rfl,M.below⟩)
--iff aC.Mul
theorem qJ (a b:Fr) (w:World) (ha:Fits a) (hb:Fits b):Calls Tryz.prog 172 #[a.v,b.v] w (qK w (pI a b)):=by
 unfold qK;cases h:rd a with
 | none =>
  rw [show pI a b=(Fr.no,20) from qg h];have R:=fun W=>gP (b:=false) (by rw [h];rfl) ha W;refine Fx.door Tryz.func172 rfl (.nil w []) ?_;refine Fx.new [] 2 #[.string a.n,.string a.d] 32 [] [] fun dW=>?_;refine Fx.new [] 3 #[.string b.n,.string b.d] 32 [] [] fun dM=>?_;refine Fx.aL [] 4 32 [] [] fun dP=>?_;refine Fx.aO [3] 7 [] [] R ?_;exact Fx.dw 2 dP [0,0,1,5] [(2,#[.string ⟨#[]⟩,.string ⟨#[]⟩])] (fun W M=>⟨rfl,M.below⟩)
 | some p =>
  have R:=fun W=>gP (b:=true) (by rw [h];rfl) ha W;cases k:rd b with
  | none =>
   rw [show pI a b=(Fr.no,20) from nZ k];have R2:=fun W=>gP (b:=false) (by rw [k];rfl) hb W;refine Fx.door Tryz.func172 rfl (.nil w []) ?_;refine Fx.new [] 2 #[.string a.n,.string a.d] 32 [] [] fun dW=>?_;refine Fx.new [] 3 #[.string b.n,.string b.d] 32 [] [] fun dM=>?_;refine Fx.aL [] 4 32 [] [] fun dP=>?_;refine Fx.aO [3] 7 [] [] R ?_;refine Fx.aO [4] 11 [(9,.bool false)] [] R2 ?_;exact Fx.dw 2 dP [1,5] [(2,#[.string ⟨#[]⟩,.string ⟨#[]⟩])] (fun W M=>⟨rfl,M.below⟩)
  | some q =>
   have R2:=fun W=>gP (b:=true) (by rw [k];rfl) hb W;rw [show pI a b=wr (p*q) from kZ h k];have I1:=fun W=>(sU h W).mono fun _ _ q=>iK q;have I2:=fun W=>(sU k W).mono fun _ _ q=>iK q;have hp:=mE h;have hq:=mE k;have OP:=fun x y W hx hy=>(gN x y p q W hx hy (hp.mono zo) (hq.mono zo)).mono fun _ _ q=>iK q;have hs:gZ 1000 (p*q):=(jT hp hq).mono zo;obtain ⟨f1,f2⟩:=gZ.Ur hs;have OU:=fun x W hx=>vC x (p*q) W hx f1 f2;generalize p*q=r at *;obtain ⟨⟨⟨s1,s2⟩,k1⟩,E⟩:∃ y,wr r=y:=⟨_,rfl⟩;rw [E] at OU ⊢;refine Fx.door Tryz.func172 rfl (.nil w []) ?_;refine Fx.new [] 2 #[.string a.n,.string a.d] 32 [] [] fun dW=>?_;refine Fx.new [] 3 #[.string b.n,.string b.d] 32 [] [] fun dM=>?_;refine Fx.aL [] 4 32 [] [] fun dP=>?_;refine Fx.aO [3] 7 [] [] R ?_;refine Fx.aO [4] 11 [(9,.bool false)] [] R2 ?_
   refine Fx.draw [2] [0,2,1,3,4,5,6,7,8,5009] [] [] [] ?_;refine Fx.gL [3,4] 16 [(17,.agg #[.string b.n,.string b.d])] [] (fun W M=>I1 _) ?_;rintro W wx4 e M ⟨n1,p1,l1,c1,m1,q1,j1,d1,rfl,B4,Q1⟩;refine ⟨B4,fun M4=>?_⟩;have M:=M4;have XG:=M.below;refine Fx.gL [] 18 [] [] (fun W M=>I2 _) ?_;rintro W wx5 e M ⟨n2,p2,l2,c2,m2,q2,j2,d2,rfl,B5,Q2⟩;refine ⟨B5,fun M5=>?_⟩;have M:=M5;replace Q1:=Q1.later M.below;have XF:=(Bt XG M.below);refine Fx.gL [] 19 [] [] (fun W M=>OP _ _ _ (Q1.later M.below) (Q2.later M.below)) ?_;rintro W wx6 e M ⟨n3,p3,l3,c3,m3,q3,j3,d3,rfl,B6,Q3⟩;refine ⟨B6,fun M6=>?_⟩;have M:=M6;replace Q1:=Q1.later M.below;replace Q2:=Q2.later M.below;have HZ6:=(Bt XF M.below);refine Fx.call [] 20 [] [] (fun W M=>OU _ _ (Q3.later M.below)) ?_;refine Fx.part 3 [] [(21,.agg #[.string s1,.string s2]),(22,.int .i64 k1)] [] ?_;refine Fx.back M6 ?_;refine Fx.back M5 ?_
   refine Fx.back M4 ?_;exact Fx.dw 2 dP [5] [(2,#[.string s1,.string s2])] (fun W M=>⟨rfl,M.below⟩)
theorem nJ (a b:Fr) (w:World) (ha:Fits a) (hb:Fits b):Calls Tryz.prog 55 #[a.v,b.v] w (qK w (nC a b)):=by
 unfold qK;cases h:rd a with
 | none =>
  rw [show nC a b=(Fr.no,20) from qg h];have R:=fun W=>gP (b:=false) (by rw [h];rfl) ha W;refine Fx.door Tryz.func55 rfl (.nil w []) ?_;refine Fx.new [] 2 #[.string a.n,.string a.d] 32 [] [] fun dW=>?_;refine Fx.new [] 3 #[.string b.n,.string b.d] 32 [] [] fun dM=>?_;refine Fx.aL [] 4 32 [] [] fun dP=>?_;refine Fx.aO [3] 7 [] [] R ?_;exact Fx.dw 2 dP [0,0,1,5] [(2,#[.string ⟨#[]⟩,.string ⟨#[]⟩])] (fun W M=>⟨rfl,M.below⟩)
 | some p =>
  have R:=fun W=>gP (b:=true) (by rw [h];rfl) ha W;cases k:rd b with
  | none =>
   rw [show nC a b=(Fr.no,20) from nZ k];have R2:=fun W=>gP (b:=false) (by rw [k];rfl) hb W;refine Fx.door Tryz.func55 rfl (.nil w []) ?_;refine Fx.new [] 2 #[.string a.n,.string a.d] 32 [] [] fun dW=>?_;refine Fx.new [] 3 #[.string b.n,.string b.d] 32 [] [] fun dM=>?_;refine Fx.aL [] 4 32 [] [] fun dP=>?_;refine Fx.aO [3] 7 [] [] R ?_;refine Fx.aO [4] 11 [(9,.bool false)] [] R2 ?_;exact Fx.dw 2 dP [1,5] [(2,#[.string ⟨#[]⟩,.string ⟨#[]⟩])] (fun W M=>⟨rfl,M.below⟩)
  | some q =>
   have R2:=fun W=>gP (b:=true) (by rw [k];rfl) hb W;have hz:(b.n.toList == (⟨#[48]⟩:ByteArray).toList)=decide (q=0):=by rw [ByteArray.toList_eq (⟨#[48]⟩:ByteArray)];exact Vh k
   by_cases h0:q=0
   ·rw [show nC a b=(Fr.no,7) by rw [show nC a b=if q=0 then (Fr.no,7) else wr (p / q) from kZ h k,if_pos h0]];rw [decide_eq_true h0] at hz;refine Fx.door Tryz.func55 rfl (.nil w []) ?_;refine Fx.new [] 2 #[.string a.n,.string a.d] 32 [] [] fun dW=>?_;refine Fx.new [] 3 #[.string b.n,.string b.d] 32 [] [] fun dM=>?_;refine Fx.aL [] 4 32 [] [] fun dP=>?_;refine Fx.aO [3] 7 [] [] R ?_;refine Fx.aO [4] 11 [(9,.bool false)] [] R2 ?_;refine Fx.part 13 [2,4] [(17,.bool (b.n.toList == (⟨#[48]⟩:ByteArray).toList))] [] ?_;refine Fx.jo true (hz) ?_;exact Fx.dw 2 dP [1,5] [(2,#[.string ⟨#[]⟩,.string ⟨#[]⟩])] (fun W M=>⟨rfl,M.below⟩)
   ·rw [show nC a b=wr (p / q) by rw [show nC a b=if q=0 then (Fr.no,7) else wr (p / q) from kZ h k,if_neg h0]];rw [decide_eq_false h0] at hz;have I1:=fun W=>(sU h W).mono fun _ _ q=>iK q;have I2:=fun W=>(sU k W).mono fun _ _ q=>iK q;have hp:=mE h;have hq:=mE k;have OP:=fun x y W hx hy=>(UW x y p q W hx hy (hp.mono zo) (hq.mono zo) h0).mono fun _ _ q=>iK q;have hs:gZ 1000 (p / q):=by rw [Rat.div_def];exact (jT hp (JC hq h0)).mono zo
    obtain ⟨f1,f2⟩:=gZ.Ur hs;have OU:=fun x W hx=>vC x (p / q) W hx f1 f2;generalize p / q=r at *;obtain ⟨⟨⟨s1,s2⟩,k1⟩,E⟩:∃ y,wr r=y:=⟨_,rfl⟩;rw [E] at OU ⊢;refine Fx.door Tryz.func55 rfl (.nil w []) ?_;refine Fx.new [] 2 #[.string a.n,.string a.d] 32 [] [] fun dW=>?_;refine Fx.new [] 3 #[.string b.n,.string b.d] 32 [] [] fun dM=>?_;refine Fx.aL [] 4 32 [] [] fun dP=>?_;refine Fx.aO [3] 7 [] [] R ?_;refine Fx.aO [4] 11 [(9,.bool false)] [] R2 ?_;refine Fx.part 13 [2,4] [(17,.bool (b.n.toList == (⟨#[48]⟩:ByteArray).toList))] [] ?_;refine Fx.jo false (hz) ?_;refine Fx.draw [2] [0,2,1,3,4,5,6,7,8,5009] [] [] [] ?_;refine Fx.gL [3,4] 20 [(21,.agg #[.string b.n,.string b.d])] [] (fun W M=>I1 _) ?_;rintro W wx4 e M ⟨n1,p1,l1,c1,m1,q1,j1,d1,rfl,B4,Q1⟩;refine ⟨B4,fun M4=>?_⟩;have M:=M4;have XG:=M.below;refine Fx.gL [] 22 [] [] (fun W M=>I2 _) ?_
    rintro W wx5 e M ⟨n2,p2,l2,c2,m2,q2,j2,d2,rfl,B5,Q2⟩;refine ⟨B5,fun M5=>?_⟩;have M:=M5;replace Q1:=Q1.later M.below;have XF:=(Bt XG M.below);refine Fx.gL [] 23 [] [] (fun W M=>OP _ _ _ (Q1.later M.below) (Q2.later M.below)) ?_;rintro W wx6 e M ⟨n3,p3,l3,c3,m3,q3,j3,d3,rfl,B6,Q3⟩;refine ⟨B6,fun M6=>?_⟩;have M:=M6;replace Q1:=Q1.later M.below;replace Q2:=Q2.later M.below;have HZ6:=(Bt XF M.below);refine Fx.call [] 24 [] [] (fun W M=>OU _ _ (Q3.later M.below)) ?_;refine Fx.part 3 [] [(25,.agg #[.string s1,.string s2]),(26,.int .i64 k1)] [] ?_;refine Fx.back M6 ?_;refine Fx.back M5 ?_;refine Fx.back M4 ?_;exact Fx.dw 2 dP [5] [(2,#[.string s1,.string s2])] (fun W M=>⟨rfl,M.below⟩)
end Go.Proofs.aC
namespace Go.Proofs.aN
open Go Go.RowKit Go.SW Go.Num Go.Mem Go.Proofs Go.Dec Go.fF Go.Proofs.aW Go.Proofs.aC Go.Proofs.au Go.Fx
theorem oz (r:(Int × Int) × Int):∃ x y k:Int,r=((x,y),k):=⟨r.1.1,r.1.2,r.2,rfl⟩
theorem Aw (a:Fr) (w:World) (hf:Fits a):Calls Tryz.prog 150 #[a.v] w (fun e w'=>e= .returned (aY (iC a))∧Below w.heap.size w w'):=by
 cases ha:rd a with
 | none =>
  have R1:=zh (fun W=>gP (a:=a) (b:=false) (by rw [ha];rfl) hf W);have e:iC a=((0,0),20):=by unfold iC;rw [ha]
  rw [e];obtain ⟨s,t⟩:=a;unfold Fr.v at R1 ⊢;clear ha hf e;go_enter Tryz.func150,Tryz.ntmps150
  go_wp2_with fail
  obtain ⟨u0,EW,hz,HX,HR⟩:=Gj w #[.string s,.string t] 32 #[.int .i64 0,.int .i64 0] 40;rw [EW];have HB:=zh hz;clear EW hz;refine (R1.out _).mono ?_;rintro e u1 ⟨rfl,h⟩;replace HX:=zh (HX.out.later h);replace HR:=zh (HR.out.later h);replace HB:=zh (Bt HB.out h);clear h;have hr:=HR.out;have cr:=hr.cell;have fr:=hr.free;have hb:=HB.out;clear HX HR HB;go_wp2_with fail
  refine aM rfl rfl ((hr.set 0 _).set 1 _) Tryz.underlying40 rfl zk ?_;exact ⟨rfl,(hb.setCell (p:=⟨w.heap.size+1,0,none⟩) (by show w.heap.size≤w.heap.size+1;omega) _).setCell (p:=⟨w.heap.size+1,1,none⟩) (by show w.heap.size≤w.heap.size+1;omega) _⟩
 | some q =>
  have R1:=zh (fun W=>gP (a:=a) (b:=true) (by rw [ha];rfl) hf W);have I1:=zh (fun W=>(sU ha W).mono fun _ _ q=>iK q);have T1:=zh (fun v v' W (h:Ra W v q) (h':Ra W v' q)=>zy v v' q q W h h' ((mE ha).mono zo) ((mE ha).mono zo));have e:iC a=jh q q:=by rw [JA];unfold iC;rw [ha]
  rw [e];obtain ⟨x,y,k,ex⟩:=oz (jh q q);rw [ex] at T1 ⊢;unfold aY at T1 ⊢;obtain ⟨s,t⟩:=a;unfold Fr.v at R1 I1 ⊢;clear ha hf e ex;go_enter Tryz.func150,Tryz.ntmps150
  go_wp2_with fail
  obtain ⟨u0,EW,hz,HX,HR⟩:=Gj w #[.string s,.string t] 32 #[.int .i64 0,.int .i64 0] 40;rw [EW];have HB:=zh hz;clear EW hz;refine (R1.out _).mono ?_;rintro e u1 ⟨rfl,h⟩;replace HX:=zh (HX.out.later h);replace HR:=zh (HR.out.later h);replace HB:=zh (Bt HB.out h);clear h;have wI:=HX.out.cell;have wG:=HX.out.lt;go_wp2_with fail
  clear wI wG;refine (I1.out _).mono ?_;rintro e u2 ⟨bO,paO,lO,caO,bOd,YR,lOd,ac3,rfl,h,hm⟩;replace HX:=zh (HX.out.later h);replace HR:=zh (HR.out.later h);replace HB:=zh (Bt HB.out h);clear h;have QO:=zh hm;clear hm;go_wp2_with fail
  have QO2:=zh (QO.out.later (show Below u2.heap.size u2 (u2.alloc (.cells #[.bool bO,.slice paO lO caO,.bool bOd,.slice YR lOd ac3] 163)) from aD));replace HR:=zh (HR.out.alloc (.cells #[.bool bO,.slice paO lO caO,.bool bOd,.slice YR lOd ac3] 163));replace HB:=zh (Bt HB.out (show Below u2.heap.size u2 (u2.alloc (.cells #[.bool bO,.slice paO lO caO,.bool bOd,.slice YR lOd ac3] 163)) from aD));clear HX QO;refine (T1.out _ _ _ QO2.out QO2.out).mono ?_;rintro e u3 ⟨rfl,h⟩;replace HR:=zh (HR.out.later h);replace QO2:=zh (QO2.out.later h);replace HB:=zh (Bt HB.out h);clear h;have hr:=HR.out;have cr:=hr.cell;have fr:=hr.free;have hb:=HB.out;clear HR HB QO2;go_wp2_with fail
  refine aM rfl rfl ((hr.set 0 _).set 1 _) Tryz.underlying40 rfl zk ?_;exact ⟨rfl,(hb.setCell (p:=⟨w.heap.size+1,0,none⟩) (by show w.heap.size≤w.heap.size+1;omega) _).setCell (p:=⟨w.heap.size+1,1,none⟩) (by show w.heap.size≤w.heap.size+1;omega) _⟩
theorem aq6 (x y z t:Int) (w:World) (h:¬ (dY x y=true∧dY z t=true)):Calls Tryz.prog 184 #[.agg #[.int .i64 x,.int .i64 y],.agg #[.int .i64 z,.int .i64 t]] w (fun e w'=>e= .returned (aY ((0,0),30))∧Below w.heap.size w w'):=by
 have R1:=fun W=>dG x y W;have R2:=fun W=>dG z t W;cases h1:dY x y
 ·rw [h1] at R1;refine Fx.door Tryz.func184 rfl (.nil w []) ?_;refine Fx.new [] 2 #[.int .i64 x,.int .i64 y] 40 [] [] fun dW=>?_;refine Fx.new [] 3 #[.int .i64 z,.int .i64 t] 40 [] [] fun dM=>?_;refine Fx.aL [] 4 40 [] [] fun dP=>?_;refine Fx.aO [3] 7 [] [] R1 ?_;exact Fx.dw 2 dP [0,0,1,5] [(2,#[.int .i64 0,.int .i64 0])] (fun W M=>⟨rfl,M.below⟩)
 ·have h2:dY z t=false:=by
   cases h2:dY z t
   ·rfl
   ·exact absurd ⟨h1,h2⟩ h
  rw [h1] at R1;rw [h2] at R2;refine Fx.door Tryz.func184 rfl (.nil w []) ?_;refine Fx.new [] 2 #[.int .i64 x,.int .i64 y] 40 [] [] fun dW=>?_;refine Fx.new [] 3 #[.int .i64 z,.int .i64 t] 40 [] [] fun dM=>?_;refine Fx.aL [] 4 40 [] [] fun dP=>?_;refine Fx.aO [3] 7 [] [] R1 ?_;refine Fx.aO [4] 11 [(9,.bool false)] [] R2 ?_;exact Fx.dw 2 dP [1,5] [(2,#[.int .i64 0,.int .i64 0])] (fun W M=>⟨rfl,M.below⟩)
theorem pO (n:Int) (h1: -9223372036854775808≤n) (h2:n≤9223372036854775807):gZ 10 (un n):=by
 unfold un;obtain ⟨g1,g2⟩:=xD (n:=n) (d:=1000000000000) zo
 constructor
 ·exact Nat.le_trans (dh zo g1) (Nat.le_trans (dh zo (show n.natAbs≤9223372036854775808 by omega)) (by decide+kernel))
 ·exact Nat.le_trans (dh zo g2) (by decide+kernel)
theorem af7 (x y z t:Int) (w:World) (h1:dY x y=true) (h2:dY z t=true):Calls Tryz.prog 184 #[.agg #[.int .i64 x,.int .i64 y],.agg #[.int .i64 z,.int .i64 t]] w (fun e w'=>e= .returned (aY (dK (x+z) (y+t)))∧Below w.heap.size w w'):=by
 have R1:=fun W=>h1 ▸ dG x y W;have R2:=fun W=>h2 ▸ dG z t W;obtain ⟨b1,b2,b3⟩:=qH h1;obtain ⟨b4,b5,b6⟩:=qH h2;have V1:=fun W=>(gI x zo zo W).mono fun _ _ q=>iK q;have V2:=fun W=>(gI z zo zo W).mono fun _ _ q=>iK q;have V3:=fun W=>(gI y zo zo W).mono fun _ _ q=>iK q;have V4:=fun W=>(gI t zo zo W).mono fun _ _ q=>iK q;have s1:=pO x zo zo;have s2:=pO z zo zo;have s3:=pO y zo zo;have s4:=pO t zo zo;have P1:=fun v v' W (h:Ra W v (un x)) (h':Ra W v' (un z))=>(ql v v' _ _ W h h' (s1.mono zo) (s2.mono zo)).mono fun _ _ q=>iK q;have P2:=fun v v' W (h:Ra W v (un y)) (h':Ra W v' (un t))=>(ql v v' _ _ W h h' (s3.mono zo) (s4.mono zo)).mono fun _ _ q=>iK q;have T1:=fun v v' W (h:Ra W v (un x+un z)) (h':Ra W v' (un y+un t))=>zy v v' _ _ W h h' ((vJ s1 s2).mono zo) ((vJ s3 s4).mono zo)
 rw [Iw] at T1;obtain ⟨e1,e2,k,ex⟩:=oz (dK (x+z) (y+t));rw [ex] at T1 ⊢;unfold aY at T1 ⊢;refine Fx.door Tryz.func184 rfl (.nil w []) ?_;refine Fx.new [] 2 #[.int .i64 x,.int .i64 y] 40 [] [] fun dW=>?_;refine Fx.new [] 3 #[.int .i64 z,.int .i64 t] 40 [] [] fun dM=>?_;refine Fx.aL [] 4 40 [] [] fun dP=>?_;refine Fx.aO [3] 7 [] [] R1 ?_;refine Fx.aO [4] 11 [(9,.bool false)] [] R2 ?_;refine Fx.draw [2] [0,1,3,4,7,8,10,11,2,5,6,9,12,13,14,15,16,17,5018] [] [] [] ?_;refine Fx.gL [3,4,3,4] 17 [(19,.int .i64 z),(23,.int .i64 y),(26,.int .i64 t)] [] (fun W M=>V1 _) ?_;rintro W wx4 e M ⟨n1,p1,l1,c1,m1,q1,j1,d1,rfl,B4,Q1⟩;refine ⟨B4,fun M4=>?_⟩;have M:=M4;have XG:=M.below;refine Fx.gL [] 20 [] [] (fun W M=>V2 _) ?_;rintro W wx5 e M ⟨n2,p2,l2,c2,m2,q2,j2,d2,rfl,B5,Q2⟩;refine ⟨B5,fun M5=>?_⟩;have M:=M5;replace Q1:=Q1.later M.below;have XF:=(Bt XG M.below)
 refine Fx.gL [] 21 [] [] (fun W M=>P1 _ _ _ (Q1.later M.below) (Q2.later M.below)) ?_;rintro W wx6 e M ⟨n3,p3,l3,c3,m3,q3,j3,d3,rfl,B6,Q3⟩;refine ⟨B6,fun M6=>?_⟩;have M:=M6;replace Q1:=Q1.later M.below;replace Q2:=Q2.later M.below;have HZ6:=(Bt XF M.below);refine Fx.gL [] 24 [] [] (fun W M=>V3 _) ?_;rintro W wx7 e M ⟨n4,p4,l4,c4,m4,q4,j4,d4,rfl,B7,Q4⟩;refine ⟨B7,fun M7=>?_⟩;have M:=M7;replace Q1:=Q1.later M.below;replace Q2:=Q2.later M.below;replace Q3:=Q3.later M.below;have HZ7:=(Bt HZ6 M.below);refine Fx.gL [] 27 [] [] (fun W M=>V4 _) ?_;rintro W wx8 e M ⟨n5,p5,l5,c5,m5,q5,j5,d5,rfl,B8,Q5⟩;refine ⟨B8,fun M8=>?_⟩;have M:=M8;replace Q1:=Q1.later M.below;replace Q2:=Q2.later M.below;replace Q3:=Q3.later M.below;replace Q4:=Q4.later M.below;have HZ8:=(Bt HZ7 M.below);refine Fx.gL [] 28 [] [] (fun W M=>P2 _ _ _ (Q4.later M.below) (Q5.later M.below)) ?_
 rintro W wx9 e M ⟨n6,p6,l6,c6,m6,q6,j6,d6,rfl,B9,Q6⟩;refine ⟨B9,fun M9=>?_⟩;have M:=M9;replace Q1:=Q1.later M.below;replace Q2:=Q2.later M.below;replace Q3:=Q3.later M.below;replace Q4:=Q4.later M.below;replace Q5:=Q5.later M.below;have HZ9:=(Bt HZ8 M.below);refine Fx.call [] 29 [] [] (fun W M=>T1 _ _ _ (Q3.later M.below) (Q6.later M.below)) ?_;refine Fx.part 3 [] [(30,.agg #[.int .i64 e1,.int .i64 e2]),(31,.int .i64 k)] [] ?_;refine Fx.back M9 ?_;refine Fx.back M8 ?_;refine Fx.back M7 ?_;refine Fx.back M6 ?_;refine Fx.back M5 ?_;refine Fx.back M4 ?_;exact Fx.dw 2 dP [5] [(2,#[.int .i64 e1,.int .i64 e2])] (fun W M=>⟨rfl,M.below⟩)
theorem qM (a b:Int × Int) (w:World):Calls Tryz.prog 184 #[.agg #[.int .i64 a.1,.int .i64 a.2],.agg #[.int .i64 b.1,.int .i64 b.2]] w (fun e w'=>e= .returned (aY (aW.lg a b))∧Below w.heap.size w w'):=by
 unfold aW.lg okB;simp only [List.all_cons,List.all_nil,Bool.and_true]
 by_cases h:dY a.1 a.2=true∧dY b.1 b.2=true
 ·rw [if_pos (by simp [h.1,h.2])];exact af7 _ _ _ _ w h.1 h.2
 ·rw [if_neg (by simpa using h)];exact aq6 _ _ _ _ w h
end Go.Proofs.aN
namespace Go.Proofs.aN
open Go Go.RowKit Go.SW Go.Num Go.Mem Go.Proofs Go.fF Go.Proofs.aW Go.Proofs.aC
def Bg (q:Rat):Int:=(q*((1000000000000:Int):Rat)).floor
def AA (q:Rat):Int:= -((-(q*((1000000000000:Int):Rat))).floor)
theorem aa4 (x:Rat):x.floor≤ -((-x).floor):=by
 have h1:=Rat.floor_le x;have h2:=Rat.floor_le (-x)
 have h3:((x.floor:Int):Rat)≤((-((-x).floor):Int):Rat):=by
  rw [Rat.intCast_neg]
  grind
 exact Rat.intCast_le_intCast.1 h3
theorem Uw (q:Rat):Bg q≤AA q:=aa4 _
def Kz (z:Int):Int × Bool:=if z.natAbs≤1000000000000000000 then (z,true) else (0,false)
theorem nu {A:Int × Bool} {l:Int} (h:A=Kz l):(A.2=true→A.1=l∧l.natAbs≤1000000000000000000)∧(A.2=false→1000000000000000000<l.natAbs):=by
 subst h;unfold Kz
 by_cases h:l.natAbs≤1000000000000000000
 ·rw [if_pos h];exact ⟨fun _=>⟨rfl,h⟩,fun h=>by cases h⟩
 ·rw [if_neg h];exact ⟨fun h=>(by cases h),fun _=>by omega⟩
def OI (Q:Int→Int→Bool→Int × Bool) (V:Int→Int→Rat) (x y:Int):Prop:=Q x y false=Kz (Bg (V x y))∧Q x y true=Kz (AA (V x y))
theorem Iu (Q:Int→Int→Bool→Int × Bool) (V:Int→Int→Rat) (a b:Int × Int) (k0:OI Q V a.1 b.1) (k1:OI Q V a.1 b.2) (k2:OI Q V a.2 b.1) (k3:OI Q V a.2 b.2) :
  jh (gX (V a.1 b.1) [V a.1 b.2,V a.2 b.1,V a.2 b.2]) (dN (V a.1 b.1) [V a.1 b.2,V a.2 b.1,V a.2 b.2])=qp Q a b:=by
 have r1:=Uw (V a.1 b.1);have r2:=Uw (V a.1 b.2);have r3:=Uw (V a.2 b.1);have r4:=Uw (V a.2 b.2);have q0:=nu k0.1;have q1:=nu k1.1;have q2:=nu k2.1;have q3:=nu k3.1;have p0:=nu k0.2;have p1:=nu k1.2;have p2:=nu k2.2;have p3:=nu k3.2
 have fe:aa9 Q a b=((Q a.1 b.1 false).2&&(Q a.1 b.1 true).2&&((Q a.1 b.2 false).2&&(Q a.1 b.2 true).2)&&((Q a.2 b.1 false).2&&(Q a.2 b.1 true).2)&&((Q a.2 b.2 false).2&&(Q a.2 b.2 true).2)):=by
  unfold aa9;simp [List.range,List.range.loop,Bool.and_assoc,vN,vP,TD,OX]
 have e0:vN Q a b 0=Q a.1 b.1 false:=rfl;have e1:vN Q a b 1=Q a.1 b.2 false:=rfl;have e2:vN Q a b 2=Q a.2 b.1 false:=rfl;have e3:vN Q a b 3=Q a.2 b.2 false:=rfl;have d0:vP Q a b 0=Q a.1 b.1 true:=rfl;have d1:vP Q a b 1=Q a.1 b.2 true:=rfl;have d2:vP Q a b 2=Q a.2 b.1 true:=rfl;have d3:vP Q a b 3=Q a.2 b.2 true:=rfl;unfold qp;rw [fe,e0,e1,e2,e3,d0,d1,d2,d3];clear fe e0 e1 e2 e3 d0 d1 d2 d3 k0 k1 k2 k3;generalize Q a.1 b.1 false=A0 at *;generalize Q a.1 b.2 false=A1 at *;generalize Q a.2 b.1 false=A2 at *;generalize Q a.2 b.2 false=A3 at *;generalize Q a.1 b.1 true=B0 at *;generalize Q a.1 b.2 true=B1 at *;generalize Q a.2 b.1 true=B2 at *;generalize Q a.2 b.2 true=B3 at *;generalize V a.1 b.1=v0 at *;generalize V a.1 b.2=v1 at *;generalize V a.2 b.1=v2 at *;generalize V a.2 b.2=v3 at *;obtain ⟨h1,h2,h3,h4,h5⟩:=aK3 v0 v1 v2 v3;obtain ⟨g1,g2,g3,g4,g5⟩:=ar9 v0 v1 v2 v3
 generalize gX v0 [v1,v2,v3]=lo at *;generalize dN v0 [v1,v2,v3]=hi at *;replace h2:Bg lo≤Bg v0:=vD h2;replace h3:Bg lo≤Bg v1:=vD h3;replace h4:Bg lo≤Bg v2:=vD h4;replace h5:Bg lo≤Bg v3:=vD h5;replace g2:AA v0≤AA hi:=vE g2;replace g3:AA v1≤AA hi:=vE g3;replace g4:AA v2≤AA hi:=vE g4;replace g5:AA v3≤AA hi:=vE g5
 have h6:Bg lo=Bg v0∨Bg lo=Bg v1∨Bg lo=Bg v2∨Bg lo=Bg v3:=by
  rcases h1 with rfl|rfl|rfl|rfl
  ·exact .inl rfl
  ·exact .inr (.inl rfl)
  ·exact .inr (.inr (.inl rfl))
  ·exact .inr (.inr (.inr rfl))
 have g6:AA hi=AA v0∨AA hi=AA v1∨AA hi=AA v2∨AA hi=AA v3:=by
  rcases g1 with rfl|rfl|rfl|rfl
  ·exact .inl rfl
  ·exact .inr (.inl rfl)
  ·exact .inr (.inr (.inl rfl))
  ·exact .inr (.inr (.inr rfl))
 unfold jh;rw [uR,uR]
 show dK (Bg lo) (AA hi)=_
 clear h1 g1;generalize Bg lo=L at *;generalize AA hi=H at *;generalize Bg v0=l0 at *;generalize Bg v1=l1 at *;generalize Bg v2=l2 at *;generalize Bg v3=l3 at *;generalize AA v0=u0 at *;generalize AA v1=u1 at *;generalize AA v2=u2 at *;generalize AA v3=u3 at *;obtain ⟨x0,y0⟩:=A0;obtain ⟨x1,y1⟩:=A1;obtain ⟨x2,y2⟩:=A2;obtain ⟨x3,y3⟩:=A3;obtain ⟨s0,t0⟩:=B0;obtain ⟨s1,t1⟩:=B1;obtain ⟨s2,t2⟩:=B2;obtain ⟨s3,t3⟩:=B3;simp only at q0 q1 q2 q3 p0 p1 p2 p3 ⊢
 by_cases hf:(y0&&t0&&(y1&&t1)&&(y2&&t2)&&(y3&&t3))=true
 ·rw [if_pos hf];simp only [Bool.and_eq_true] at hf;obtain ⟨⟨⟨⟨f1,f2⟩,f3,f4⟩,f5,f6⟩,f7,f8⟩:=hf;obtain ⟨rfl, -⟩:=q0.1 f1;obtain ⟨rfl, -⟩:=q1.1 f3;obtain ⟨rfl, -⟩:=q2.1 f5;obtain ⟨rfl, -⟩:=q3.1 f7;obtain ⟨rfl, -⟩:=p0.1 f2;obtain ⟨rfl, -⟩:=p1.1 f4;obtain ⟨rfl, -⟩:=p2.1 f6;obtain ⟨rfl, -⟩:=p3.1 f8
  have m1:L=[x0,x1,x2,x3].foldl min x0:=by
   simp only [List.foldl];omega
  have m2:H=[s0,s1,s2,s3].foldl max s0:=by
   simp only [List.foldl];omega
  rw [m1,m2]
 ·rw [if_neg hf]
  have hb:dY L H=false:=by
   refine Gc ?_
   have:y0=false∨t0=false∨y1=false∨t1=false∨y2=false∨t2=false∨y3=false∨t3=false:=by
    revert hf
    cases y0<;>cases t0<;>cases y1<;>cases t1<;>cases y2<;>cases t2<;>cases y3<;>cases t3<;>simp
   rcases this with h|h|h|h|h|h|h|h
   ·have:=q0.2 h;omega
   ·have:=p0.2 h;omega
   ·have:=q1.2 h;omega
   ·have:=p1.2 h;omega
   ·have:=q2.2 h;omega
   ·have:=p2.2 h;omega
   ·have:=q3.2 h;omega
   ·have:=p3.2 h;omega
  unfold dK;rw [hb];rfl
theorem Vn (a b c d:Int):jh (un a - un d) (un b - un c)=dK (a - d) (b - c):=by
 have h:=Iw a (-d) b (-c)
 have e:∀ n:Int,un (-n)= -un n:=fun n=>by
  unfold un;rw [Rat.intCast_neg,yG]
 rw [e,e,← Rat.sub_eq_add_neg,← Rat.sub_eq_add_neg,← Int.sub_eq_add_neg,← Int.sub_eq_add_neg] at h;exact h
theorem MG (x y:Int) (d:Nat) (up:Bool):jI x y d up=Kz (pG (x*y) d up):=rfl
theorem as3 {q:Rat} {n:Int} {d:Nat} (hd:0<d) (h:q*((1000000000000:Int):Rat)=(n:Rat) / ((d:Int):Rat)):Bg q=pG n d false∧AA q=pG n d true:=by
 unfold Bg AA;rw [h]
 constructor
 ·rw [ou _ zo];rfl
 ·rw [yG,← Rat.intCast_neg,ou _ zo];rfl
theorem Ch (x y:Int) (hy:y≠0):OI (fun x y up=>jQ x 1000000000000 y up) (fun x y=>un x / un y) x y:=by
 have hE:=aE0;have e1:=LH x;have e2:=LH y;have hy':(y:Rat)≠0:=fun h=>hy (by exact_mod_cast h);have hu:un y≠0:=fun h=>hy' (by rw [← e2,h];exact Rat.zero_mul _)
 have key:un x / un y*((1000000000000:Int):Rat)=(((if y<0 then -x else x)*1000000000000:Int):Rat) / ((y.natAbs:Int):Rat):=by
  have h1:un x / un y=(x:Rat) / (y:Rat):=by
   rw [← e1,← e2]
   grind
  rw [h1,Rat.intCast_mul]
  by_cases h:y<0
  ·rw [if_pos h];have:((y.natAbs:Int):Rat)= -(y:Rat):=by rw [← Rat.intCast_neg];congr 1;omega
   rw [this,Rat.intCast_neg]
   grind
  ·rw [if_neg h];have:((y.natAbs:Int):Rat)=(y:Rat):=by congr 1;omega
   rw [this]
   grind
 have h:=as3 zo key;unfold OI jQ;simp only [MG];exact ⟨congrArg Kz h.1.symm,congrArg Kz h.2.symm⟩
theorem Cg (d:Int) (hd:0<d) (x n:Int):OI (fun x y up=>jQ x y d up) (fun x y=>un x*((y:Rat) / (d:Rat))) x n:=by
 have e1:=LH x
 have hd':(d:Rat)≠0:=fun h=>by
  have:d=0:=by exact_mod_cast h
  omega
 have key:un x*((n:Rat) / (d:Rat))*((1000000000000:Int):Rat)=((x*n:Int):Rat) / ((d.natAbs:Int):Rat):=by
  have:((d.natAbs:Int):Rat)=(d:Rat):=by congr 1;omega
  rw [this,Rat.intCast_mul,← e1]
  grind
 have h:=as3 zo key;unfold OI jQ;simp only [MG,if_neg (show ¬ d<0 by omega)];exact ⟨congrArg Kz h.1.symm,congrArg Kz h.2.symm⟩
theorem Vq (a b:Int × Int) (h1:b.1≠0) (h2:b.2≠0):jh (gX (un a.1 / un b.1) [un a.1 / un b.2,un a.2 / un b.1,un a.2 / un b.2]) (dN (un a.1 / un b.1) [un a.1 / un b.2,un a.2 / un b.1,un a.2 / un b.2])=qp (fun x y up=>jQ x 1000000000000 y up) a b :=
 Iu _ (fun x y=>un x / un y) a b (Ch _ _ h1) (Ch _ _ h2) (Ch _ _ h1) (Ch _ _ h2)
theorem Vo (a:Int × Int) (n d:Int) (hd:0<d):jh (gX (un a.1*((n:Rat) / (d:Rat))) [un a.2*((n:Rat) / (d:Rat))]) (dN (un a.1*((n:Rat) / (d:Rat))) [un a.2*((n:Rat) / (d:Rat))])=qp (fun x y up=>jQ x y d up) a (n,n):=by
 rw [← Iu _ (fun x y=>un x*((y:Rat) / (d:Rat))) a (n,n) (Cg d hd _ _) (Cg d hd _ _) (Cg d hd _ _) (Cg d hd _ _)];simp only;generalize un a.1*((n:Rat) / (d:Rat))=p;generalize un a.2*((n:Rat) / (d:Rat))=q;have h1:gX p [p,q,q]=gX p [q]:=by unfold gX gX gX gX;grind
 have h2:dN p [p,q,q]=dN p [q]:=by unfold dN dN dN dN;grind
 rw [h1,h2]
end Go.Proofs.aN
namespace Go.Proofs.aN
open Go Go.RowKit Go.SW Go.Num Go.Mem Go.Proofs Go.Dec Go.fF Go.Proofs.aW Go.Proofs.aC Go.Proofs.au Go.Fx
theorem ao8 (x y z t:Int) (w:World) (h:¬ (dY x y=true∧dY z t=true)):Calls Tryz.prog 138 #[.agg #[.int .i64 x,.int .i64 y],.agg #[.int .i64 z,.int .i64 t]] w (fun e w'=>e= .returned (aY ((0,0),30))∧Below w.heap.size w w'):=by
 have R1:=fun W=>dG x y W;have R2:=fun W=>dG z t W;cases h1:dY x y
 ·rw [h1] at R1;refine Fx.door Tryz.func138 rfl (.nil w []) ?_;refine Fx.new [] 2 #[.int .i64 x,.int .i64 y] 40 [] [] fun dW=>?_;refine Fx.new [] 3 #[.int .i64 z,.int .i64 t] 40 [] [] fun dM=>?_;refine Fx.aL [] 4 40 [] [] fun dP=>?_;refine Fx.aO [3] 7 [] [] R1 ?_;exact Fx.dw 2 dP [0,0,1,5] [(2,#[.int .i64 0,.int .i64 0])] (fun W M=>⟨rfl,M.below⟩)
 ·have h2:dY z t=false:=by
   cases h2:dY z t
   ·rfl
   ·exact absurd ⟨h1,h2⟩ h
  rw [h1] at R1;rw [h2] at R2;refine Fx.door Tryz.func138 rfl (.nil w []) ?_;refine Fx.new [] 2 #[.int .i64 x,.int .i64 y] 40 [] [] fun dW=>?_;refine Fx.new [] 3 #[.int .i64 z,.int .i64 t] 40 [] [] fun dM=>?_;refine Fx.aL [] 4 40 [] [] fun dP=>?_;refine Fx.aO [3] 7 [] [] R1 ?_;refine Fx.aO [4] 11 [(9,.bool false)] [] R2 ?_;exact Fx.dw 2 dP [1,5] [(2,#[.int .i64 0,.int .i64 0])] (fun W M=>⟨rfl,M.below⟩)
theorem ad8 (x y z t:Int) (w:World) (h1:dY x y=true) (h2:dY z t=true):Calls Tryz.prog 138 #[.agg #[.int .i64 x,.int .i64 y],.agg #[.int .i64 z,.int .i64 t]] w (fun e w'=>e= .returned (aY (dK (x - t) (y - z)))∧Below w.heap.size w w'):=by
 have R1:=fun W=>h1 ▸ dG x y W;have R2:=fun W=>h2 ▸ dG z t W;obtain ⟨b1,b2,b3⟩:=qH h1;obtain ⟨b4,b5,b6⟩:=qH h2;have V1:=fun W=>(gI x zo zo W).mono fun _ _ q=>iK q;have V2:=fun W=>(gI t zo zo W).mono fun _ _ q=>iK q;have V3:=fun W=>(gI y zo zo W).mono fun _ _ q=>iK q;have V4:=fun W=>(gI z zo zo W).mono fun _ _ q=>iK q;have s1:=pO x zo zo;have s2:=pO t zo zo;have s3:=pO y zo zo;have s4:=pO z zo zo;have P1:=fun v v' W (h:Ra W v (un x)) (h':Ra W v' (un t))=>(nH v v' _ _ W h h' (s1.mono zo) (s2.mono zo)).mono fun _ _ q=>iK q;have P2:=fun v v' W (h:Ra W v (un y)) (h':Ra W v' (un z))=>(nH v v' _ _ W h h' (s3.mono zo) (s4.mono zo)).mono fun _ _ q=>iK q;have T1:=fun v v' W (h:Ra W v (un x - un t)) (h':Ra W v' (un y - un z))=>zy v v' _ _ W h h' ((JB s1 s2).mono zo) ((JB s3 s4).mono zo)
 rw [Vn] at T1;obtain ⟨e1,e2,k,ex⟩:=oz (dK (x - t) (y - z));rw [ex] at T1 ⊢;unfold aY at T1 ⊢;refine Fx.door Tryz.func138 rfl (.nil w []) ?_;refine Fx.new [] 2 #[.int .i64 x,.int .i64 y] 40 [] [] fun dW=>?_;refine Fx.new [] 3 #[.int .i64 z,.int .i64 t] 40 [] [] fun dM=>?_;refine Fx.aL [] 4 40 [] [] fun dP=>?_;refine Fx.aO [3] 7 [] [] R1 ?_;refine Fx.aO [4] 11 [(9,.bool false)] [] R2 ?_;refine Fx.draw [2] [0,1,3,4,7,8,10,11,2,5,6,9,12,13,14,15,16,17,5018] [] [] [] ?_;refine Fx.gL [3,4,3,4] 17 [(19,.int .i64 t),(23,.int .i64 y),(26,.int .i64 z)] [] (fun W M=>V1 _) ?_;rintro W wx4 e M ⟨n1,p1,l1,c1,m1,q1,j1,d1,rfl,B4,Q1⟩;refine ⟨B4,fun M4=>?_⟩;have M:=M4;have XG:=M.below;refine Fx.gL [] 20 [] [] (fun W M=>V2 _) ?_;rintro W wx5 e M ⟨n2,p2,l2,c2,m2,q2,j2,d2,rfl,B5,Q2⟩;refine ⟨B5,fun M5=>?_⟩;have M:=M5;replace Q1:=Q1.later M.below;have XF:=(Bt XG M.below)
 refine Fx.gL [] 21 [] [] (fun W M=>P1 _ _ _ (Q1.later M.below) (Q2.later M.below)) ?_;rintro W wx6 e M ⟨n3,p3,l3,c3,m3,q3,j3,d3,rfl,B6,Q3⟩;refine ⟨B6,fun M6=>?_⟩;have M:=M6;replace Q1:=Q1.later M.below;replace Q2:=Q2.later M.below;have HZ6:=(Bt XF M.below);refine Fx.gL [] 24 [] [] (fun W M=>V3 _) ?_;rintro W wx7 e M ⟨n4,p4,l4,c4,m4,q4,j4,d4,rfl,B7,Q4⟩;refine ⟨B7,fun M7=>?_⟩;have M:=M7;replace Q1:=Q1.later M.below;replace Q2:=Q2.later M.below;replace Q3:=Q3.later M.below;have HZ7:=(Bt HZ6 M.below);refine Fx.gL [] 27 [] [] (fun W M=>V4 _) ?_;rintro W wx8 e M ⟨n5,p5,l5,c5,m5,q5,j5,d5,rfl,B8,Q5⟩;refine ⟨B8,fun M8=>?_⟩;have M:=M8;replace Q1:=Q1.later M.below;replace Q2:=Q2.later M.below;replace Q3:=Q3.later M.below;replace Q4:=Q4.later M.below;have HZ8:=(Bt HZ7 M.below);refine Fx.gL [] 28 [] [] (fun W M=>P2 _ _ _ (Q4.later M.below) (Q5.later M.below)) ?_
 rintro W wx9 e M ⟨n6,p6,l6,c6,m6,q6,j6,d6,rfl,B9,Q6⟩;refine ⟨B9,fun M9=>?_⟩;have M:=M9;replace Q1:=Q1.later M.below;replace Q2:=Q2.later M.below;replace Q3:=Q3.later M.below;replace Q4:=Q4.later M.below;replace Q5:=Q5.later M.below;have HZ9:=(Bt HZ8 M.below);refine Fx.call [] 29 [] [] (fun W M=>T1 _ _ _ (Q3.later M.below) (Q6.later M.below)) ?_;refine Fx.part 3 [] [(30,.agg #[.int .i64 e1,.int .i64 e2]),(31,.int .i64 k)] [] ?_;refine Fx.back M9 ?_;refine Fx.back M8 ?_;refine Fx.back M7 ?_;refine Fx.back M6 ?_;refine Fx.back M5 ?_;refine Fx.back M4 ?_;exact Fx.dw 2 dP [5] [(2,#[.int .i64 e1,.int .i64 e2])] (fun W M=>⟨rfl,M.below⟩)
theorem sN (a b:Int × Int) (w:World):Calls Tryz.prog 138 #[.agg #[.int .i64 a.1,.int .i64 a.2],.agg #[.int .i64 b.1,.int .i64 b.2]] w (fun e w'=>e= .returned (aY (aW.uh a b))∧Below w.heap.size w w'):=by
 unfold aW.uh okB;simp only [List.all_cons,List.all_nil,Bool.and_true]
 by_cases h:dY a.1 a.2=true∧dY b.1 b.2=true
 ·rw [if_pos (by simp [h.1,h.2])];exact ad8 _ _ _ _ w h.1 h.2
 ·rw [if_neg (by simpa using h)];exact ao8 _ _ _ _ w h
end Go.Proofs.aN
namespace Go.Proofs.au
open Go Go.RowKit Go.SW Go.Num Go.Mem Go.Proofs
theorem zN (a:Nat):∀ k,sz 10000 (a^k)≤sz 10000 a*k+1
 | 0=>by rw [Nat.pow_zero];exact Nat.le_trans (aR zo 1 1 zo) zo
 | k+1=>by
  have h1:=jL (B:=10000) zo (a^k) a;have h2:=zN a k;rw [Nat.pow_succ,Nat.mul_succ];omega
theorem ah0 {a:Int} {i n:Nat} (hi:i≤n) (h:sz 10000 a.natAbs*n≤1073741824):sz 10000 (a^i).natAbs≤1073741825:=by
 rw [Int.natAbs_pow];have h1:=zN a.natAbs i;have h2:sz 10000 a.natAbs*i≤sz 10000 a.natAbs*n:=Nat.mul_le_mul_left _ hi;omega
theorem wB (x:Value) (a:Int) (n:Nat) (w:World) (hx:Pl w x a) (hs:sz 10000 a.natAbs*n≤1073741824) (hs1:sz 10000 a.natAbs≤549755813888) (hn:n≤1000) :
  Calls Tryz.prog 280 #[x,.int .i64 n] w (xV w (a^n)):=by
 obtain ⟨bA,pA,lA,cA,rfl⟩:=hx.agg;have NX:=zh hx;have HS:=zh hs;have HS1:=zh hs1;clear hx hs hs1;go_enter Tryz.func280,Tryz.ntmps280
 go_wp2_with fail
 obtain ⟨wx,EW,hz,X2,X4⟩:=Gj w #[.bool bA,.slice pA lA cA] 161 #[.bool false,.slice none 0 0] 161;rw [EW];clear EW;refine (iQ 1 _ zo zo).mono ?_;rintro e w1 ⟨v1,rfl,hb1,hv1⟩;obtain ⟨b1,p1,l1,c1,rfl⟩:=hv1.agg;replace X2:=X2.bl hb1;replace X4:=X4.bl hb1;have HB:=zh (Bt hz hb1);have HV:=zh hv1;clear hz hb1 hv1;have e2:w.heap.size<w1.heap.size:=X2.out.lt;have e4:w.heap.size+1<w1.heap.size:=X4.out.lt;go_wp2_with fail
 obtain ⟨wy,EW,hz,X5⟩:=wO w1 #[.bool b1,.slice p1 l1 c1] 161;rw [EW];clear EW;have HV5:=zh (HV.out.later hz);replace X2:=X2.bl hz;replace X4:=X4.bl hz;replace HB:=zh (Bt HB.out hz);clear hz HV;obtain ⟨g,eg⟩:∃ y,w1.heap.size=y:=⟨_,rfl⟩;rw [eg] at X5 e2 e4 ⊢;clear eg
 go_loopw [6] (fun iv wr=>∃ (i:Nat) (b:Bool) (p:Option Addr) (l c:Nat),i≤n∧iv= .int .i64 (i:Int)∧Hid (Pl wr (.agg #[.bool b,.slice p l c]) (a^i))∧Hid (ah wr g #[.bool b,.slice p l c] 161)∧Hid (ah wr w.heap.size #[.bool bA,.slice pA lA cA] 161)∧Hid (ah wr (w.heap.size+1) #[.bool false,.slice none 0 0] 161)∧Hid (Below w.heap.size w wr)) (fun iv _=>n - (intOf iv).toNat)
 case atStart=>exact ⟨0,_,_,_,_,Nat.zero_le _,rfl,by rw [Int.pow_zero];exact HV5,X5,X2,X4,HB⟩
 case round =>
  clear X5 X2 X4 HB HV5;obtain ⟨i,b,p,l,c,hi,rfl,HP,X5,X2,X4,HB⟩:=hrel
  rcases Nat.lt_or_ge i n with hlt|hge
  ·obtain ⟨c2,l2⟩:=X2.cl;obtain ⟨c5,l5⟩:=X5.cl;have HT:=zh (gN _ _ (a^i) a wr HP.out (NX.out.later HB.out) (by have:=ah0 (a:=a) hi HS.out;omega) HS1.out);have bj6:(i:Int)<9223372036854775807:=by omega
   go_wp2_with fail
   refine HT.out.mono ?_;rintro e w2 ⟨v2,rfl,hb2,hv2⟩;obtain ⟨b2,p2,l2',c2',rfl⟩:=hv2.agg;replace X5:=X5.bl hb2;replace X2:=X2.bl hb2;replace X4:=X4.bl hb2;replace HB:=zh (Bt HB.out hb2);have mg:=zh hv2;clear hb2 hv2 c2 l2 c5 l5 HT HP;obtain ⟨c5,l5,f5⟩:=X5.clf;go_wp2_with fail
   go_roundw
   case rel =>
    have hB:=HB.out;exact ⟨i+1,_,_,_,_,by omega,by go_num,by rw [Int.pow_succ];exact zh (mg.out.set2 X5.out zd _ _ _ _),zh ((X5.out.set 0 _).set 1 _),zh ((X2.out.setOther _ (by simp;omega)).setOther _ (by simp;omega)),zh ((X4.out.setOther _ (by simp;omega)).setOther _ (by simp;omega)),zh aD⟩
   case measure=>exact zM
  ·obtain rfl:i=n:=by omega
   obtain ⟨c5,l5⟩:=X5.cl;obtain ⟨c4,l4,f4⟩:=X4.clf;go_wp2_with fail
   have hx4:=X4.out;have hB:=HB.out;refine dH rfl rfl aJ Tryz.underlying161 rfl zk ?_;exact ⟨_,rfl,aD,HP.out.set2 hx4 zd _ _ _ _⟩
end Go.Proofs.au
namespace Go.Proofs.aC
open Go Go.RowKit Go.SW Go.Num Go.Mem Go.Proofs Go.Dec Go.Proofs.au Go.fF
theorem VI (q:Rat) (n:Nat):(q^n).num=q.num^n∧(((q^n).den:Nat):Int)=(q.den:Int)^n:=by
 rw [Rat.num_pow,Rat.den_pow,Int.natCast_pow];exact ⟨rfl,rfl⟩
theorem wB (x:Value) (p:Rat) (n:Nat) (w:World) (hx:Ra w x p) (h1:sz 10000 p.num.natAbs*n≤1073741824) (h2:sz 10000 p.den*n≤1073741824) (h3:sz 10000 p.num.natAbs≤549755813888) (h4:sz 10000 p.den≤549755813888) (hn:n≤1000):Calls Tryz.prog 235 #[x,.int .i64 n] w (jM w (p^n)):=by
 obtain ⟨bA,je,lA,jG,xP,jX,xE,kD,rfl,hA1,hA2⟩:=id hx;have NA:=zh hA1;have zI:=zh hA2;have S1:=zh h1;have S2:=zh h2;have S3:=zh h3;have S4:=zh h4;have HQ:=zh (VI p n);clear hx hA1 hA2 h1 h2 h3 h4;go_enter Tryz.func235,Tryz.ntmps235
 go_wp2_with fail
 obtain ⟨jN,EW,hz,X1,X2⟩:=Gj w #[.bool bA,.slice je lA jG,.bool xP,.slice jX xE kD] 163 #[.bool false,.slice none 0 0,.bool false,.slice none 0 0] 163;rw [EW];replace NA:=zh (NA.out.later hz);replace zI:=zh (zI.out.later hz);have hk2:=Bt (Below.refl _ _) hz;clear EW hz;obtain ⟨jV,jU,lJ⟩:=X1.clf;refine aF [(.pure,0),(.read,1),(.pure,2),(.pure,4),(.read,5),(.pure,6),(.ext,3),(.ext,7),(.pure,8),(.fin,9)] zk zk zR zP ?_;refine zV ?_;refine aH rfl rfl (fun we3 hb3 J hJ=>?_);go_simp;have hh3:Below jN.heap.size jN we3:=aD;clear hb3;refine (au.wB _ _ _ _ (NA.out.later hh3) S1.out S3.out hn).mono ?_;rintro e Td ⟨v,rfl,hb4,hv5⟩;obtain ⟨bC,paC,lC,caC,rfl⟩:=hv5.agg;refine hJ _ _ hb4 ?_;clear hJ J;have Um:=Bt hh3 hb4;have NC:=zh hv5;clear hh3 hb4 hv5;refine zV ?_;refine aH rfl rfl (fun GD hb6 J hJ=>?_);go_simp
 have tQ:Below jN.heap.size jN GD:=Bt Um aD;replace NC:=zh (NC.out.later (show Below Td.heap.size Td GD from aD));clear hb6 Um;refine (au.wB _ _ _ _ (zI.out.later tQ) (by rw [Int.natAbs_natCast];exact S2.out) (by rw [Int.natAbs_natCast];exact S4.out) hn).mono ?_;rintro e sQ ⟨v,rfl,iJ,qA⟩;obtain ⟨bD,paD,lD,caD,rfl⟩:=qA.agg;refine hJ _ _ iJ ?_;clear hJ J;have Bd:=Bt tQ iJ;replace NC:=zh (NC.out.later iJ);have ND:=zh qA;clear tQ iJ qA;refine zV ?_;refine aU [_] rfl (fun Po hf9=>?_);replace NC:=zh (NC.out.later (show Below sQ.heap.size sQ Po from aD));replace ND:=zh (ND.out.later (show Below sQ.heap.size sQ Po from aD));have mI:Below jN.heap.size jN Po:=Bt Bd aD;clear hf9 Bd;clear jV jU lJ;replace NA:=zh (NA.out.later mI);replace zI:=zh (zI.out.later mI);replace X1:=X1.bl mI;replace X2:=X2.bl mI
 have hk10:=Bt hk2 mI;clear hk2;clear mI;obtain ⟨tH,tF,xI⟩:=X2.clf;have hres:=X2.out;have xK:=hres.cell;have xH:=hres.free;go_wp2_with fail
 refine dH rfl rfl aJ Tryz.underlying163 rfl zk ?_;exact ⟨_,rfl,aD,_,_,_,_,_,_,_,_,rfl,by rw [HQ.out.1];exact Pl.GR NC.out hres zd _ _ _ _,by rw [HQ.out.2];exact Pl.GR ND.out hres zd _ _ _ _⟩
end Go.Proofs.aC
namespace Go.Proofs.aN
open Go Go.RowKit Go.SW Go.Num Go.Mem Go.Proofs Go.Dec Go.fF Go.Proofs.aW Go.Proofs.aC
theorem pz (lo hi:Int) (w:World):Calls Tryz.prog 164 #[.agg #[.int .i64 lo,.int .i64 hi]] w (fun e w'=>e= .returned (.bool (dY lo hi))∧Below w.heap.size w w'):=by
 unfold dY;cases h1:decide (-1000000000000000000≤lo)<;>cases h2:decide (lo≤hi)<;>cases h3:decide (hi≤1000000000000000000)
 all_goals
  go_enter Tryz.func164,Tryz.ntmps164
  go_wp2_with fail
  go_ret
  exact ⟨rfl,aD⟩
theorem zw (n:Nat) (hn:n≤2000000000000000000) (w:World):Calls Tryz.prog 216 #[.int .i64 n] w (jM w (rN n)):=by
 have H:=zh (fun W=>rD (n:Int) 1000000000000 zo zo zo zo zo W);have e:(((n:Int):Rat) / ((1000000000000:Int):Rat))=rN n:=rfl;rw [e] at H;generalize rN n=q at *;go_enter Tryz.func216,Tryz.ntmps216
 go_wp2_with fail
 obtain ⟨jN,EW,hz,X1⟩:=wO w #[.bool false,.slice none 0 0,.bool false,.slice none 0 0] 163;rw [EW];have hk2:=Bt (Below.refl _ _) hz;clear EW hz;refine (H.out _).mono ?_;rintro e kE ⟨v,rfl,hb3,hv4⟩;obtain ⟨bC,paC,lC,caC,bCd,aS0,lCd,aW8,rfl,hx4,hy4⟩:=id hv4;replace X1:=X1.bl hb3;have hk5:=Bt hk2 hb3;clear hk2;have QC:=zh hv4;clear hb3 hv4 hx4 hy4;obtain ⟨jV,jU,lJ⟩:=X1.clf;have hres:=X1.out;have xK:=hres.cell;have xH:=hres.free;go_wp2_with fail
 refine dH rfl rfl aJ Tryz.underlying163 rfl zk ?_;exact ⟨_,rfl,aD,Ra.GR QC.out hres zd _ _ _ _⟩
def abE (lo hi:Int):(Int × Int) × Int:=if dY lo hi=false then ((0,0),30) else if 0≤lo then ((lo,hi),0) else if hi≤0 then ((-hi, -lo),0) else ((0,max (-lo) hi),0)
theorem af8 (lo hi:Int) (w:World):Calls Tryz.prog 233 #[.agg #[.int .i64 lo,.int .i64 hi]] w (fun e w'=>e= .returned (aY (abE lo hi))∧Below w.heap.size w w'):=by
 have H:=zh (fun W=>pz lo hi W);have HB:dY lo hi=true→ -1000000000000000000≤lo∧lo≤hi∧hi≤1000000000000000000:=fun h=>by simpa [dY] using h
 unfold abE;generalize hb:dY lo hi=b at *;unfold aY;have h0:Below w.heap.size w ((w.alloc (.cells #[.int .i64 lo,.int .i64 hi] 40)).alloc (.cells #[.int .i64 0,.int .i64 0] 40)):=aD;go_enter Tryz.func233,Tryz.ntmps233
 go_wp2_with fail
 obtain ⟨wx,EW,hz,X1,X2⟩:=Gj w #[.int .i64 lo,.int .i64 hi] 40 #[.int .i64 0,.int .i64 0] 40;rw [EW];clear EW h0;refine (H.out _).mono ?_;rintro e w1 ⟨rfl,hb1⟩;replace X1:=X1.bl hb1;replace X2:=X2.bl hb1;replace hz:=Bt hz hb1;clear hb1 H;obtain ⟨c1,l1⟩:=X1.cl;obtain ⟨c2,l2,f2⟩:=X2.clf;have x2:=X2.out;cases b
 ·go_wp2_with fail
  refine aM rfl rfl aJ Tryz.underlying40 rfl zk ?_;exact ⟨rfl,aD⟩
 ·obtain ⟨k1,k2,k3⟩:=HB rfl;clear HB
  by_cases g1:0≤lo
  ·go_wp2_with fail
   refine aM rfl rfl aJ Tryz.underlying40 rfl zk ?_;exact ⟨by simp [g1],aD⟩
  ·by_cases g2:hi≤0
   ·have w1:IntKind.i64.wrap (-hi)= -hi:=by rw [IntKind.wrap_i64];omega
    have w2:IntKind.i64.wrap (-lo)= -lo:=by rw [IntKind.wrap_i64];omega
    go_wp2_with fail
    refine aM rfl rfl aJ Tryz.underlying40 rfl zk ?_;exact ⟨by simp [g1,g2],aD⟩
   ·have w2:IntKind.i64.wrap (-lo)= -lo:=by rw [IntKind.wrap_i64];omega
    go_wp2_with fail
    all_goals
     refine aM rfl rfl aJ Tryz.underlying40 rfl zk ?_;exact ⟨by simp [g1,g2]<;>omega,aD⟩
end Go.Proofs.aN
namespace Go.Proofs.iD
open Go Go.RowKit Go.SW Go.Num Go.Mem Go.Proofs Go.Dec Go.fF Go.Proofs.aW Go.Proofs.aC Go.Proofs.aN Go.Proofs.power
theorem dG (p q:Int) (w:World):Calls Tryz.prog 302 #[.int .i64 p,.int .i64 q] w (fun e w'=>e= .returned (.bool (eok p q))∧Below w.heap.size w w'):=by
 unfold eok;cases h1:decide (1≤p)<;>cases h2:decide (p≤36)<;>cases h3:decide (1≤q)<;>cases h4:decide (q≤12)
 all_goals
  go_enter Tryz.func302,Tryz.ntmps302
  go_wp2_with fail
  go_ret
  exact ⟨rfl,aD⟩
theorem iM (lo hi:Int) (w:World):Calls Tryz.prog 236 #[.int .i64 lo,.int .i64 hi] w (fun e w'=>e= .returned (aY (dK lo hi))∧Below w.heap.size w w'):=by
 have H:=zh (fun W=>pz lo hi W);unfold dK;generalize dY lo hi=b at *;unfold aY;cases b
 all_goals
  go_enter Tryz.func236,Tryz.ntmps236
  go_wp2_with fail
  obtain ⟨wx,EW,hz,X1,X2⟩:=Gj w #[.int .i64 0,.int .i64 0] 40 #[.int .i64 lo,.int .i64 hi] 40;rw [EW];clear EW;refine (H.out _).mono ?_;rintro e w1 ⟨rfl,hb1⟩;replace X1:=X1.bl hb1;replace X2:=X2.bl hb1;replace hz:=Bt hz hb1;clear hb1;obtain ⟨c2,l2⟩:=X2.cl;obtain ⟨c1,l1,f1⟩:=X1.clf;have x1:=X1.out;go_wp2_with fail
  refine aM rfl rfl aJ Tryz.underlying40 rfl zk ?_;exact ⟨rfl,aD⟩
theorem aJ6 {n:Nat} (h:n≤10^18+1):sz 10000 (rN n).num.natAbs≤5∧sz 10000 (rN n).den≤5:=by
 obtain ⟨h1,h2⟩:=uF n;rw [h1,h2,Int.natAbs_natCast];have a:n / n.gcd 1000000000000≤n:=Nat.div_le_self _ _;have b:1000000000000 / n.gcd 1000000000000≤1000000000000:=Nat.div_le_self _ _;exact ⟨aR zo _ _ zo,aR zo _ _ zo⟩
theorem vK (n q:Nat) (h:n≤10^18+1) (hq:q≤36) (x:Value) (w:World) (hx:Ra w x (rN n)):Calls Tryz.prog 235 #[x,.int .i64 q] w (jM w (rN n^q)):=by
 obtain ⟨h1,h2⟩:=aJ6 h;exact aC.wB x _ q w hx (by have:=Nat.mul_le_mul h1 hq;omega) (by have:=Nat.mul_le_mul h2 hq;omega) zo zo zo
structure aD1 (X:Rat) (q r:Nat):Prop where
 Lr:q≤12
 big:gZ 10000000000 X
 iff:∀ m,pJ (rN m^q) X≤0↔m≤r
theorem Uv (x:Value) (X:Rat) (q r:Nat) (w:World) (hx:Ra w x X) (hs:aD1 X q r):Calls Tryz.prog 237 #[x,.int .i64 q] w (fun e w'=>e= .returned (.int .i64 (min r 1000000000000000001:Nat))∧Below w.heap.size w w'):=by
 obtain ⟨bA,je,lA,jG,xP,jX,xE,kD,rfl, -⟩:=id hx;have NX:=zh hx;have HS:=zh hs;clear hx hs;go_enter Tryz.func237,Tryz.ntmps237
 go_wp2_with fail
 obtain ⟨wx,EW,hz,X2⟩:=wO w #[.bool bA,.slice je lA jG,.bool xP,.slice jX xE kD] 163;rw [EW];clear EW;have HB:=zh hz;clear hz
 go_loopw [5,6,7] (fun lv hv _ wr=>∃ (lo hi:Nat),lv= .int .i64 (lo:Int)∧hv= .int .i64 (hi:Int)∧Hid (lo<hi)∧Hid (hi≤1000000000000000002)∧Hid (lo≤r)∧Hid (hi=1000000000000000002∨r<hi)∧Hid (ah wr w.heap.size #[.bool bA,.slice je lA jG,.bool xP,.slice jX xE kD] 163)∧Hid (Below w.heap.size w wr)) (fun lv hv _ _=>(intOf hv - intOf lv).toNat)
 case atStart=>exact ⟨0,1000000000000000002,rfl,rfl,zh zo,zh zo,zh zo,zh (.inl rfl),X2,HB⟩
 case round =>
  clear X2 HB;obtain ⟨lo,hi,rfl,rfl,HLO,HHI,HL,HR,X2,HB⟩:=hrel;have k1:=HLO.out;have k2:=HHI.out
  by_cases hgt:1<hi - lo
  ·have hg1:(1:Int)<(hi:Int) - (lo:Int):=by omega
   obtain ⟨m,hm⟩:∃ m,(lo+hi) / 2=m:=⟨_,rfl⟩;have hm3:Int.tdiv ((lo:Int)+(hi:Int)) 2=(m:Int):=by rw [Int.tdiv_eq_ediv_of_nonneg zo];omega
   have HM:Hid (lo<m∧m<hi):=zh zo;obtain ⟨c2,l2⟩:=X2.cl;go_wp2_with fail
   clear hm3 hg1 hgt hm;refine aF [(.pure,0),(.pure,2),(.read,4),(.ext,1),(.ext,3),(.ext,5),(.pure,6)] zk zk zR zP ?_;refine Wk.out ?_;refine zS ?_;refine dV rfl rfl (fun w1 hb1 J hJ=>?_);have hz1:Below wr.heap.size wr w1:=aD;go_simp;refine (zw m (by have:=HM.out;omega) w1).mono ?_;rintro e w2 ⟨v2,rfl,hb2,hv2⟩;refine hJ _ _ hb2 ?_;have hz2:=Bt hz1 hb2;obtain ⟨b2,p2,n2,e2,d2,p2d,n2d,e2d,rfl, -⟩:=id hv2;have HV:=zh hv2;clear hJ J hv2 hb1 hb2 hz1;refine zS ?_;refine dV rfl rfl (fun w3 hb3 J hJ=>?_);have hz3:=Bt hz2 hb3;go_simp;refine (vK m q (by have:=HM.out;omega) (by have:=HS.out.Lr;omega) _ w3 (HV.out.later hb3)).mono ?_;rintro e w4 ⟨v4,rfl,hb4,hv4⟩;refine hJ _ _ hb4 ?_;have hz4:=Bt hz3 hb4;obtain ⟨b4,p4,n4,e4,d4,p4d,n4d,e4d,rfl, -⟩:=id hv4;replace HV:=zh hv4;clear hJ J hv4 hb3 hb4 hz3 hz2;refine zS ?_;refine dV rfl rfl (fun w5 hb5 J hJ=>?_)
   have hz5:=Bt hz4 hb5;go_simp;refine (aC.iI _ _ (rN m^q) X w5 (HV.out.later hb5) (NX.out.later (Bt HB.out hz5)) ((jr (IE (by have:=HM.out;omega) HS.out.Lr)).mono zo) HS.out.big).mono ?_;rintro e w6 ⟨rfl,hb6⟩;refine hJ _ _ hb6 ?_;have ZB:=Bt hz5 hb6;clear hJ J hb5 hb6 hz5 hz4 HV c2 l2;have HI:=zh (HS.out.iff m);generalize pJ (rN m^q) X=cv at *
   by_cases hle:m≤r
   ·have hcv:cv≤0:=HI.out.2 hle;have Jo:=zh hle;clear hle;refine zS ?_;refine mo fun wf hbf=>?_;replace X2:=(X2.bl ZB).bl hbf;replace HB:=zh (Bt (Bt HB.out ZB) hbf);clear ZB hbf;go_wp2_with fail
    go_roundw
    case rel=>exact ⟨m,hi,rfl,rfl,zh HM.out.2,HHI,Jo,HR,X2,HB⟩
    case measure=>have:=HM.out;simp [intOf];omega
   ·have hcv:¬ cv≤0:=fun h=>hle (HI.out.1 h);have Jo:=zh (Nat.lt_of_not_le hle);clear hle;refine zS ?_;refine mo fun wf hbf=>?_;replace X2:=(X2.bl ZB).bl hbf;replace HB:=zh (Bt (Bt HB.out ZB) hbf);clear ZB hbf;go_wp2_with fail
    go_roundw
    case rel=>exact ⟨lo,m,rfl,rfl,zh HM.out.1,zh (by have:=HM.out;omega),HL,zh (.inr Jo.out),X2,HB⟩
    case measure=>have:=HM.out;simp [intOf];omega
  ·have hg1:¬ (1:Int)<(hi:Int) - (lo:Int):=by omega
   obtain rfl:hi=lo+1:=by omega
   have HE:Hid (lo=min r 1000000000000000001):=zh (by have:=HL.out;have:=HR.out;omega);go_wp2_with fail
   go_ret
   exact ⟨by rw [← HE.out];rfl,HB.out⟩
def upN (X:Rat) (q r:Nat):Nat:=if pJ (rN (min r 1000000000000000001)^q) X<0 then min r 1000000000000000001+1 else min r 1000000000000000001
theorem aJ2 (x:Value) (X:Rat) (q r:Nat) (w:World) (hx:Ra w x X) (hs:aD1 X q r):Calls Tryz.prog 238 #[x,.int .i64 q] w (fun e w'=>e= .returned (.int .i64 (upN X q r:Nat))∧Below w.heap.size w w'):=by
 obtain ⟨bA,je,lA,jG,xP,jX,xE,kD,rfl, -⟩:=id hx;have NX:=zh hx;have HS:=zh hs;clear hx hs;obtain ⟨U,EU⟩:∃ y,upN X q r=y:=⟨_,rfl⟩;rw [EU];have HU:=zh EU;clear EU;unfold upN at HU;have hD:=zh (fun (v:Value) W (h:Ra W v X)=>Uv v X q r W h HS.out);have hm:min r 1000000000000000001≤1000000000000000001:=by omega
 generalize min r 1000000000000000001=m at *;have HM:=zh hm;go_enter Tryz.func238,Tryz.ntmps238
 go_wp2_with fail
 obtain ⟨wx,EW,hz,X2⟩:=wO w #[.bool bA,.slice je lA jG,.bool xP,.slice jX xE kD] 163;rw [EW];clear EW;refine (hD.out _ _ (NX.out.later hz)).mono ?_;rintro e wr ⟨rfl,hb⟩;replace X2:=X2.bl hb;have HB:=zh (Bt hz hb);clear hz hb hD;obtain ⟨c2,l2⟩:=X2.cl;go_wp2_with fail
 refine aF [(.pure,0),(.pure,2),(.read,4),(.ext,1),(.ext,3),(.ext,5),(.pure,6)] zk zk zR zP ?_;refine Wk.out ?_;refine zS ?_;refine dV rfl rfl (fun w1 hb1 J hJ=>?_);have hz1:Below wr.heap.size wr w1:=aD;go_simp;refine (zw m (by have:=HM.out;omega) w1).mono ?_;rintro e w2 ⟨v2,rfl,hb2,hv2⟩;refine hJ _ _ hb2 ?_;have hz2:=Bt hz1 hb2;obtain ⟨b2,p2,n2,e2,d2,p2d,n2d,e2d,rfl, -⟩:=id hv2;have HV:=zh hv2;clear hJ J hv2 hb1 hb2 hz1;refine zS ?_;refine dV rfl rfl (fun w3 hb3 J hJ=>?_);have hz3:=Bt hz2 hb3;go_simp;refine (vK m q (by have:=HM.out;omega) (by have:=HS.out.Lr;omega) _ w3 (HV.out.later hb3)).mono ?_;rintro e w4 ⟨v4,rfl,hb4,hv4⟩;refine hJ _ _ hb4 ?_;have hz4:=Bt hz3 hb4;obtain ⟨b4,p4,n4,e4,d4,p4d,n4d,e4d,rfl, -⟩:=id hv4;replace HV:=zh hv4;clear hJ J hv4 hb3 hb4 hz3 hz2;refine zS ?_;refine dV rfl rfl (fun w5 hb5 J hJ=>?_);have hz5:=Bt hz4 hb5;go_simp
 refine (aC.iI _ _ (rN m^q) X w5 (HV.out.later hb5) (NX.out.later (Bt HB.out hz5)) ((jr (IE (by have:=HM.out;omega) HS.out.Lr)).mono zo) HS.out.big).mono ?_;rintro e w6 ⟨rfl,hb6⟩;refine hJ _ _ hb6 ?_;have ZB:=Bt hz5 hb6;clear hJ J hb5 hb6 hz5 hz4 HV c2 l2;generalize pJ (rN m^q) X=cv at *
 by_cases hcv:cv<0
 ·rw [if_pos hcv] at HU;have hw:IntKind.i64.wrap ((m:Int)+1)=(m:Int)+1:=by rw [IntKind.wrap_i64];omega
  refine zS ?_;refine mo fun wf hbf=>?_;replace HB:=zh (Bt (Bt HB.out ZB) hbf);clear ZB hbf;go_wp2_with fail
  go_ret
  exact ⟨by rw [← HU.out];rfl,HB.out⟩
 ·rw [if_neg hcv] at HU;refine zS ?_;refine mo fun wf hbf=>?_;replace HB:=zh (Bt (Bt HB.out ZB) hbf);clear ZB hbf;go_wp2_with fail
  go_ret
  exact ⟨by rw [← HU.out];rfl,HB.out⟩
theorem ai4 {n p:Nat} (h:n≤10^18) (hp:p≤36):gZ 108 (rN n^p):=by
 obtain ⟨h1,h2⟩:=uF n;have e1:(rN n^p).num=((n / n.gcd 1000000000000:Nat):Int)^p:=by rw [Rat.num_pow,h1]
 have e2:(rN n^p).den=(1000000000000 / n.gcd 1000000000000)^p:=by rw [Rat.den_pow,h2]
 unfold gZ;rw [e1,e2,← Int.natCast_pow,Int.natAbs_natCast];have a:n / n.gcd 1000000000000≤10^18:=Nat.le_trans (Nat.div_le_self _ _) h;have b:1000000000000 / n.gcd 1000000000000≤10^18:=Nat.le_trans (Nat.div_le_self _ _) (by decide+kernel)
 have c:∀ x,x≤10^18→sz 1000000000 (x^p)≤108:=fun x hx=>by
  have c1:x^p≤(10^18)^36:=Nat.le_trans (Nat.pow_le_pow_left hx p) (Nat.pow_le_pow_right zd hp);exact aR zo _ _ (Nat.lt_of_le_of_lt c1 (by decide+kernel))
 exact ⟨c _ a,c _ b⟩
theorem an5 (n a m b:Nat):WW n a m b≤0↔n^a*10^(12*b)≤m^b*10^(12*a):=by
 unfold WW;generalize n^a*10^(12*b)=x;generalize m^b*10^(12*a)=y;split
 ·omega
 ·split<;>omega
theorem UC (n a m b:Nat):WW n a m b<0↔n^a*10^(12*b)<m^b*10^(12*a):=by
 unfold WW;generalize n^a*10^(12*b)=x;generalize m^b*10^(12*a)=y;split
 ·omega
 ·split<;>omega
theorem Mj {n p q:Nat} (h:n≤10^18) (hp:p≤36) (q1:1≤q) (Lr:q≤12):aD1 (rN n^p) q (rT n p q) where
 Lr:=Lr
 big:=(ai4 h hp).mono zo
 iff:=fun m=>by rw [UE,an5,aw9 zo]
theorem ag4 {n p q:Nat} (q1:1≤q) (h:rT n p q≤1000000000000000001):upN (rN n^p) q (rT n p q)=phi n p q:=by
 unfold upN phi;rw [Nat.min_eq_left h,UE];have h1:=(MS (q:=q) zo n p).1;cases hx:OY n p q
 ·unfold OY at hx;have hx:=of_decide_eq_false hx;rw [if_pos ((UC _ _ _ _).2 zo)];rfl
 ·unfold OY at hx;have hx:=of_decide_eq_true hx;rw [if_neg (fun k=>by have:=(UC _ _ _ _).1 k;omega)];rfl
theorem au4 {X:Rat} {q r:Nat}:min r 1000000000000000001≤upN X q r:=by
 unfold upN;split<;>omega
theorem ac8 {a b:Nat} (h:1000000000000000000<a∨1000000000000000000<b):dY (a:Int) (b:Int)=false:=by
 unfold dY;rw [Bool.and_eq_false_iff]
 right
 rw [Bool.and_eq_false_iff]
 by_cases h2:b≤1000000000000000000
 ·left
  exact decide_eq_false zo
 ·right
  exact decide_eq_false zo
theorem ak9 {a b p q:Nat} (q1:1≤q):dK ((min (rT a p q) 1000000000000000001:Nat):Int) ((upN (rN b^p) q (rT b p q):Nat):Int)=JW (yU a p q false) (yU b p q true):=by
 unfold JW yU;have t:(10:Nat)^18=1000000000000000000:=by decide
 rw [t];unfold dK
 by_cases h1:rT a p q≤1000000000000000000
 ·by_cases h2:rT b p q≤1000000000000000000
  ·rw [if_pos h1,if_pos h2,Nat.min_eq_left zo,ag4 q1 zo];simp
  ·rw [ac8 (.inr (Nat.lt_of_lt_of_le zo au4)),if_pos h1,if_neg h2];simp
 ·rw [ac8 (.inl zo),if_neg h1];simp
theorem Gr (lo hi p q:Int) (w:World):Calls Tryz.prog 265 #[.agg #[.int .i64 lo,.int .i64 hi],.int .i64 p,.int .i64 q] w (fun e w'=>e= .returned (aY (PX lo hi p q))∧Below w.heap.size w w'):=by
 have HR:=zh (fun W=>pz lo hi W);have HE:=zh (fun W=>dG p q W);obtain ⟨z,hz0⟩:∃ z,PX lo hi p q=z:=⟨_,rfl⟩;rw [hz0];unfold PX at hz0;have HZ:=zh hz0;clear hz0;obtain ⟨⟨z1,z2⟩,z3⟩:=z;unfold aY;have HB:dY lo hi=true→ -1000000000000000000≤lo∧lo≤hi∧hi≤1000000000000000000:=fun h=>by simpa [dY] using h
 have HQ:eok p q=true→1≤p∧p≤36∧1≤q∧q≤12:=fun h=>by simpa [eok] using h
 have HB:=zh HB;have HQ:=zh HQ;generalize dY lo hi=b1 at *;generalize eok p q=b2 at *;go_enter Tryz.func265,Tryz.ntmps265
 go_wp2_with fail
 obtain ⟨wx,EW,hz,X1,X2⟩:=Gj w #[.int .i64 lo,.int .i64 hi] 40 #[.int .i64 0,.int .i64 0] 40;rw [EW];clear EW;refine (HR.out _).mono ?_;rintro e w1 ⟨rfl,hb1⟩;replace X1:=X1.bl hb1;replace X2:=X2.bl hb1;replace hz:=Bt hz hb1;clear hb1 HR;obtain ⟨c1,l1⟩:=X1.cl;obtain ⟨c2,l2,f2⟩:=X2.clf;have x2:=X2.out;cases b1
 ·have e:=HZ.out;simp at e
  obtain ⟨⟨rfl,rfl⟩,rfl⟩:=e;go_wp2_with fail
  refine aM rfl rfl aJ Tryz.underlying40 rfl zk ?_;exact ⟨rfl,aD⟩
 ·go_wp2_with fail
  refine (HE.out _).mono ?_;rintro e w2 ⟨rfl,hb2⟩;clear c1 l1 c2 l2 f2 x2;replace X1:=X1.bl hb2;replace X2:=X2.bl hb2;replace hz:=Bt hz hb2;clear hb2 HE;obtain ⟨c1,l1⟩:=X1.cl;obtain ⟨c2,l2,f2⟩:=X2.clf;have x2:=X2.out;cases b2
  ·have e:=HZ.out;simp at e
   obtain ⟨⟨rfl,rfl⟩,rfl⟩:=e;go_wp2_with fail
   refine aM rfl rfl aJ Tryz.underlying40 rfl zk ?_;exact ⟨rfl,aD⟩
  ·obtain ⟨p1,p36,q1,Lr⟩:=HQ.out (by first|rfl|trivial)
   by_cases hn:lo<0
   ·have e:=HZ.out;simp [hn] at e
    obtain ⟨⟨rfl,rfl⟩,rfl⟩:=e;go_wp2_with fail
    refine aM rfl rfl aJ Tryz.underlying40 rfl zk ?_;exact ⟨rfl,aD⟩
   ·obtain ⟨k1,k2,k3⟩:=HB.out (by first|rfl|trivial);obtain ⟨a,rfl⟩:∃ a:Nat,lo=(a:Int):=⟨lo.toNat,by omega⟩;obtain ⟨b,rfl⟩:∃ b:Nat,hi=(b:Int):=⟨hi.toNat,by omega⟩;obtain ⟨p,rfl⟩:∃ a:Nat,p=(a:Int):=⟨p.toNat,by omega⟩;obtain ⟨q,rfl⟩:∃ a:Nat,q=(a:Int):=⟨q.toNat,by omega⟩;have ha:a≤10^18:=by omega
    have hb:b≤10^18:=by omega
    have hp:p≤36:=by omega
    have hq1:1≤q:=by omega
    have hq12:q≤12:=by omega
    have SA:=zh (Mj (n:=a) (p:=p) (q:=q) ha hp hq1 hq12);have SB:=zh (Mj (n:=b) (p:=p) (q:=q) hb hp hq1 hq12);have HM:=zh (ak9 (a:=a) (b:=b) (p:=p) (q:=q) hq1);have e:=HZ.out;simp only [Bool.true_eq_false,if_false,Int.toNat_natCast,hn,false_or,or_self] at e;rw [← HM.out] at e;have HE:=zh e;have HAB:=zh (And.intro ha (And.intro hb hp));clear e HM HZ HB HQ k1 k2 k3 p1 p36 q1 Lr ha hb hp hq1 hq12;go_wp2_with fail
    refine aF [(.pure,0),(.read,1),(.pure,3),(.pure,5),(.pure,7),(.read,8),(.pure,10),(.pure,12),(.ext,2),(.ext,4),(.ext,6),(.ext,9),(.ext,11),(.ext,13),(.ext,14),(.pure,15),(.pure,16),(.fin,17),(.fin,18)] zk zk zR zP ?_;refine Wk.out ?_;refine zS ?_;refine dV rfl rfl (fun wa1 ha1 J hJ=>?_);have hs1:Below w2.heap.size w2 wa1:=(by first|exact ha1|exact aD);have hx1:Below w2.heap.size w2 wa1:=hs1;go_simp;refine (zw a (by have:=HAB.out;omega) wa1).mono ?_;rintro e wb1 ⟨v,rfl,hb1,hv⟩;refine hJ _ _ hb1 ?_;have hy1:=Bt hx1 hb1;obtain ⟨bV1,pV1,nV1,eV1,dV1,qV1,mV1,fV1,rfl, -⟩:=id hv;have V1:=zh hv;clear hv;clear hJ J ha1 hb1 hs1 hx1;refine zS ?_;refine dV rfl rfl (fun wa2 ha2 J hJ=>?_);have hs2:Below wb1.heap.size wb1 wa2:=(by first|exact ha2|exact aD);have hx2:Below w2.heap.size w2 wa2:=Bt hy1 hs2;go_simp
    refine (vK a p (by have:=HAB.out;omega) HAB.out.2.2 _ wa2 (V1.out.later hs2)).mono ?_;rintro e wb2 ⟨v,rfl,hb2,hv⟩;refine hJ _ _ hb2 ?_;have hy2:=Bt hx2 hb2;clear V1;obtain ⟨bV2,pV2,nV2,eV2,dV2,qV2,mV2,fV2,rfl, -⟩:=id hv;have V2:=zh hv;clear hv;clear hJ J ha2 hb2 hs2 hx2 hy1;refine zS ?_;refine dV rfl rfl (fun wa3 ha3 J hJ=>?_);have hs3:Below wb2.heap.size wb2 wa3:=(by first|exact ha3|exact aD);have hx3:Below w2.heap.size w2 wa3:=Bt hy2 hs3;go_simp;refine (Uv _ _ q _ wa3 (V2.out.later hs3) SA.out).mono ?_;rintro e wb3 ⟨rfl,hb3⟩;refine hJ _ _ hb3 ?_;have hy3:=Bt hx3 hb3;clear V2;clear hJ J ha3 hb3 hs3 hx3 hy2;refine zS ?_;refine dV rfl rfl (fun wa4 ha4 J hJ=>?_);have hs4:Below wb3.heap.size wb3 wa4:=(by first|exact ha4|exact aD);have hx4:Below w2.heap.size w2 wa4:=Bt hy3 hs4;go_simp;refine (zw b (by have:=HAB.out;omega) wa4).mono ?_
    rintro e wb4 ⟨v,rfl,hb4,hv⟩;refine hJ _ _ hb4 ?_;have hy4:=Bt hx4 hb4;obtain ⟨bV4,pV4,nV4,eV4,dV4,qV4,mV4,fV4,rfl, -⟩:=id hv;have V4:=zh hv;clear hv;clear hJ J ha4 hb4 hs4 hx4 hy3;refine zS ?_;refine dV rfl rfl (fun wa5 ha5 J hJ=>?_);have hs5:Below wb4.heap.size wb4 wa5:=(by first|exact ha5|exact aD);have hx5:Below w2.heap.size w2 wa5:=Bt hy4 hs5;go_simp;refine (vK b p (by have:=HAB.out;omega) HAB.out.2.2 _ wa5 (V4.out.later hs5)).mono ?_;rintro e wb5 ⟨v,rfl,hb5,hv⟩;refine hJ _ _ hb5 ?_;have hy5:=Bt hx5 hb5;clear V4;obtain ⟨bV5,pV5,nV5,eV5,dV5,qV5,mV5,fV5,rfl, -⟩:=id hv;have V5:=zh hv;clear hv;clear hJ J ha5 hb5 hs5 hx5 hy4;refine zS ?_;refine dV rfl rfl (fun wa6 ha6 J hJ=>?_);have hs6:Below wb5.heap.size wb5 wa6:=(by first|exact ha6|exact aD);have hx6:Below w2.heap.size w2 wa6:=Bt hy5 hs6;go_simp;refine (aJ2 _ _ q _ wa6 (V5.out.later hs6) SB.out).mono ?_
    rintro e wb6 ⟨rfl,hb6⟩;refine hJ _ _ hb6 ?_;have hy6:=Bt hx6 hb6;clear V5;clear hJ J ha6 hb6 hs6 hx6 hy5;generalize (min (rT a p q) 1000000000000000001)=ra at *;generalize upN (rN b^p) q (rT b p q)=rb at *;have HMD:=zh (fun W=>iM (ra:Int) (rb:Int) W);rw [HE.out] at HMD;clear c1 l1 c2 l2 f2 x2;refine zS ?_;refine dV rfl rfl (fun wa7 ha7 J hJ=>?_);have hs7:Below wb6.heap.size wb6 wa7:=(by first|exact ha7|exact aD);have hx7:Below w2.heap.size w2 wa7:=Bt hy6 hs7;go_simp;refine (HMD.out wa7).mono ?_;rintro e wb7 ⟨rfl,iJ⟩;refine hJ _ _ iJ ?_;have hy7:=Bt hx7 iJ
    skip
    clear hJ J ha7 iJ hs7 hx7 hy6;replace X2:=X2.bl hy7;replace hz:=Bt hz hy7;unfold aY;obtain ⟨c2,l2,f2⟩:=X2.clf;refine zS ?_;refine wS [_,_] rfl (fun wf hbf=>?_);replace X2:=X2.bl hbf;replace hz:=Bt hz hbf;clear hbf hy7 c2 l2 f2;obtain ⟨c2,l2,f2⟩:=X2.clf;have x2:=X2.out;go_wp2_with fail
    refine aM rfl rfl aJ Tryz.underlying40 rfl zk ?_;exact ⟨rfl,aD⟩
theorem zB (lo hi q:Int) (w:World):Calls Tryz.prog 213 #[.agg #[.int .i64 lo,.int .i64 hi],.int .i64 q] w (fun e w'=>e= .returned (aY (PX lo hi 1 q))∧Below w.heap.size w w'):=by
 have H:=zh (fun W=>Gr lo hi 1 q W);generalize PX lo hi 1 q=z at *;obtain ⟨⟨z1,z2⟩,z3⟩:=z;unfold aY at *;simp only at *;go_enter Tryz.func213,Tryz.ntmps213
 go_wp2_with fail
 obtain ⟨wx,EW,hz,X1,X2⟩:=Gj w #[.int .i64 lo,.int .i64 hi] 40 #[.int .i64 0,.int .i64 0] 40;rw [EW];clear EW;refine (H.out _).mono ?_;rintro e w1 ⟨rfl,hb1⟩;replace X2:=X2.bl hb1;replace hz:=Bt hz hb1;clear hb1 H X1;obtain ⟨c2,l2,f2⟩:=X2.clf;have x2:=X2.out;go_wp2_with fail
 refine aM rfl rfl aJ Tryz.underlying40 rfl zk ?_;exact ⟨rfl,aD⟩
end Go.Proofs.iD
namespace Go.Proofs.aC
open Go Go.RowKit Go.SW Go.Num Go.Mem Go.Proofs Go.Dec Go.Proofs.au Go.fF
theorem nG (n d:Int) (h1: -9223372036854775808≤n) (h2:n≤9223372036854775807) (h3: -9223372036854775808≤d) (h4:d≤9223372036854775807) (w:World) :
  Calls Tryz.prog 118 #[.int .i64 n,.int .i64 d] w (qK w (qV n d)):=by
 unfold qV
 by_cases hd:d=0
 ·subst hd;rw [if_pos rfl];clear h1 h2 h3 h4;go_enter Tryz.func118,Tryz.ntmps118
  go_wp2_with fail
  refine aM rfl rfl aJ Tryz.underlying32 rfl zk ?_;exact ⟨rfl,aD⟩
 ·rw [if_neg hd];have H1:=zh (fun W=>rD n d h1 h2 h3 h4 hd W);obtain ⟨l1,l2⟩:=xD (n:=n) hd;have H2:=zh (fun x W hx=>vC x ((n:Rat) / (d:Rat)) W hx (Nat.le_trans (dh zo l1) (Nat.le_trans (JD h1 h2) zo)) (Nat.le_trans (dh zo l2) (Nat.le_trans (JD h3 h4) zo)));clear l1 l2;generalize (n:Rat) / (d:Rat)=q at *;obtain ⟨⟨⟨s1,s2⟩,k⟩,E⟩:∃ y,wr q=y:=⟨_,rfl⟩;rw [E] at H2 ⊢;replace H2:Hid (∀ x W,Ra W x q→Calls Tryz.prog 133 #[x] W (fun e w'=>e= .returned (.tuple #[.agg #[.string s1,.string s2],.int .i64 k])∧Below W.heap.size W w')):=H2;clear E h1 h2 h3 h4;go_enter Tryz.func118,Tryz.ntmps118
  go_wp2_with fail
  obtain ⟨jN,EW,hz,X1⟩:=wO w #[.string ⟨#[]⟩,.string ⟨#[]⟩] 32;rw [EW];have hk2:=Bt (Below.refl _ _) hz;clear EW hz;refine (H1.out _).mono ?_;rintro e kE ⟨vq,rfl,hb3,hq⟩;replace X1:=X1.bl hb3;have hk5:=Bt hk2 hb3;clear hk2;have NQ:=zh hq;clear hb3 hq;go_wp2_with fail
  refine (H2.out _ _ NQ.out).mono ?_;rintro e wK ⟨rfl,hb6⟩;replace X1:=X1.bl hb6;replace NQ:=zh (NQ.out.later hb6);have Pb:=Bt hk5 hb6;clear hk5;clear hb6;obtain ⟨jV,jU,lJ⟩:=X1.clf;have hres:=X1.out;have xK:=hres.cell;have xH:=hres.free;go_wp2_with fail
  refine aM rfl rfl aJ Tryz.underlying32 rfl zk ?_;exact ⟨rfl,aD⟩
end Go.Proofs.aC
namespace Go.fF
open Go Go.Num Go.Proofs
def Hq (k:Nat) (q:Rat):Prop:=∃ n d:Int,0<d∧d.natAbs≤ig k∧n.natAbs≤ig k∧q=(n:Rat) / (d:Rat)
theorem yg (a b:Nat):ig (a+b)=ig a*ig b:=Nat.pow_add _ _ _
theorem Vs {a b:Nat} (h:a≤b):ig a≤ig b:=Nat.pow_le_pow_right zo h
theorem ag8 {a b:Nat} (h:a<b):ig a<ig b:=Nat.pow_lt_pow_right zo h
theorem Hq.mono {a b:Nat} {q:Rat} (h:Hq a q) (k:a≤b):Hq b q:=by
 obtain ⟨n,d,h1,h2,h3,h4⟩:=h;have:=Vs k;exact ⟨n,d,h1,by omega,by omega,h4⟩
theorem Hq.ok {a:Nat} {q:Rat} (h:Hq a q) (k:a<600):vL q=true:=by
 obtain ⟨n,d,h1,h2,h3,rfl⟩:=h;obtain ⟨l1,l2⟩:=aC.xD (n:=n) (d:=d) zo;have:=ag8 k;unfold vL jd;generalize ig 600=X at *;rw [Bool.and_eq_true];exact ⟨decide_eq_true zo,decide_eq_true zo⟩
theorem zm {d:Int} (h:0<d):(d:Rat)≠0:=fun e=>by
 have:d=0:=by exact_mod_cast e
 omega
theorem Hq.mul {a b:Nat} {p q:Rat} (h:Hq a p) (k:Hq b q):Hq (a+b) (p*q):=by
 obtain ⟨n,d,h1,h2,h3,rfl⟩:=h;obtain ⟨n',d',k1,k2,k3,rfl⟩:=k;refine ⟨n*n',d*d',Int.mul_pos h1 k1,?_,?_,?_⟩
 ·rw [yg,Int.natAbs_mul];exact Nat.mul_le_mul h2 k2
 ·rw [yg,Int.natAbs_mul];exact Nat.mul_le_mul h3 k3
 ·have e1:=zm h1;have e2:=zm k1;rw [Rat.intCast_mul,Rat.intCast_mul]
  grind
theorem Hq.add {a b:Nat} {p q:Rat} (h:Hq a p) (k:Hq b q):Hq (a+b+1) (p+q):=by
 obtain ⟨n,d,h1,h2,h3,rfl⟩:=h;obtain ⟨n',d',k1,k2,k3,rfl⟩:=k;have t:ig (a+b+1)=10*(ig a*ig b):=by rw [yg,yg];show _*10=_;omega
 refine ⟨n*d'+n'*d,d*d',Int.mul_pos h1 k1,?_,?_,?_⟩
 ·have:=Nat.mul_le_mul h2 k2;rw [t,Int.natAbs_mul];omega
 ·have x1:=Nat.mul_le_mul h3 k2;have x2:=Nat.mul_le_mul k3 h2;rw [Nat.mul_comm (ig b)] at x2;have x3:=Int.natAbs_add_le (n*d') (n'*d);rw [Int.natAbs_mul,Int.natAbs_mul] at x3;rw [t];omega
 ·have e1:=zm h1;have e2:=zm k1;rw [Rat.intCast_add,Rat.intCast_mul,Rat.intCast_mul,Rat.intCast_mul]
  grind
theorem Hq.neg {a:Nat} {p:Rat} (h:Hq a p):Hq a (-p):=by
 obtain ⟨n,d,h1,h2,h3,rfl⟩:=h;exact ⟨-n,d,h1,h2,by rw [Int.natAbs_neg];exact h3,by rw [Rat.intCast_neg];grind⟩
theorem Hq.sub {a b:Nat} {p q:Rat} (h:Hq a p) (k:Hq b q):Hq (a+b+1) (p - q):=by
 rw [Rat.sub_eq_add_neg];exact h.add k.neg
theorem Hq.zero:Hq 0 0:=⟨0,1,by omega,by decide,by decide,by decide+kernel⟩
theorem Hq.one:Hq 0 1:=⟨1,1,by omega,by decide,by decide,by decide+kernel⟩
end Go.fF
namespace Go.Proofs
open Go Go.RowKit Go.SW Go.Num Go.Mem Go.fF
theorem aX4 {s t s' t' y y':ByteArray} {k:Int} (hx:sK ⟨s,t⟩ ⟨s',t'⟩=(⟨y,y'⟩,k)) (w:World) (ht:iR.Pow w):Calls Tryz.prog 168 #[.agg #[.string s,.string t],.agg #[.string s',.string t']] w (fun e w'=>e= .returned (.tuple #[.agg #[.string y,.string y'],.int .i64 k])∧Below w.heap.size w w'):=by
 have h:=dA.qM ⟨s,t⟩ ⟨s',t'⟩ w ht;rw [hx] at h;exact h
theorem aW9 {s t s' t' y y':ByteArray} {k:Int} (hx:zO ⟨s,t⟩ ⟨s',t'⟩=(⟨y,y'⟩,k)) (w:World) (ht:iR.Pow w):Calls Tryz.prog 171 #[.agg #[.string s,.string t],.agg #[.string s',.string t']] w (fun e w'=>e= .returned (.tuple #[.agg #[.string y,.string y'],.int .i64 k])∧Below w.heap.size w w'):=by
 have h:=dA.sN ⟨s,t⟩ ⟨s',t'⟩ w ht;rw [hx] at h;exact h
theorem aX1 {s t s' t' y y':ByteArray} {k:Int} (hx:pI ⟨s,t⟩ ⟨s',t'⟩=(⟨y,y'⟩,k)) (w:World) (ht:iR.Pow w):Calls Tryz.prog 18 #[.agg #[.string s,.string t],.agg #[.string s',.string t']] w (fun e w'=>e= .returned (.tuple #[.agg #[.string y,.string y'],.int .i64 k])∧Below w.heap.size w w'):=by
 have h:=dA.qJ ⟨s,t⟩ ⟨s',t'⟩ w ht;rw [hx] at h;exact h
theorem aX2 {s t s' t' y y':ByteArray} {k:Int} (hx:nC ⟨s,t⟩ ⟨s',t'⟩=(⟨y,y'⟩,k)) (w:World) (ht:iR.Pow w):Calls Tryz.prog 128 #[.agg #[.string s,.string t],.agg #[.string s',.string t']] w (fun e w'=>e= .returned (.tuple #[.agg #[.string y,.string y'],.int .i64 k])∧Below w.heap.size w w'):=by
 have h:=dA.nJ ⟨s,t⟩ ⟨s',t'⟩ w ht;rw [hx] at h;exact h
theorem aX3 {s t s' t':ByteArray} {v k:Int} (hx:uY ⟨s,t⟩ ⟨s',t'⟩=(v,k)) (w:World):Calls Tryz.prog 19 #[.agg #[.string s,.string t],.agg #[.string s',.string t']] w (fun e w'=>e= .returned (.tuple #[.int .i64 v,.int .i64 k])∧Below w.heap.size w w'):=by
 have h:=dA.Av ⟨s,t⟩ ⟨s',t'⟩ w;rw [hx] at h;exact h
theorem ac5 {s t:ByteArray} {v k:Int} (hx:gW ⟨s,t⟩=(v,k)) (w:World):Calls Tryz.prog 104 #[.agg #[.string s,.string t]] w (fun e w'=>e= .returned (.tuple #[.int .i64 v,.int .i64 k])∧Below w.heap.size w w'):=by
 have h:=dA.qj ⟨s,t⟩ w;rw [hx] at h;exact h
theorem cOf {n d:Int} {y y':ByteArray} {k:Int} (hx:qV n d=(⟨y,y'⟩,k)) (w:World) (ht:iR.Pow w) (n0: -9223372036854775808≤n:=by omega) (n1:n≤9223372036854775807:=by omega) (d0: -9223372036854775808≤d:=by omega) (d1:d≤9223372036854775807:=by omega) :
  Calls Tryz.prog 115 #[.int .i64 n,.int .i64 d] w (fun e w'=>e= .returned (.tuple #[.agg #[.string y,.string y'],.int .i64 k])∧Below w.heap.size w w'):=by
 have h:=dA.nG n d n0 n1 d0 d1 w ht;rw [hx] at h;exact h
theorem ao1 {s t:ByteArray} {x y k:Int} (hx:aW.iC ⟨s,t⟩=((x,y),k)) (w:World) (ht:iR.Pow w) (he:whole.Er w):Calls Tryz.prog 36 #[.agg #[.string s,.string t]] w (fun e w'=>e= .returned (.tuple #[.agg #[.int .i64 x,.int .i64 y],.int .i64 k])∧Below w.heap.size w w'):=by
 have h:=aW.Aw ⟨s,t⟩ w ht he;rw [hx] at h;exact h
theorem aO0 {lo hi q x y k:Int} (hx:power.PX lo hi 1 q=((x,y),k)) (w:World) (ht:iR.Pow w) (he:whole.Er w):Calls Tryz.prog 124 #[.agg #[.int .i64 lo,.int .i64 hi],.int .i64 q] w (fun e w'=>e= .returned (.tuple #[.agg #[.int .i64 x,.int .i64 y],.int .i64 k])∧Below w.heap.size w w'):=by
 have h:=power.zB lo hi q w ht he;rw [hx] at h;exact h
theorem ac7 {x y x' y' u v k:Int} (hx:aW.uh (x,y) (x',y')=((u,v),k)) (w:World):Calls Tryz.prog 50 #[.agg #[.int .i64 x,.int .i64 y],.agg #[.int .i64 x',.int .i64 y']] w (fun e w'=>e= .returned (.tuple #[.agg #[.int .i64 u,.int .i64 v],.int .i64 k])∧Below w.heap.size w w'):=by
 have h:=aW.sN x y x' y' w;rw [hx] at h;exact h
theorem aO1 {x y x' y' u v k:Int} (hx:aW.Rf (x,y) (x',y')=((u,v),k)) (w:World):Calls Tryz.prog 74 #[.agg #[.int .i64 x,.int .i64 y],.agg #[.int .i64 x',.int .i64 y']] w (fun e w'=>e= .returned (.tuple #[.agg #[.int .i64 u,.int .i64 v],.int .i64 k])∧Below w.heap.size w w'):=by
 have h:=aW.nJ x y x' y' w;rw [hx] at h;exact h
theorem an9 {x y n d u v k:Int} (hx:aW.sV (x,y) n d=((u,v),k)) (w:World):Calls Tryz.prog 130 #[.agg #[.int .i64 x,.int .i64 y],.int .i64 n,.int .i64 d] w (fun e w'=>e= .returned (.tuple #[.agg #[.int .i64 u,.int .i64 v],.int .i64 k])∧Below w.heap.size w w'):=by
 have h:=aW.Gn x y n d w;rw [hx] at h;exact h
theorem ao0 {x y n d u v k:Int} (hx:aW.Rm (x,y) n d=((u,v),k)) (w:World):Calls Tryz.prog 73 #[.agg #[.int .i64 x,.int .i64 y],.int .i64 n,.int .i64 d] w (fun e w'=>e= .returned (.tuple #[.agg #[.int .i64 u,.int .i64 v],.int .i64 k])∧Below w.heap.size w w'):=by
 have h:=aW.OJ x y n d w;rw [hx] at h;exact h
theorem aB8 {n u v k:Int} (hx:aW.ptE n=((u,v),k)) (w:World):Calls Tryz.prog 131 #[.int .i64 n] w (fun e w'=>e= .returned (.tuple #[.agg #[.int .i64 u,.int .i64 v],.int .i64 k])∧Below w.heap.size w w'):=by
 have h:=aW.ae1 n w;rw [hx] at h;exact h
def av3 (a:Fr) (n:Nat):Fr × Int:=match rd a with
 | some p=>wr (p^n)
 | none=>(Fr.no,20)
theorem aX0 {s t y y':ByteArray} {n:Nat} {k:Int} (hx:av3 ⟨s,t⟩ n=(⟨y,y'⟩,k)) (w:World) (ht:iR.Pow w) (h:∃ p,rd ⟨s,t⟩=some p∧0≤p) (n40:n≤40:=by omega):Calls Tryz.prog 127 #[.agg #[.string s,.string t],.int .i64 (n:Int)] w (fun e w'=>e= .returned (.tuple #[.agg #[.string y,.string y'],.int .i64 k])∧Below w.heap.size w w'):=by
 obtain ⟨p,hp,h0⟩:=h;obtain ⟨e,ok⟩:=mX hp;have h:=dA.xU p n ok h0 n40 w ht;unfold av3 at hx;rw [hp] at hx;replace hx:wr (p^n)=(⟨y,y'⟩,k):=hx;rw [hx,← e] at h;exact h
end Go.Proofs
