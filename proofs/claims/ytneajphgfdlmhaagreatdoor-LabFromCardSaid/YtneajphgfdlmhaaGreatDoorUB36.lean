/- Lemmas for the proof. No condition. -/
import Derived.Test.YtneajphgfdlmhaaGreatDoorUB35
set_option linter.unusedVariables false
set_option linter.unusedSimpArgs false
set_option maxRecDepth 100000
set_option maxHeartbeats 16000000
open Go.Ending renaming returned → ah
open Go.IntKind renaming i64 → I
open Go.Value renaming agg → au, bool → ak, int → Z, slice → aj, string → O, tuple → aD
open List renaming range → dF
open Nat renaming le_trans → ay, pow_le_pow_right → bH
namespace Go.Proofs.aH
open Go Go.RowKit Go.SW Go.Num Go.Mem Go.Proofs Go.Dec Go.Proofs.aF Go.gB
theorem CS (z:Int):∃ (s:ByteArray) (k:Int),Vs z= aD #[O s,Z I k]∧((kS z.natAbs=true∧k=0∧s=⟨(Lib.itoa z).toArray⟩)∨(kS z.natAbs=false∧k=6)):=by
 unfold Vs
 by_cases h:kS z.natAbs=true
 ·rw [if_pos h];exact ⟨_,_,rfl,.inl ⟨h,rfl,rfl⟩⟩
 ·rw [if_neg h];exact ⟨_,_,rfl,.inr ⟨by simpa using h,rfl⟩⟩
def rO (w:World) (x:Fr × Int) (e:Ending) (w':World):Prop:=e= ah (Fr.res x)∧Below w.heap.size w w'
theorem rM (x:Value) (q:Rat) (w:World) (hx:Ra w x q) (h1:sz 10000 q.num.natAbs≤1073741824) (h2:sz 10000 q.den≤1073741824) :
  Calls Tryz.prog 133 #[x] w (rO w (wr q)):=by
 obtain ⟨bn,pn,ln,cn,bd,pd,ld,cd,rfl,NN,ND⟩:=hx;obtain ⟨s1,k1,e1,c1⟩:=CS q.num;obtain ⟨s2,k2,e2,c2⟩:=CS (q.den:Int);have H1:=zh (fun W (hb:Below w.heap.size w W)=>aF.rM _ q.num W (NN.later hb) h1);have H2:=zh (fun W (hb:Below w.heap.size w W)=>aF.rM _ (q.den:Int) W (ND.later hb) (by simpa using h2));rw [e1] at H1;rw [e2] at H2
 have hw:wr q=if k1=0∧k2=0 then (⟨s1,s2⟩,0) else (Fr.no,6):=by
  unfold wr uQ;rw [Int.natAbs_natCast] at c2
  rcases c1 with ⟨a1,a2,a3⟩|⟨a1,a2⟩<;>rcases c2 with ⟨b1,b2,b3⟩|⟨b1,b2⟩<;>subst a2<;>subst b2<;>rw [a1,b1]
  ·subst a3;subst b3;rfl
  ·rfl
  ·rfl
  ·rfl
 rw [hw];have d1:k1=0∨k1=6:=c1.elim (fun h=>.inl h.2.1) (fun h=>.inr h.2);have d2:k2=0∨k2=6:=c2.elim (fun h=>.inl h.2.1) (fun h=>.inr h.2);clear hw e1 e2 c1 c2 h1 h2 NN ND
 rcases d1 with rfl|rfl<;>rcases d2 with rfl|rfl
 ·rw [if_pos ⟨rfl,rfl⟩];go_enter Tryz.func133,Tryz.ntmps133
  go_wp2_with fail
  obtain ⟨oC,EW,hz,X1,X2⟩:=Lf w #[ak bn,aj pn ln cn,ak bd,aj pd ld cd] 163 #[O ⟨#[]⟩,O ⟨#[]⟩] 32;rw [EW];have hk2:=Bt (Below.refl _ _) hz;clear EW hz;refine (H1.out _ hk2).mono ?_;rintro e pG ⟨rfl,hb3⟩;replace X1:=X1.bl hb3;replace X2:=X2.bl hb3;have hk5:=Bt hk2 hb3;clear hk2;clear hb3;obtain ⟨nK,nI,oq⟩:=X1.clf;go_wp2_with fail
  clear nK nI oq;refine (H2.out _ hk5).mono ?_;rintro e wM ⟨rfl,hb6⟩;replace X1:=X1.bl hb6;replace X2:=X2.bl hb6;have LD:=Bt hk5 hb6;clear hk5;clear hb6;obtain ⟨uE,uz,xW⟩:=X2.clf;have hres:=X2.out;have IU:=hres.cell;have IJ:=hres.free;go_wp2_with fail
  refine bK rfl rfl bI Tryz.underlying32 rfl zk ?_;exact ⟨rfl,aJ⟩
 ·rw [if_neg zo];go_enter Tryz.func133,Tryz.ntmps133
  go_wp2_with fail
  obtain ⟨oC,EW,hz,X1,X2⟩:=Lf w #[ak bn,aj pn ln cn,ak bd,aj pd ld cd] 163 #[O ⟨#[]⟩,O ⟨#[]⟩] 32;rw [EW];have hk2:=Bt (Below.refl _ _) hz;clear EW hz;refine (H1.out _ hk2).mono ?_;rintro e pG ⟨rfl,hb3⟩;replace X1:=X1.bl hb3;replace X2:=X2.bl hb3;have hk5:=Bt hk2 hb3;clear hk2;clear hb3;obtain ⟨nK,nI,oq⟩:=X1.clf;go_wp2_with fail
  clear nK nI oq;refine (H2.out _ hk5).mono ?_;rintro e wM ⟨rfl,hb6⟩;replace X1:=X1.bl hb6;replace X2:=X2.bl hb6;have LD:=Bt hk5 hb6;clear hk5;clear hb6;obtain ⟨uE,uz,xW⟩:=X2.clf;have hres:=X2.out;have IU:=hres.cell;have IJ:=hres.free;go_wp2_with fail
  refine bK rfl rfl bI Tryz.underlying32 rfl zk ?_;exact ⟨rfl,aJ⟩
 ·rw [if_neg zo];go_enter Tryz.func133,Tryz.ntmps133
  go_wp2_with fail
  obtain ⟨oC,EW,hz,X1,X2⟩:=Lf w #[ak bn,aj pn ln cn,ak bd,aj pd ld cd] 163 #[O ⟨#[]⟩,O ⟨#[]⟩] 32;rw [EW];have hk2:=Bt (Below.refl _ _) hz;clear EW hz;refine (H1.out _ hk2).mono ?_;rintro e pG ⟨rfl,hb3⟩;replace X1:=X1.bl hb3;replace X2:=X2.bl hb3;have hk5:=Bt hk2 hb3;clear hk2;clear hb3;obtain ⟨nK,nI,oq⟩:=X1.clf;go_wp2_with fail
  clear nK nI oq;refine (H2.out _ hk5).mono ?_;rintro e wM ⟨rfl,hb6⟩;replace X1:=X1.bl hb6;replace X2:=X2.bl hb6;have LD:=Bt hk5 hb6;clear hk5;clear hb6;obtain ⟨uE,uz,xW⟩:=X2.clf;have hres:=X2.out;have IU:=hres.cell;have IJ:=hres.free;go_wp2_with fail
  refine bK rfl rfl bI Tryz.underlying32 rfl zk ?_;exact ⟨rfl,aJ⟩
 ·rw [if_neg zo];go_enter Tryz.func133,Tryz.ntmps133
  go_wp2_with fail
  obtain ⟨oC,EW,hz,X1,X2⟩:=Lf w #[ak bn,aj pn ln cn,ak bd,aj pd ld cd] 163 #[O ⟨#[]⟩,O ⟨#[]⟩] 32;rw [EW];have hk2:=Bt (Below.refl _ _) hz;clear EW hz;refine (H1.out _ hk2).mono ?_;rintro e pG ⟨rfl,hb3⟩;replace X1:=X1.bl hb3;replace X2:=X2.bl hb3;have hk5:=Bt hk2 hb3;clear hk2;clear hb3;obtain ⟨nK,nI,oq⟩:=X1.clf;go_wp2_with fail
  clear nK nI oq;refine (H2.out _ hk5).mono ?_;rintro e wM ⟨rfl,hb6⟩;replace X1:=X1.bl hb6;replace X2:=X2.bl hb6;have LD:=Bt hk5 hb6;clear hk5;clear hb6;obtain ⟨uE,uz,xW⟩:=X2.clf;have hres:=X2.out;have IU:=hres.cell;have IJ:=hres.free;go_wp2_with fail
  refine bK rfl rfl bI Tryz.underlying32 rfl zk ?_;exact ⟨rfl,aJ⟩
theorem Ab {n d:Int} (hd:d≠0):((n:Rat) / (d:Rat)).num.natAbs≤n.natAbs∧((n:Rat) / (d:Rat)).den≤d.natAbs:=by
 have key:∀ n d:Int,0<d→((n:Rat) / (d:Rat)).num.natAbs≤n.natAbs∧((n:Rat) / (d:Rat)).den≤d.natAbs:=fun n d hd=>by
  obtain ⟨e1,e2⟩:=Aa (n:=n) hd;have g1:=Nat.gcd_dvd_left n.natAbs d.natAbs;have g2:=Nat.gcd_dvd_right n.natAbs d.natAbs;have g0:0<Nat.gcd n.natAbs d.natAbs:=Nat.gcd_pos_of_pos_right _ zo;generalize Nat.gcd n.natAbs d.natAbs=g at *;generalize ((n:Rat) / (d:Rat))=q at *;obtain ⟨a,ha⟩:=g1;obtain ⟨b,hb⟩:=g2
  have h1:n=(g:Int)*(if 0≤n then (a:Int) else -(a:Int)):=by
   have:=congrArg (fun x:Nat=>(x:Int)) ha;simp only [Int.natCast_mul] at this;split
   ·omega
   ·rw [Int.mul_neg];omega
  have h2:d=(g:Int)*(b:Int):=by
   have:=congrArg (fun x:Nat=>(x:Int)) hb;simp only [Int.natCast_mul] at this;omega
  have h3:n / (g:Int)=(if 0≤n then (a:Int) else -(a:Int)):=by
   conv=>lhs;rw [h1]
   exact Int.mul_ediv_cancel_left _ zo
  have h4:d / (g:Int)=(b:Int):=by
   rw [h2];exact Int.mul_ediv_cancel_left _ zo
  rw [h3] at e1;rw [h4] at e2;have k1:a≤g*a:=Nat.le_mul_of_pos_left _ g0;have k2:b≤g*b:=Nat.le_mul_of_pos_left _ g0;refine ⟨?_,?_⟩
  ·rw [e1,ha];split<;>simp<;>exact k1
  ·rw [hb];have:q.den=b:=by exact_mod_cast e2
   omega
 by_cases h:0<d
 ·exact key n d h
 ·have:=key (-n) (-d) zo;rw [show ((-n:Int):Rat) / ((-d:Int):Rat)=(n:Rat) / (d:Rat) by rw [Rat.intCast_neg,Rat.intCast_neg,Rat.div_def,Rat.div_def];grind,Int.natAbs_neg,Int.natAbs_neg] at this;exact this
theorem Hw {n:Int} (h1: -9223372036854775808≤n) (h2:n≤9223372036854775807):sz 10000 n.natAbs≤5 :=
 dH zo 5 _ zo
theorem vI (n d:Int) (h1: -9223372036854775808≤n) (h2:n≤9223372036854775807) (h3: -9223372036854775808≤d) (h4:d≤9223372036854775807) (hd:d≠0) (w:World) :
  Calls Tryz.prog 197 #[Z I n,Z I d] w (ow w ((n:Rat) / (d:Rat))):=by
 have H1:=zh (fun W=>lW n W h1 h2);have H2:=zh (fun W=>lW d W h3 h4);have H3:=zh (fun x y W hx hy=>wF x y n d W hx hy (ay (Hw h1 h2) zo) (ay (Hw h3 h4) zo) hd);generalize (n:Rat) / (d:Rat)=q at *;clear h1 h2 h3 h4 hd;go_enter Tryz.func197,Tryz.ntmps197
 go_wp2_with fail
 obtain ⟨oC,EW,hz,X1⟩:=zD w #[ak false,aj none 0 0,ak false,aj none 0 0] 163;rw [EW];have hk2:=Bt (Below.refl _ _) hz;clear EW hz;refine (H1.out _).mono ?_;rintro e pG ⟨v,rfl,hb3,hv4⟩;obtain ⟨bA,mK,lA,mP,rfl⟩:=hv4.agg;replace X1:=X1.bl hb3;have hk5:=Bt hk2 hb3;clear hk2;have NA:=zh hv4;clear hb3 hv4;go_wp2_with fail
 refine (H2.out _).mono ?_;rintro e wM ⟨v,rfl,hb6,hv7⟩;obtain ⟨bB,pz,lB,pF,rfl⟩:=hv7.agg;replace X1:=X1.bl hb6;replace NA:=zh (NA.out.later hb6);have LD:=Bt hk5 hb6;clear hk5;have NB:=zh hv7;clear hb6 hv7;go_wp2_with fail
 refine (H3.out _ _ _ NA.out NB.out).mono ?_;rintro e wc9 ⟨_,rfl,uD,bn,pn,ln,cn,bd,pd,ld,cd,rfl,hn,hd⟩;replace X1:=X1.bl uD;replace NA:=zh (NA.out.later uD);replace NB:=zh (NB.out.later uD);have aX8:=Bt LD uD;clear LD;have NX:=zh hn;have NY:=zh hd;clear uD hd hn;obtain ⟨nK,nI,oq⟩:=X1.clf;have hres:=X1.out;have IU:=hres.cell;have IJ:=hres.free;go_wp2_with fail
 refine ig rfl rfl bI Tryz.underlying163 rfl zk ?_;have hx:=Pl.Mq NX.out hres zd (ak bn) (aj pn ln cn) (ak bd) (aj pd ld cd);have hy:=Pl.Mq NY.out hres zd (ak bn) (aj pn ln cn) (ak bd) (aj pd ld cd);exact ⟨_,rfl,aJ,_,_,_,_,_,_,_,_,rfl,hx,hy⟩
end Go.Proofs.aH
namespace Go.Proofs.aH
open Go Go.RowKit Go.SW Go.Num Go.Mem Go.Proofs Go.Dec Go.Proofs.aF Go.gB Go.Fx
theorem Co {n k:Nat} (h:sz 1000000000 n≤k):sz 10000 n≤3*k:=by
 refine dH zo _ _ ?_;have h1:=jE (B:=1000000000) zo n;have h2:(1000000000:Nat)^sz 1000000000 n≤1000000000^k:=bH zo h;have h3:(1000000000:Nat)^k≤(10000^3)^k:=Nat.pow_le_pow_left zd k;rw [Nat.pow_mul];omega
theorem tF (q:Rat):q=(q.num:Rat) / ((q.den:Int):Rat):=by
 have:=Rat.mkRat_self q;rw [Rat.mkRat_eq_div] at this;exact this.symm
theorem Gg (q:Rat):((q.den:Int):Rat)≠0:=fun e=>by
 have h:(q.den:Int)=0:=by exact_mod_cast e
 have:=q.den_pos;omega
theorem Yg (p q:Rat):((p.num*q.num:Int):Rat) / (((p.den:Int)*(q.den:Int):Int):Rat)=p*q:=by
 have h1:=tF p;have h2:=tF q;have d1:=Gg p;have d2:=Gg q;rw [Rat.intCast_mul,Rat.intCast_mul];generalize (p.num:Rat)=a at *;generalize ((p.den:Int):Rat)=b at *;generalize (q.num:Rat)=c at *;generalize ((q.den:Int):Rat)=d at *;subst h1 h2
 grind
theorem ag7 (p q:Rat) (hq:q≠0):((p.num*(q.den:Int):Int):Rat) / (((p.den:Int)*q.num:Int):Rat)=p / q:=by
 have h1:=tF p;have h2:=tF q;have d1:=Gg p;have d2:=Gg q;have d3:((q.num:Int):Rat)≠0:=fun e=>hq (by rw [h2,e];grind);rw [Rat.intCast_mul,Rat.intCast_mul];generalize (p.num:Rat)=a at *;generalize ((p.den:Int):Rat)=b at *;generalize (q.num:Rat)=c at *;generalize ((q.den:Int):Rat)=d at *;subst h1 h2
 grind
theorem ag0 (p q:Rat):((p.num*(q.den:Int)+q.num*(p.den:Int):Int):Rat) / (((p.den:Int)*(q.den:Int):Int):Rat)=p+q:=by
 have h1:=tF p;have h2:=tF q;have d1:=Gg p;have d2:=Gg q;rw [Rat.intCast_add,Rat.intCast_mul,Rat.intCast_mul,Rat.intCast_mul];generalize (p.num:Rat)=a at *;generalize ((p.den:Int):Rat)=b at *;generalize (q.num:Rat)=c at *;generalize ((q.den:Int):Rat)=d at *;subst h1 h2
 grind
theorem jy.four {k:Nat} {q:Rat} (h:jy k q):sz 10000 q.num.natAbs≤3*k∧sz 10000 (q.den:Int).natAbs≤3*k:=⟨Co h.1,by rw [Int.natAbs_natCast];exact Co h.2⟩
theorem pJ {a b:Int} {m n:Nat} (h:sz 10000 a.natAbs≤m) (k:sz 10000 b.natAbs≤n):sz 10000 (a*b).natAbs≤m+n:=by
 rw [Int.natAbs_mul];have:=mR (B:=10000) zo a.natAbs b.natAbs;omega
theorem Yl {a b:Int} {m:Nat} (h:sz 10000 a.natAbs≤m) (k:sz 10000 b.natAbs≤m):sz 10000 (a+b).natAbs≤m+1:=by
 have h1:=fB (B:=10000) zo (Int.natAbs_add_le a b);have h2:=wY (B:=10000) zo a.natAbs b.natAbs;omega
theorem wD (x:Value) (p:Rat) (w:World) (hx:Ra w x p):Calls Tryz.prog 268 #[x] w (ow w (-p)):=by
 obtain ⟨bA,mK,lA,mP,BS,pO,BJ,pX,rfl,NA,EP⟩:=id hx;have H:=fun W (h:Pl W (au #[ak bA,aj mK lA mP]) p.num)=>(aF.wD _ _ W h).mono fun _ _ q=>Rz q
 have HQ:∀ w b pa l ca,Pl w (au #[ak b,aj pa l ca]) (-p.num)→Pl w (au #[ak BS,aj pO BJ pX]) p.den→Ra w (au #[ak b,aj pa l ca,ak BS,aj pO BJ pX]) (-p):=fun w b pa l ca h1 h2=>by
  unfold Ra;rw [Rat.neg_num,Rat.neg_den];exact ⟨_,_,_,_,_,_,_,_,rfl,h1,h2⟩
 refine Fx.door Tryz.func268 rfl (.nil w []) ?_;have B0:=Fx.Fa.nil w;refine Fx.new [] 1 #[ak bA,aj mK lA mP,ak BS,aj pO BJ pX] 163 [] [] fun fT=>?_;refine Fx.aV [] 2 163 [] [] fun fJ=>?_;refine Fx.draw [] [0,1,3,4,2,5,6] [] [] [] ?_;refine Fx.je [3,3] 5 [(7,au #[ak BS,aj pO BJ pX])] [] (fun W M=>H _ (NA.later (B0.at M))) ?_;rintro W w3 e M ⟨b1,p1,l1,c1,rfl,D3,Q1⟩;refine ⟨D3,fun M3=>?_⟩;have B3:=B0.next M3
 exact Fx.iy (cs:=#[ak b1,aj p1 l1 c1,ak BS,aj pO BJ pX]) 1 fJ [4] [(1,#[ak b1,aj p1 l1 c1,ak BS,aj pO BJ pX])] (fun W M=>by have HB:=(B3.at M);exact ⟨_,rfl,HB,HQ _ _ _ _ _ (Q1.keep (M3.keep M)) (EP.later (B3.at M))⟩)
theorem jr (x y:Value) (p q:Rat) (w:World) (hx:Ra w x p) (hy:Ra w y q) (h1:jy 10000000000 p) (h2:jy 10000000000 q):Calls Tryz.prog 218 #[x,y] w (ow w (p*q)):=by
 obtain ⟨bA,mK,lA,mP,BS,pO,BJ,pX,rfl,NA,EP⟩:=id hx;obtain ⟨bB,pz,lB,pF,Ux,Bj,Uv,Br,rfl,NB,Om⟩:=id hy;obtain ⟨s1,s2⟩:=jy.four h1;obtain ⟨s3,s4⟩:=jy.four h2;have S1:sz 10000 p.num.natAbs≤549755813888:=zo;have S2:sz 10000 (p.den:Int).natAbs≤549755813888:=zo;have S3:sz 10000 q.num.natAbs≤549755813888:=zo;have S4:sz 10000 (q.den:Int).natAbs≤549755813888:=zo;have L1:sz 10000 (p.num*q.num).natAbs≤274877906944:=by have:=pJ s1 s3;omega
 have L2:sz 10000 ((p.den:Int)*(q.den:Int)).natAbs≤274877906944:=by have:=pJ s2 s4;omega
 have L3:(p.den:Int)*(q.den:Int)≠0:=Int.mul_ne_zero (by have:=p.den_pos;omega) (by have:=q.den_pos;omega);have HL:=fun x y w hx hy=>(wF x y (p.num*q.num) ((p.den:Int)*(q.den:Int)) w hx hy L1 L2 L3).mono fun _ _ q=>jT q;rw [Yg] at HL;refine Fx.door Tryz.func218 rfl (.nil w []) ?_;have B0:=Fx.Fa.nil w;refine Fx.new [] 2 #[ak bA,aj mK lA mP,ak BS,aj pO BJ pX] 163 [] [] fun fT=>?_;refine Fx.new [] 3 #[ak bB,aj pz lB pF,ak Ux,aj Bj Uv Br] 163 [] [] fun fJ=>?_;refine Fx.aV [] 4 163 [] [] fun fF=>?_;refine Fx.draw [] [0,1,2,3,5,6,7,8,4,9,10,11] [] [] [] ?_;refine Fx.je [3,4,3,4] 9 [(11,au #[ak BS,aj pO BJ pX]),(13,au #[ak Ux,aj Bj Uv Br])] [] (fun W M=>aF.jr _ _ _ _ _ (NA.later (B0.at M)) (NB.later (B0.at M)) S1 S3) ?_;rintro W w4 e M ⟨v1,rfl,D4,Q1⟩;refine ⟨D4,fun M4=>?_⟩
 have B4:=B0.next M4
 refine Fx.je [] 14 [] [] (fun W M=>aF.jr _ _ _ _ _ (EP.later (B4.at M)) (Om.later (B4.at M)) S2 S4) ?_;rintro W w5 e M ⟨v2,rfl,D5,Q2⟩;refine ⟨D5,fun M5=>?_⟩;replace Q1:=Q1.keep (M4.keep M5);have B5:=B4.next M5
 refine Fx.je [] 15 [] [] (fun W M=>HL _ _ _ (Q1.keep (M5.keep M)) (Q2.keep (M5.keep M))) ?_;rintro W w6 e M ⟨n3,p3,l3,c3,m3,q3,j3,d3,rfl,D6,Q3⟩;refine ⟨D6,fun M6=>?_⟩;have B6:=B5.next M6
 exact Fx.iy (cs:=#[ak n3,aj p3 l3 c3,ak m3,aj q3 j3 d3]) 2 fF [5] [(2,#[ak n3,aj p3 l3 c3,ak m3,aj q3 j3 d3])] (fun W M=>by have HB:=(B6.at M);exact ⟨_,rfl,HB,(Q3.keep (M6.keep M))⟩)
theorem Z4 (x y:Value) (p q:Rat) (w:World) (hx:Ra w x p) (hy:Ra w y q) (h1:jy 10000000000 p) (h2:jy 10000000000 q) (h0:q≠0):Calls Tryz.prog 134 #[x,y] w (ow w (p / q)):=by
 obtain ⟨bA,mK,lA,mP,BS,pO,BJ,pX,rfl,NA,EP⟩:=id hx;obtain ⟨bB,pz,lB,pF,Ux,Bj,Uv,Br,rfl,NB,Om⟩:=id hy;obtain ⟨s1,s2⟩:=jy.four h1;obtain ⟨s3,s4⟩:=jy.four h2;have S1:sz 10000 p.num.natAbs≤549755813888:=zo;have S2:sz 10000 (p.den:Int).natAbs≤549755813888:=zo;have S3:sz 10000 q.num.natAbs≤549755813888:=zo;have S4:sz 10000 (q.den:Int).natAbs≤549755813888:=zo;have L1:sz 10000 (p.num*(q.den:Int)).natAbs≤274877906944:=by have:=pJ s1 s4;omega
 have L2:sz 10000 ((p.den:Int)*q.num).natAbs≤274877906944:=by have:=pJ s2 s3;omega
 have L3:(p.den:Int)*q.num≠0:=Int.mul_ne_zero (by have:=p.den_pos;omega) (fun e=>h0 (Rat.num_eq_zero.1 e));have HL:=fun x y w hx hy=>(wF x y (p.num*(q.den:Int)) ((p.den:Int)*q.num) w hx hy L1 L2 L3).mono fun _ _ q=>jT q;rw [ag7 p q h0] at HL;refine Fx.door Tryz.func134 rfl (.nil w []) ?_;have B0:=Fx.Fa.nil w;refine Fx.new [] 2 #[ak bA,aj mK lA mP,ak BS,aj pO BJ pX] 163 [] [] fun fT=>?_;refine Fx.new [] 3 #[ak bB,aj pz lB pF,ak Ux,aj Bj Uv Br] 163 [] [] fun fJ=>?_;refine Fx.aV [] 4 163 [] [] fun fF=>?_;refine Fx.draw [] [0,1,2,3,5,6,7,8,4,9,10,11] [] [] [] ?_;refine Fx.je [3,4,3,4] 9 [(11,au #[ak BS,aj pO BJ pX]),(13,au #[ak bB,aj pz lB pF])] [] (fun W M=>aF.jr _ _ _ _ _ (NA.later (B0.at M)) (Om.later (B0.at M)) S1 S4) ?_;rintro W w4 e M ⟨v1,rfl,D4,Q1⟩;refine ⟨D4,fun M4=>?_⟩
 have B4:=B0.next M4
 refine Fx.je [] 14 [] [] (fun W M=>aF.jr _ _ _ _ _ (EP.later (B4.at M)) (NB.later (B4.at M)) S2 S3) ?_;rintro W w5 e M ⟨v2,rfl,D5,Q2⟩;refine ⟨D5,fun M5=>?_⟩;replace Q1:=Q1.keep (M4.keep M5);have B5:=B4.next M5
 refine Fx.je [] 15 [] [] (fun W M=>HL _ _ _ (Q1.keep (M5.keep M)) (Q2.keep (M5.keep M))) ?_;rintro W w6 e M ⟨n3,p3,l3,c3,m3,q3,j3,d3,rfl,D6,Q3⟩;refine ⟨D6,fun M6=>?_⟩;have B6:=B5.next M6
 exact Fx.iy (cs:=#[ak n3,aj p3 l3 c3,ak m3,aj q3 j3 d3]) 2 fF [5] [(2,#[ak n3,aj p3 l3 c3,ak m3,aj q3 j3 d3])] (fun W M=>by have HB:=(B6.at M);exact ⟨_,rfl,HB,(Q3.keep (M6.keep M))⟩)
theorem qX (x y:Value) (p q:Rat) (w:World) (hx:Ra w x p) (hy:Ra w y q) (h1:jy 10000000000 p) (h2:jy 10000000000 q):Calls Tryz.prog 234 #[x,y] w (ow w (p+q)):=by
 obtain ⟨bA,mK,lA,mP,BS,pO,BJ,pX,rfl,hA1,hA2⟩:=id hx;obtain ⟨bB,pz,lB,pF,Ux,Bj,Uv,Br,rfl,hB1,hB2⟩:=id hy;have QA:=zh hx;have NA:=zh hA1;have EP:=zh hA2;have QB:=zh hy;have NB:=zh hB1;have Om:=zh hB2;obtain ⟨s1,s2⟩:=jy.four h1;obtain ⟨s3,s4⟩:=jy.four h2;have S1:Hid (sz 10000 p.num.natAbs≤549755813888):=zh zo;have S2:Hid (sz 10000 (p.den:Int).natAbs≤549755813888):=zh zo;have S3:Hid (sz 10000 q.num.natAbs≤549755813888):=zh zo;have S4:Hid (sz 10000 (q.den:Int).natAbs≤549755813888):=zh zo;have a1:=pJ s1 s4;have a2:=pJ s3 s2;have P1:Hid (sz 10000 (p.num*(q.den:Int)).natAbs≤549755813888):=zh zo;have P2:Hid (sz 10000 (q.num*(p.den:Int)).natAbs≤549755813888):=zh zo;have L1:Hid (sz 10000 (p.num*(q.den:Int)+q.num*(p.den:Int)).natAbs≤274877906944):=zh (by have:=Yl a1 a2;omega)
 have L2:Hid (sz 10000 ((p.den:Int)*(q.den:Int)).natAbs≤274877906944):=zh (by have:=pJ s2 s4;omega);have L3:Hid ((p.den:Int)*(q.den:Int)≠0):=zh (Int.mul_ne_zero (by have:=p.den_pos;omega) (by have:=q.den_pos;omega));have HL:=zh (fun x y w hx hy=>wF x y (p.num*(q.den:Int)+q.num*(p.den:Int)) ((p.den:Int)*(q.den:Int)) w hx hy L1.out L2.out L3.out);rw [ag0] at HL;clear hx hy hA1 hA2 hB1 hB2 h1 h2 s1 s2 s3 s4 L1 L2 L3 a1 a2;go_enter Tryz.func234,Tryz.ntmps234
 go_wp2_with fail
 obtain ⟨oC,EW,hz,X1,X2,X3⟩:=LK w #[ak bA,aj mK lA mP,ak BS,aj pO BJ pX] 163 #[ak bB,aj pz lB pF,ak Ux,aj Bj Uv Br] 163 #[ak false,aj none 0 0,ak false,aj none 0 0] 163;rw [EW];replace NA:=zh (NA.out.later hz);replace EP:=zh (EP.out.later hz);replace NB:=zh (NB.out.later hz);replace Om:=zh (Om.out.later hz);have hk2:=Bt (Below.refl _ _) hz;clear EW hz;obtain ⟨nK,nI,oq⟩:=X1.clf;obtain ⟨uE,uz,xW⟩:=X2.clf;refine aO [(.pure,0),(.read,1),(.pure,2),(.read,3),(.pure,5),(.read,6),(.pure,7),(.read,8),(.ext,4),(.ext,9),(.ext,10),(.alloc #[ak false,aj none 0 0] 161,11),(.fin,12)] zk zk zR zP ?_;refine zV ?_;refine aU rfl rfl (fun we3 hb3 J hJ=>?_);go_simp;have hh3:Below oC.heap.size oC we3:=aJ;clear hb3
 refine (aF.jr _ _ _ _ _ (NA.out.later hh3) (Om.out.later hh3) S1.out S4.out).mono ?_;rintro e UK ⟨v,rfl,hb4,hv5⟩;obtain ⟨bC,paC,lC,caC,rfl⟩:=hv5.agg;refine hJ _ _ hb4 ?_;clear hJ J;have Ws:=Bt hh3 hb4;have NC:=zh hv5;clear hh3 hb4 hv5;refine zV ?_;refine aU rfl rfl (fun G6 hb6 J hJ=>?_);go_simp;have wR:Below oC.heap.size oC G6:=Bt Ws aJ;replace NC:=zh (NC.out.later (show Below UK.heap.size UK G6 from aJ));clear hb6 Ws;refine (aF.jr _ _ _ _ _ (NB.out.later wR) (EP.out.later wR) S3.out S2.out).mono ?_;rintro e wG ⟨v,rfl,kR,tL⟩;obtain ⟨bD,paD,lD,caD,rfl⟩:=tL.agg;refine hJ _ _ kR ?_;clear hJ J;have Di:=Bt wR kR;replace NC:=zh (NC.out.later kR);have ND:=zh tL;clear wR kR tL;refine zV ?_;refine aU rfl rfl (fun Fh uD J hJ=>?_);go_simp;have qg:Below oC.heap.size oC Fh:=Bt Di aJ
 replace NC:=zh (NC.out.later (show Below wG.heap.size wG Fh from aJ));replace ND:=zh (ND.out.later (show Below wG.heap.size wG Fh from aJ));clear uD Di;refine (aF.qX _ _ _ _ _ NC.out ND.out P1.out P2.out).mono ?_;rintro e mQ ⟨v,rfl,jW,rz⟩;obtain ⟨bF,paF,lF,caF,rfl⟩:=rz.agg;refine hJ _ _ jW ?_;clear hJ J;have qD:=Bt qg jW;replace NC:=zh (NC.out.later jW);replace ND:=zh (ND.out.later jW);have NF:=zh rz;clear qg jW rz;refine zV ?_;refine eX rfl (fun kC av2 Kj mW yL Dx kN=>?_);go_simp;replace kN:aB _ _ _ _:=kN;have Du:w.heap.size≤kC:=(by first|omega|exact ay (Below.size (B:=w.heap.size) aJ) mW);refine dD [_] rfl (fun UJ ay7=>?_);replace NC:=zh (NC.out.later (show Below mQ.heap.size mQ UJ from aJ))
 replace ND:=zh (ND.out.later (show Below mQ.heap.size mQ UJ from aJ));replace NF:=zh (NF.out.later (show Below mQ.heap.size mQ UJ from aJ));have Dl:Below oC.heap.size oC UJ:=Bt qD aJ;have hq0:=kN.later ay7;have WX:=hq0.cell;have WC:=hq0.free;clear kN ay7 qD;clear nK nI oq uE uz xW;go_wp2_with fail
 obtain ⟨Jm,EW⟩:∃ y,((UJ.setCell ⟨kC,0,none⟩ (ak bF)).setCell ⟨kC,1,none⟩ (aj paF lF caF))=y:=⟨_,rfl⟩;have hz:Below oC.heap.size oC Jm:=by rw [← EW];exact ((Dl.setCell mW _).setCell mW _)
 have X4:Hid (aB Jm kC #[ak bF,aj paF lF caF] 161):=zh (by rw [← EW];exact ((hq0.set 0 _).set 1 _));clear NC;clear ND;have t:=((NF.out.setOther hq0 zd 0 (ak bF)).setOther (hq0.set 0 _) zd 1 (aj paF lF caF));rw [EW] at t;replace NF:=zh t;clear t;rw [EW];clear EW hq0 WX WC Dl;replace NA:=zh (NA.out.later hz);replace EP:=zh (EP.out.later hz);replace NB:=zh (NB.out.later hz);replace Om:=zh (Om.out.later hz);replace X1:=X1.bl hz;replace X2:=X2.bl hz;replace X3:=X3.bl hz;have ay2:=Bt hk2 hz;clear hk2;clear hz;clear Kj mW yL Dx Du;go_wp2_with fail
 obtain ⟨cX4,lX4,fX4⟩:=X4.clf;obtain ⟨nK,nI,oq⟩:=X1.clf;obtain ⟨uE,uz,xW⟩:=X2.clf;refine aO [(.read,0),(.pure,1),(.read,2),(.pure,3),(.read,4),(.ext,5),(.ext,6),(.fin,7)] zk zk zR zP ?_;refine zV ?_;refine aU rfl rfl (fun aE0 aJ9 J hJ=>?_);go_simp;have Zd:Below Jm.heap.size Jm aE0:=aJ;clear aJ9;refine (aF.jr _ _ _ _ _ (EP.out.later Zd) (Om.out.later Zd) S2.out S4.out).mono ?_;rintro e au9 ⟨v,rfl,ak4,ai9⟩;obtain ⟨bG,paG,lG,caG,rfl⟩:=ai9.agg;refine hJ _ _ ak4 ?_;clear hJ J;have Dk:=Bt Zd ak4;have NG:=zh ai9;clear Zd ak4 ai9;refine zV ?_;refine aU rfl rfl (fun au8 aJ8 J hJ=>?_);go_simp;have aj6:Below Jm.heap.size Jm au8:=Bt Dk aJ;replace NG:=zh (NG.out.later (show Below au9.heap.size au9 au8 from aJ));clear aJ8 Dk;refine (HL.out _ _ _ (NF.out.later aj6) NG.out).mono ?_
 rintro e UL ⟨v,rfl,Dq,Ni⟩;obtain ⟨bE,paE,lE,caE,bEd,aV8,lEd,ba6,rfl,aI1,aI0⟩:=id Ni;refine hJ _ _ Dq ?_;clear hJ J;have ay3:=Bt aj6 Dq;replace NG:=zh (NG.out.later Dq);have QE:=zh Ni;clear aj6 Dq Ni aI1 aI0;refine zV ?_;refine dD [_] rfl (fun ae4 aJ4=>?_);replace NG:=zh (NG.out.later (show Below UL.heap.size UL ae4 from aJ));replace QE:=zh (QE.out.later (show Below UL.heap.size UL ae4 from aJ));have Dj:Below Jm.heap.size Jm ae4:=Bt ay3 aJ;clear aJ4 ay3;clear cX4 lX4 fX4 nK nI oq uE uz xW;replace NA:=zh (NA.out.later Dj);replace EP:=zh (EP.out.later Dj);replace NB:=zh (NB.out.later Dj);replace Om:=zh (Om.out.later Dj);replace X1:=X1.bl Dj;replace X2:=X2.bl Dj;replace X3:=X3.bl Dj;replace X4:=X4.bl Dj;replace NF:=zh (NF.out.later Dj);have aX6:=Bt ay2 Dj;clear ay2;clear Dj;clear NG
 obtain ⟨cX3,lX3,fX3⟩:=X3.clf;have hres:=X3.out;have IU:=hres.cell;have IJ:=hres.free;go_wp2_with fail
 refine ig rfl rfl bI Tryz.underlying163 rfl zk ?_;exact ⟨_,rfl,aJ,Ra.Mq QE.out hres zd _ _ _ _⟩
theorem oV (x y:Value) (p q:Rat) (w:World) (hx:Ra w x p) (hy:Ra w y q) (h1:jy 10000000000 p) (h2:jy 10000000000 q):Calls Tryz.prog 215 #[x,y] w (ow w (p - q)):=by
 have HT:=fun W h=>(wD y q W h).mono fun _ _ q=>jT q;have HP:=fun v W h k=>(qX x v p (-q) W h k h1 (vP h2)).mono fun _ _ q=>jT q;rw [← Rat.sub_eq_add_neg] at HP;obtain ⟨bA,mK,lA,mP,BS,pO,BJ,pX,rfl,NA,EP⟩:=id hx;obtain ⟨bB,pz,lB,pF,Ux,Bj,Uv,Br,rfl,NB,Om⟩:=id hy;refine Fx.door Tryz.func215 rfl (.nil w []) ?_;have B0:=Fx.Fa.nil w;refine Fx.new [] 2 #[ak bA,aj mK lA mP,ak BS,aj pO BJ pX] 163 [] [] fun fT=>?_;refine Fx.new [] 3 #[ak bB,aj pz lB pF,ak Ux,aj Bj Uv Br] 163 [] [] fun fJ=>?_;refine Fx.aV [] 4 163 [] [] fun fF=>?_;refine Fx.draw [] (dF 5) [] [] [] ?_;refine Fx.je [3,4] 7 [(5,au #[ak bA,aj mK lA mP,ak BS,aj pO BJ pX])] [] (fun W M=>HT _ (hy.later (B0.at M))) ?_;rintro W w4 e M ⟨n1,p1,l1,c1,m1,q1,j1,d1,rfl,D4,Q1⟩;refine ⟨D4,fun M4=>?_⟩;have B4:=B0.next M4
 refine Fx.je [] 8 [] [] (fun W M=>HP _ _ (hx.later (B4.at M)) (Q1.keep (M4.keep M))) ?_;rintro W w5 e M ⟨n3,p3,l3,c3,m3,q3,j3,d3,rfl,D5,Q3⟩;refine ⟨D5,fun M5=>?_⟩;have B5:=B4.next M5
 exact Fx.iy (cs:=#[ak n3,aj p3 l3 c3,ak m3,aj q3 j3 d3]) 2 fF [5] [(2,#[ak n3,aj p3 l3 c3,ak m3,aj q3 j3 d3])] (fun W M=>by have HB:=(B5.at M);exact ⟨_,rfl,HB,(Q3.keep (M5.keep M))⟩)
theorem am5 (p q:Rat):yY (p.num*(q.den:Int)) (q.num*(p.den:Int))=qL p q:=by
 rw [← Cu];unfold yY wI;split
 ·rw [if_neg zo,if_pos zo]
 ·split
  ·rw [if_neg zo,if_neg zo]
  ·rw [if_pos zo]
theorem lS (x y:Value) (p q:Rat) (w:World) (hx:Ra w x p) (hy:Ra w y q) (h1:jy 10000000000 p) (h2:jy 10000000000 q):Calls Tryz.prog 212 #[x,y] w (fun e w'=>e= ah (Z I (qL p q))∧Below w.heap.size w w'):=by
 obtain ⟨bA,mK,lA,mP,BS,pO,BJ,pX,rfl,NA,EP⟩:=id hx;obtain ⟨bB,pz,lB,pF,Ux,Bj,Uv,Br,rfl,NB,Om⟩:=id hy;obtain ⟨s1,s2⟩:=jy.four h1;obtain ⟨s3,s4⟩:=jy.four h2;have S1:sz 10000 p.num.natAbs≤549755813888:=zo;have S2:sz 10000 (p.den:Int).natAbs≤549755813888:=zo;have S3:sz 10000 q.num.natAbs≤549755813888:=zo;have S4:sz 10000 (q.den:Int).natAbs≤549755813888:=zo;have a1:=pJ s1 s4;have a2:=pJ s3 s2;have P1:sz 10000 (p.num*(q.den:Int)).natAbs≤549755813888:=by omega
 have P2:sz 10000 (q.num*(p.den:Int)).natAbs≤549755813888:=by omega
 have HO:=fun x y W h k=>aF.lS x y (p.num*(q.den:Int)) (q.num*(p.den:Int)) W h k P1 P2;rw [am5] at HO;generalize qL p q=cc at *;refine Fx.door Tryz.func212 rfl (.nil w []) ?_;have B0:=Fx.Fa.nil w;refine Fx.new [] 2 #[ak bA,aj mK lA mP,ak BS,aj pO BJ pX] 163 [] [] fun fT=>?_;refine Fx.new [] 3 #[ak bB,aj pz lB pF,ak Ux,aj Bj Uv Br] 163 [] [] fun fJ=>?_;refine Fx.draw [] [0,1,2,3,5,6,7,8,4,9,10,5011] [] [] [] ?_;refine Fx.je [3,4,4,3] 9 [(11,au #[ak bB,aj pz lB pF]),(13,au #[ak BS,aj pO BJ pX])] [] (fun W M=>aF.jr _ _ _ _ _ (NA.later (B0.at M)) (Om.later (B0.at M)) S1 S4) ?_;rintro W w3 e M ⟨v1,rfl,D3,Q1⟩;refine ⟨D3,fun M3=>?_⟩;have B3:=B0.next M3
 refine Fx.je [] 14 [] [] (fun W M=>aF.jr _ _ _ _ _ (NB.later (B3.at M)) (EP.later (B3.at M)) S3 S2) ?_;rintro W w4 e M ⟨v2,rfl,D4,Q2⟩;refine ⟨D4,fun M4=>?_⟩;replace Q1:=Q1.keep (M3.keep M4);have B4:=B3.next M4
 refine Fx.call [] 15 [] [] (fun W M=>HO _ _ _ (Q1.keep (M4.keep M)) (Q2.keep (M4.keep M))) ?_;exact Fx.rV (v:=Z I cc) [] [] (fun W M=>by have HB:=(B4.at M);exact ⟨rfl,HB⟩)
end Go.Proofs.aH
