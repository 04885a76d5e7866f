/- Lemmas for the proof. No condition. -/
import Derived.Test.YtfhappbmgghgdaaGreatDoorIB01
import Derived.Test.YtfhappbmgghgdaaGreatDoorIB02
import Derived.Test.YtfhappbmgghgdaaGreatDoorIB15
import Derived.Laws.StructEq
set_option linter.unusedVariables false
set_option linter.unusedSimpArgs false
set_option maxRecDepth 100000
set_option maxHeartbeats 16000000
namespace Go.Proofs.aL
open Go Go.RowKit Go.SW Go.Num Go.Mem Go.Proofs Go.Dec Go.Proofs.aC Go.dF
theorem yN (z:Int):∃ (s:ByteArray) (k:Int),Rp z= .tuple #[.string s,.int .i64 k]∧((CQ z.natAbs=true∧k=0∧s=⟨(Lib.itoa z).toArray⟩)∨(CQ z.natAbs=false∧k=6)):=by
 unfold Rp
 by_cases h:CQ z.natAbs=true
 ·rw [if_pos h]
  exact ⟨_,_,rfl,.inl ⟨h,rfl,rfl⟩⟩
 ·rw [if_neg h]
  exact ⟨_,_,rfl,.inr ⟨by simpa using h,rfl⟩⟩
def ai1 (w:World) (x:Fr × Int) (e:Ending) (w':World):Prop:=e= .returned (Fr.res x)∧Below w.heap.size w w'
theorem Dv (x:Value) (q:Rat) (w:World) (hx:Ra w x q) (h1:sz 10000 q.num.natAbs≤1073741824) (h2:sz 10000 q.den≤1073741824) :
  Calls Tryz.prog 75 #[x] w (ai1 w (wr q)):=by
 obtain ⟨bn,pn,ln,cn,bd,pd,ld,cd,rfl,NN,ND⟩:=hx
 obtain ⟨s1,k1,e1,c1⟩:=yN q.num
 obtain ⟨s2,k2,e2,c2⟩:=yN (q.den:Int)
 have H1:=zh (fun W (hb:Below w.heap.size w W)=>aC.Dv _ q.num W (NN.later hb) h1)
 have H2:=zh (fun W (hb:Below w.heap.size w W)=>aC.Dv _ (q.den:Int) W (ND.later hb) (by simpa using h2))
 rw [e1] at H1
 rw [e2] at H2
 have hw:wr q=if k1=0∧k2=0 then (⟨s1,s2⟩,0) else (Fr.no,6):=by
  unfold wr iU
  rw [Int.natAbs_natCast] at c2
  rcases c1 with ⟨a1,a2,a3⟩|⟨a1,a2⟩<;>rcases c2 with ⟨b1,b2,b3⟩|⟨b1,b2⟩<;>subst a2<;>subst b2<;>rw [a1,b1]
  ·subst a3
   subst b3
   rfl
  ·rfl
  ·rfl
  ·rfl
 rw [hw]
 have d1:k1=0∨k1=6:=c1.elim (fun h=>.inl h.2.1) (fun h=>.inr h.2)
 have d2:k2=0∨k2=6:=c2.elim (fun h=>.inl h.2.1) (fun h=>.inr h.2)
 clear hw e1 e2 c1 c2 h1 h2 NN ND
 rcases d1 with rfl|rfl<;>rcases d2 with rfl|rfl
 ·rw [if_pos ⟨rfl,rfl⟩]
  go_enter Tryz.func75,Tryz.ntmps75
  go_wp2_with fail
  obtain ⟨gP,EW,hz,X1,X2⟩:=al2 w #[.bool bn,.slice pn ln cn,.bool bd,.slice pd ld cd] 123 #[.string ⟨#[]⟩,.string ⟨#[]⟩] 59
  rw [EW]
  have hk2:=Bt (Below.refl _ _) hz
  clear EW hz
  refine (H1.out _ hk2).mono ?_
  rintro e pQ ⟨rfl,hb3⟩
  replace X1:=X1.bl hb3
  replace X2:=X2.bl hb3
  have hk5:=Bt hk2 hb3
  clear hk2
  clear hb3
  obtain ⟨jm,ji,jl⟩:=X1.clf
  go_wp2_with fail
  clear jm ji jl
  refine (H2.out _ hk5).mono ?_
  rintro e rH ⟨rfl,hb6⟩
  replace X1:=X1.bl hb6
  replace X2:=X2.bl hb6
  have AJ:=Bt hk5 hb6
  clear hk5
  clear hb6
  obtain ⟨oG,om,oz⟩:=X2.clf
  have hres:=X2.out
  have vW:=hres.cell
  have vS:=hres.free
  go_wp2_with fail
  refine bH rfl rfl boxA Tryz.underlying59 rfl zk ?_
  exact ⟨rfl,belA⟩
 ·rw [if_neg zo]
  go_enter Tryz.func75,Tryz.ntmps75
  go_wp2_with fail
  obtain ⟨gP,EW,hz,X1,X2⟩:=al2 w #[.bool bn,.slice pn ln cn,.bool bd,.slice pd ld cd] 123 #[.string ⟨#[]⟩,.string ⟨#[]⟩] 59
  rw [EW]
  have hk2:=Bt (Below.refl _ _) hz
  clear EW hz
  refine (H1.out _ hk2).mono ?_
  rintro e pQ ⟨rfl,hb3⟩
  replace X1:=X1.bl hb3
  replace X2:=X2.bl hb3
  have hk5:=Bt hk2 hb3
  clear hk2
  clear hb3
  obtain ⟨jm,ji,jl⟩:=X1.clf
  go_wp2_with fail
  clear jm ji jl
  refine (H2.out _ hk5).mono ?_
  rintro e rH ⟨rfl,hb6⟩
  replace X1:=X1.bl hb6
  replace X2:=X2.bl hb6
  have AJ:=Bt hk5 hb6
  clear hk5
  clear hb6
  obtain ⟨oG,om,oz⟩:=X2.clf
  have hres:=X2.out
  have vW:=hres.cell
  have vS:=hres.free
  go_wp2_with fail
  refine bH rfl rfl boxA Tryz.underlying59 rfl zk ?_
  exact ⟨rfl,belA⟩
 ·rw [if_neg zo]
  go_enter Tryz.func75,Tryz.ntmps75
  go_wp2_with fail
  obtain ⟨gP,EW,hz,X1,X2⟩:=al2 w #[.bool bn,.slice pn ln cn,.bool bd,.slice pd ld cd] 123 #[.string ⟨#[]⟩,.string ⟨#[]⟩] 59
  rw [EW]
  have hk2:=Bt (Below.refl _ _) hz
  clear EW hz
  refine (H1.out _ hk2).mono ?_
  rintro e pQ ⟨rfl,hb3⟩
  replace X1:=X1.bl hb3
  replace X2:=X2.bl hb3
  have hk5:=Bt hk2 hb3
  clear hk2
  clear hb3
  obtain ⟨jm,ji,jl⟩:=X1.clf
  go_wp2_with fail
  clear jm ji jl
  refine (H2.out _ hk5).mono ?_
  rintro e rH ⟨rfl,hb6⟩
  replace X1:=X1.bl hb6
  replace X2:=X2.bl hb6
  have AJ:=Bt hk5 hb6
  clear hk5
  clear hb6
  obtain ⟨oG,om,oz⟩:=X2.clf
  have hres:=X2.out
  have vW:=hres.cell
  have vS:=hres.free
  go_wp2_with fail
  refine bH rfl rfl boxA Tryz.underlying59 rfl zk ?_
  exact ⟨rfl,belA⟩
 ·rw [if_neg zo]
  go_enter Tryz.func75,Tryz.ntmps75
  go_wp2_with fail
  obtain ⟨gP,EW,hz,X1,X2⟩:=al2 w #[.bool bn,.slice pn ln cn,.bool bd,.slice pd ld cd] 123 #[.string ⟨#[]⟩,.string ⟨#[]⟩] 59
  rw [EW]
  have hk2:=Bt (Below.refl _ _) hz
  clear EW hz
  refine (H1.out _ hk2).mono ?_
  rintro e pQ ⟨rfl,hb3⟩
  replace X1:=X1.bl hb3
  replace X2:=X2.bl hb3
  have hk5:=Bt hk2 hb3
  clear hk2
  clear hb3
  obtain ⟨jm,ji,jl⟩:=X1.clf
  go_wp2_with fail
  clear jm ji jl
  refine (H2.out _ hk5).mono ?_
  rintro e rH ⟨rfl,hb6⟩
  replace X1:=X1.bl hb6
  replace X2:=X2.bl hb6
  have AJ:=Bt hk5 hb6
  clear hk5
  clear hb6
  obtain ⟨oG,om,oz⟩:=X2.clf
  have hres:=X2.out
  have vW:=hres.cell
  have vS:=hres.free
  go_wp2_with fail
  refine bH rfl rfl boxA Tryz.underlying59 rfl zk ?_
  exact ⟨rfl,belA⟩
theorem CX {n d:Int} (hd:d≠0):((n:Rat) / (d:Rat)).num.natAbs≤n.natAbs∧((n:Rat) / (d:Rat)).den≤d.natAbs:=by
 have key:∀ n d:Int,0<d→((n:Rat) / (d:Rat)).num.natAbs≤n.natAbs∧((n:Rat) / (d:Rat)).den≤d.natAbs:=fun n d hd=>by
  obtain ⟨e1,e2⟩:=vO (n:=n) hd
  have g1:=Nat.gcd_dvd_left n.natAbs d.natAbs
  have g2:=Nat.gcd_dvd_right n.natAbs d.natAbs
  have g0:0<Nat.gcd n.natAbs d.natAbs:=Nat.gcd_pos_of_pos_right _ zo
  generalize Nat.gcd n.natAbs d.natAbs=g at *
  generalize ((n:Rat) / (d:Rat))=q at *
  obtain ⟨a,ha⟩:=g1
  obtain ⟨b,hb⟩:=g2
  have h1:n=(g:Int)*(if 0≤n then (a:Int) else -(a:Int)):=by
   have:=congrArg (fun x:Nat=>(x:Int)) ha
   simp only [Int.natCast_mul] at this
   split
   ·omega
   ·rw [Int.mul_neg];omega
  have h2:d=(g:Int)*(b:Int):=by
   have:=congrArg (fun x:Nat=>(x:Int)) hb
   simp only [Int.natCast_mul] at this
   omega
  have h3:n / (g:Int)=(if 0≤n then (a:Int) else -(a:Int)):=by
   conv=>lhs;rw [h1]
   exact Int.mul_ediv_cancel_left _ zo
  have h4:d / (g:Int)=(b:Int):=by
   rw [h2]
   exact Int.mul_ediv_cancel_left _ zo
  rw [h3] at e1
  rw [h4] at e2
  have k1:a≤g*a:=Nat.le_mul_of_pos_left _ g0
  have k2:b≤g*b:=Nat.le_mul_of_pos_left _ g0
  refine ⟨?_,?_⟩
  ·rw [e1,ha]
   split<;>simp<;>exact k1
  ·rw [hb]
   have:q.den=b:=by exact_mod_cast e2
   omega
 by_cases h:0<d
 ·exact key n d h
 ·have:=key (-n) (-d) zo
  rw [show ((-n:Int):Rat) / ((-d:Int):Rat)=(n:Rat) / (d:Rat) by rw [Rat.intCast_neg,Rat.intCast_neg,Rat.div_def,Rat.div_def];grind,Int.natAbs_neg,Int.natAbs_neg] at this
  exact this
theorem Cm {n:Int} (h1: -9223372036854775808≤n) (h2:n≤9223372036854775807):sz 10000 n.natAbs≤5 :=
 aY zo 5 _ zo
theorem UW (n d:Int) (h1: -9223372036854775808≤n) (h2:n≤9223372036854775807) (h3: -9223372036854775808≤d) (h4:d≤9223372036854775807) (hd:d≠0) (w:World) :
  Calls Tryz.prog 127 #[.int .i64 n,.int .i64 d] w (pz w ((n:Rat) / (d:Rat))):=by
 have H1:=zh (fun W=>Ah n W h1 h2)
 have H2:=zh (fun W=>Ah d W h3 h4)
 have H3:=zh (fun x y W hx hy=>wD x y n d W hx hy (Nat.le_trans (Cm h1 h2) zo) (Nat.le_trans (Cm h3 h4) zo) hd)
 generalize (n:Rat) / (d:Rat)=q at *
 clear h1 h2 h3 h4 hd
 go_enter Tryz.func127,Tryz.ntmps127
 go_wp2_with fail
 obtain ⟨gP,EW,hz,X1⟩:=al1 w #[.bool false,.slice none 0 0,.bool false,.slice none 0 0] 123
 rw [EW]
 have hk2:=Bt (Below.refl _ _) hz
 clear EW hz
 refine (H1.out _).mono ?_
 rintro e pQ ⟨v,rfl,hb3,hv4⟩
 obtain ⟨bA,nJ,lA,nQ,rfl⟩:=hv4.agg
 replace X1:=X1.bl hb3
 have hk5:=Bt hk2 hb3
 clear hk2
 have NA:=zh hv4
 clear hb3 hv4
 go_wp2_with fail
 refine (H2.out _).mono ?_
 rintro e rH ⟨v,rfl,hb6,hv7⟩
 obtain ⟨bB,pI,lB,pJ,rfl⟩:=hv7.agg
 replace X1:=X1.bl hb6
 replace NA:=zh (NA.out.later hb6)
 have AJ:=Bt hk5 hb6
 clear hk5
 have NB:=zh hv7
 clear hb6 hv7
 go_wp2_with fail
 refine (H3.out _ _ _ NA.out NB.out).mono ?_
 rintro e wc9 ⟨_,rfl,ou,bn,pn,ln,cn,bd,pd,ld,cd,rfl,hn,hd⟩
 replace X1:=X1.bl ou
 replace NA:=zh (NA.out.later ou)
 replace NB:=zh (NB.out.later ou)
 have Dj:=Bt AJ ou
 clear AJ
 have NX:=zh hn
 have NY:=zh hd
 clear ou hd hn
 obtain ⟨jm,ji,jl⟩:=X1.clf
 have hres:=X1.out
 have vW:=hres.cell
 have vS:=hres.free
 go_wp2_with fail
 refine dO rfl rfl boxA Tryz.underlying123 rfl zk ?_
 have hx:=Pl.sI NX.out hres zd (.bool bn) (.slice pn ln cn) (.bool bd) (.slice pd ld cd)
 have hy:=Pl.sI NY.out hres zd (.bool bn) (.slice pn ln cn) (.bool bd) (.slice pd ld cd)
 exact ⟨_,rfl,belA,_,_,_,_,_,_,_,_,rfl,hx,hy⟩
theorem yC {n k:Nat} (h:sz 1000000000 n≤k):sz 10000 n≤3*k:=by
 refine aY zo _ _ ?_
 have h1:=fV (B:=1000000000) zo n
 have h2:(1000000000:Nat)^sz 1000000000 n≤1000000000^k:=Nat.pow_le_pow_right zo h
 have h3:(1000000000:Nat)^k≤(10000^3)^k:=Nat.pow_le_pow_left zd k
 rw [Nat.pow_mul]
 omega
theorem xO (q:Rat):q=(q.num:Rat) / ((q.den:Int):Rat):=by
 have:=Rat.mkRat_self q
 rw [Rat.mkRat_eq_div] at this
 exact this.symm
theorem Le (q:Rat):((q.den:Int):Rat)≠0:=fun e=>by
 have h:(q.den:Int)=0:=by exact_mod_cast e
 have:=q.den_pos
 omega
theorem VP (p q:Rat):((p.num*q.num:Int):Rat) / (((p.den:Int)*(q.den:Int):Int):Rat)=p*q:=by
 have h1:=xO p
 have h2:=xO q
 have d1:=Le p
 have d2:=Le q
 rw [Rat.intCast_mul,Rat.intCast_mul]
 generalize (p.num:Rat)=a at *
 generalize ((p.den:Int):Rat)=b at *
 generalize (q.num:Rat)=c at *
 generalize ((q.den:Int):Rat)=d at *
 subst h1 h2
 grind
theorem ab7 (p q:Rat):((p.num*(q.den:Int)+q.num*(p.den:Int):Int):Rat) / (((p.den:Int)*(q.den:Int):Int):Rat)=p+q:=by
 have h1:=xO p
 have h2:=xO q
 have d1:=Le p
 have d2:=Le q
 rw [Rat.intCast_add,Rat.intCast_mul,Rat.intCast_mul,Rat.intCast_mul]
 generalize (p.num:Rat)=a at *
 generalize ((p.den:Int):Rat)=b at *
 generalize (q.num:Rat)=c at *
 generalize ((q.den:Int):Rat)=d at *
 subst h1 h2
 grind
theorem qW.four {k:Nat} {q:Rat} (h:qW k q):sz 10000 q.num.natAbs≤3*k∧sz 10000 (q.den:Int).natAbs≤3*k:=⟨yC h.1,by rw [Int.natAbs_natCast];exact yC h.2⟩
theorem tQ {a b:Int} {m n:Nat} (h:sz 10000 a.natAbs≤m) (k:sz 10000 b.natAbs≤n):sz 10000 (a*b).natAbs≤m+n:=by
 rw [Int.natAbs_mul]
 have:=jg (B:=10000) zo a.natAbs b.natAbs
 omega
theorem VU {a b:Int} {m:Nat} (h:sz 10000 a.natAbs≤m) (k:sz 10000 b.natAbs≤m):sz 10000 (a+b).natAbs≤m+1:=by
 have h1:=fJ (B:=10000) zo (Int.natAbs_add_le a b)
 have h2:=Cn (B:=10000) zo a.natAbs b.natAbs
 omega
theorem uU (x:Value) (p:Rat) (w:World) (hx:Ra w x p):Calls Tryz.prog 82 #[x] w (pz w (-p)):=by
 obtain ⟨bA,nJ,lA,nQ,bAd,Rn,lAd,UG,rfl,hA1,hA2⟩:=id hx
 have QA:=zh hx
 have NA:=zh hA1
 have Ba:=zh hA2
 obtain ⟨z,ez⟩:∃ z,p.num=z:=⟨_,rfl⟩
 obtain ⟨d,ed⟩:∃ d,p.den=d:=⟨_,rfl⟩
 have hq:∀ w v,Ra w v (-p)↔∃ bn pn ln cn bd pd ld cd,v= .agg #[.bool bn,.slice pn ln cn,.bool bd,.slice pd ld cd]∧Pl w (.agg #[.bool bn,.slice pn ln cn]) (-z)∧Pl w (.agg #[.bool bd,.slice pd ld cd]) d:=fun w v=>by
  unfold Ra
  rw [Rat.neg_num,Rat.neg_den,ez,ed]
 have HQ:=zh hq
 rw [ez] at NA
 rw [ed] at Ba
 clear hx hA1 hA2 ez ed hq
 go_enter Tryz.func82,Tryz.ntmps82
 go_wp2_with fail
 obtain ⟨gP,EW,hz,X1,X2⟩:=al2 w #[.bool bA,.slice nJ lA nQ,.bool bAd,.slice Rn lAd UG] 123 #[.bool false,.slice none 0 0,.bool false,.slice none 0 0] 123
 rw [EW]
 replace NA:=zh (NA.out.later hz)
 replace Ba:=zh (Ba.out.later hz)
 have hk2:=Bt (Below.refl _ _) hz
 clear EW hz
 obtain ⟨jm,ji,jl⟩:=X1.clf
 refine aD [(.pure,0),(.read,1),(.pure,3),(.read,4),(.ext,2),(.pure,5),(.fin,6)] zk zk zR zP ?_
 repeat (first|(refine au rfl rfl fun J h=>?_;go_simp;refine h _ ?_;clear h J)|(refine aF rfl rfl rfl rfl fun J h=>?_;go_simp;refine h _ ?_;clear h J;try go_simp))
 refine aG rfl rfl (fun Fb hb3 J hJ=>?_);go_simp
 have hh3:Below gP.heap.size gP Fb:=belA
 clear hb3
 refine (aC.uU _ _ _ (NA.out.later hh3)).mono ?_
 rintro e xK ⟨v,rfl,hb4,hv5⟩
 obtain ⟨bB,pI,lB,pJ,rfl⟩:=hv5.agg
 refine hJ _ _ hb4 ?_
 clear hJ J
 have wP:=Bt hh3 hb4
 have NB:=zh hv5
 clear hh3 hb4 hv5
 repeat (first|(refine au rfl rfl fun J h=>?_;go_simp;refine h _ ?_;clear h J)|(refine aF rfl rfl rfl rfl fun J h=>?_;go_simp;refine h _ ?_;clear h J;try go_simp))
 refine aN [_] rfl (fun wf6 hf6=>?_)
 replace NB:=zh (NB.out.later (show Below xK.heap.size xK wf6 from belA))
 have jY:Below gP.heap.size gP wf6:=Bt wP belA
 clear hf6 wP
 clear jm ji jl
 replace NA:=zh (NA.out.later jY)
 replace Ba:=zh (Ba.out.later jY)
 replace X1:=X1.bl jY
 replace X2:=X2.bl jY
 have hk7:=Bt hk2 jY
 clear hk2
 clear jY
 obtain ⟨oG,om,oz⟩:=X2.clf
 have hres:=X2.out
 have vW:=hres.cell
 have vS:=hres.free
 go_wp2_with fail
 refine dO rfl rfl boxA Tryz.underlying123 rfl zk ?_
 exact ⟨_,rfl,belA,(HQ.out _ _).2 ⟨_,_,_,_,_,_,_,_,rfl,Pl.sI NB.out hres zd _ _ _ _,Pl.sI Ba.out hres zd _ _ _ _⟩⟩
theorem mI (x y:Value) (p q:Rat) (w:World) (hx:Ra w x p) (hy:Ra w y q) (h1:qW 10000000000 p) (h2:qW 10000000000 q):Calls Tryz.prog 129 #[x,y] w (pz w (p*q)):=by
 obtain ⟨bA,nJ,lA,nQ,bAd,Rn,lAd,UG,rfl,hA1,hA2⟩:=id hx;obtain ⟨bB,pI,lB,pJ,bBd,ab9,lBd,ah2,rfl,hB1,hB2⟩:=id hy;have QA:=zh hx;have NA:=zh hA1;have Ba:=zh hA2;have QB:=zh hy;have NB:=zh hB1;have Mq:=zh hB2
 obtain ⟨s1,s2⟩:=qW.four h1;obtain ⟨s3,s4⟩:=qW.four h2;have S1:Hid (sz 10000 p.num.natAbs≤549755813888):=zh zo;have S2:Hid (sz 10000 (p.den:Int).natAbs≤549755813888):=zh zo;have S3:Hid (sz 10000 q.num.natAbs≤549755813888):=zh zo;have S4:Hid (sz 10000 (q.den:Int).natAbs≤549755813888):=zh zo
 have L1:Hid (sz 10000 (p.num*q.num).natAbs≤274877906944):=zh (by have:=tQ s1 s3;omega)
 have L2:Hid (sz 10000 ((p.den:Int)*(q.den:Int)).natAbs≤274877906944):=zh (by have:=tQ s2 s4;omega)
 have L3:Hid ((p.den:Int)*(q.den:Int)≠0):=zh (Int.mul_ne_zero (by have:=p.den_pos;omega) (by have:=q.den_pos;omega))
 have HL:=zh (fun x y w hx hy=>wD x y (p.num*q.num) ((p.den:Int)*(q.den:Int)) w hx hy L1.out L2.out L3.out)
 rw [VP] at HL
 clear hx hy hA1 hA2 hB1 hB2 h1 h2 s1 s2 s3 s4 L1 L2 L3
 go_enter Tryz.func129,Tryz.ntmps129
 go_wp2_with fail
 obtain ⟨gP,EW,hz,X1,X2,X3⟩:=al3 w #[.bool bA,.slice nJ lA nQ,.bool bAd,.slice Rn lAd UG] 123 #[.bool bB,.slice pI lB pJ,.bool bBd,.slice ab9 lBd ah2] 123 #[.bool false,.slice none 0 0,.bool false,.slice none 0 0] 123
 rw [EW]
 replace NA:=zh (NA.out.later hz)
 replace Ba:=zh (Ba.out.later hz)
 replace NB:=zh (NB.out.later hz)
 replace Mq:=zh (Mq.out.later hz)
 have hk2:=Bt (Below.refl _ _) hz
 clear EW hz
 obtain ⟨jm,ji,jl⟩:=X1.clf
 obtain ⟨oG,om,oz⟩:=X2.clf
 refine aD [(.pure,0),(.read,1),(.pure,2),(.read,3),(.pure,5),(.read,6),(.pure,7),(.read,8),(.ext,4),(.ext,9),(.ext,10),(.fin,11)] zk zk zR zP ?_
 repeat (first|(refine au rfl rfl fun J h=>?_;go_simp;refine h _ ?_;clear h J)|(refine aF rfl rfl rfl rfl fun J h=>?_;go_simp;refine h _ ?_;clear h J;try go_simp))
 refine aG rfl rfl (fun Fb hb3 J hJ=>?_);go_simp
 have hh3:Below gP.heap.size gP Fb:=belA
 clear hb3
 refine (aC.mI _ _ _ _ _ (NA.out.later hh3) (NB.out.later hh3) S1.out S3.out).mono ?_
 rintro e xK ⟨v,rfl,hb4,hv5⟩
 obtain ⟨bC,Jo,lC,JR,rfl⟩:=hv5.agg
 refine hJ _ _ hb4 ?_
 clear hJ J
 have wP:=Bt hh3 hb4
 have NC:=zh hv5
 clear hh3 hb4 hv5
 repeat (first|(refine au rfl rfl fun J h=>?_;go_simp;refine h _ ?_;clear h J)|(refine aF rfl rfl rfl rfl fun J h=>?_;go_simp;refine h _ ?_;clear h J;try go_simp))
 refine aG rfl rfl (fun wF hb6 J hJ=>?_);go_simp
 have jY:Below gP.heap.size gP wF:=Bt wP belA
 replace NC:=zh (NC.out.later (show Below xK.heap.size xK wF from belA))
 clear hb6 wP
 refine (aC.mI _ _ _ _ _ (Ba.out.later jY) (Mq.out.later jY) S2.out S4.out).mono ?_
 rintro e nH ⟨v,rfl,iA,nM⟩
 obtain ⟨bD,PI,lD,Qd,rfl⟩:=nM.agg
 refine hJ _ _ iA ?_
 clear hJ J
 have uH:=Bt jY iA
 replace NC:=zh (NC.out.later iA)
 have ND:=zh nM
 clear jY iA nM
 repeat (first|(refine au rfl rfl fun J h=>?_;go_simp;refine h _ ?_;clear h J)|(refine aF rfl rfl rfl rfl fun J h=>?_;go_simp;refine h _ ?_;clear h J;try go_simp))
 refine aG rfl rfl (fun Am ou J hJ=>?_);go_simp
 have jB:Below gP.heap.size gP Am:=Bt uH belA
 replace NC:=zh (NC.out.later (show Below nH.heap.size nH Am from belA))
 replace ND:=zh (ND.out.later (show Below nH.heap.size nH Am from belA))
 clear ou uH
 refine (HL.out _ _ _ NC.out ND.out).mono ?_
 rintro e iR ⟨v,rfl,gW,jZ⟩
 obtain ⟨bE,paE,lE,caE,bEd,aC3,lEd,aH1,rfl,aD7,aD5⟩:=id jZ
 refine hJ _ _ gW ?_
 clear hJ J
 have mE:=Bt jB gW
 replace NC:=zh (NC.out.later gW)
 replace ND:=zh (ND.out.later gW)
 have QE:=zh jZ
 clear jB gW jZ aD7 aD5
 repeat (first|(refine au rfl rfl fun J h=>?_;go_simp;refine h _ ?_;clear h J)|(refine aF rfl rfl rfl rfl fun J h=>?_;go_simp;refine h _ ?_;clear h J;try go_simp))
 refine aN [_] rfl (fun xw Tq=>?_)
 replace NC:=zh (NC.out.later (show Below iR.heap.size iR xw from belA))
 replace ND:=zh (ND.out.later (show Below iR.heap.size iR xw from belA))
 replace QE:=zh (QE.out.later (show Below iR.heap.size iR xw from belA))
 have hh12:Below gP.heap.size gP xw:=Bt mE belA
 clear Tq mE
 clear jm ji jl oG om oz
 replace NA:=zh (NA.out.later hh12)
 replace Ba:=zh (Ba.out.later hh12)
 replace NB:=zh (NB.out.later hh12)
 replace Mq:=zh (Mq.out.later hh12)
 replace X1:=X1.bl hh12
 replace X2:=X2.bl hh12
 replace X3:=X3.bl hh12
 have au8:=Bt hk2 hh12
 clear hk2
 clear hh12
 clear NC
 clear ND
 obtain ⟨Qe,PN,PX⟩:=X3.clf
 have hres:=X3.out
 have vW:=hres.cell
 have vS:=hres.free
 go_wp2_with fail
 refine dO rfl rfl boxA Tryz.underlying123 rfl zk ?_
 exact ⟨_,rfl,belA,Ra.sI QE.out hres zd _ _ _ _⟩
theorem xW (x y:Value) (p q:Rat) (w:World) (hx:Ra w x p) (hy:Ra w y q) (h1:qW 10000000000 p) (h2:qW 10000000000 q):Calls Tryz.prog 128 #[x,y] w (pz w (p+q)):=by
 obtain ⟨bA,nJ,lA,nQ,bAd,Rn,lAd,UG,rfl,hA1,hA2⟩:=id hx;obtain ⟨bB,pI,lB,pJ,bBd,ab9,lBd,ah2,rfl,hB1,hB2⟩:=id hy;have QA:=zh hx;have NA:=zh hA1;have Ba:=zh hA2;have QB:=zh hy;have NB:=zh hB1;have Mq:=zh hB2
 obtain ⟨s1,s2⟩:=qW.four h1;obtain ⟨s3,s4⟩:=qW.four h2;have S1:Hid (sz 10000 p.num.natAbs≤549755813888):=zh zo;have S2:Hid (sz 10000 (p.den:Int).natAbs≤549755813888):=zh zo;have S3:Hid (sz 10000 q.num.natAbs≤549755813888):=zh zo;have S4:Hid (sz 10000 (q.den:Int).natAbs≤549755813888):=zh zo
 have a1:=tQ s1 s4
 have a2:=tQ s3 s2
 have P1:Hid (sz 10000 (p.num*(q.den:Int)).natAbs≤549755813888):=zh zo
 have P2:Hid (sz 10000 (q.num*(p.den:Int)).natAbs≤549755813888):=zh zo
 have L1:Hid (sz 10000 (p.num*(q.den:Int)+q.num*(p.den:Int)).natAbs≤274877906944):=zh (by have:=VU a1 a2;omega)
 have L2:Hid (sz 10000 ((p.den:Int)*(q.den:Int)).natAbs≤274877906944):=zh (by have:=tQ s2 s4;omega)
 have L3:Hid ((p.den:Int)*(q.den:Int)≠0):=zh (Int.mul_ne_zero (by have:=p.den_pos;omega) (by have:=q.den_pos;omega))
 have HL:=zh (fun x y w hx hy=>wD x y (p.num*(q.den:Int)+q.num*(p.den:Int)) ((p.den:Int)*(q.den:Int)) w hx hy L1.out L2.out L3.out)
 rw [ab7] at HL
 clear hx hy hA1 hA2 hB1 hB2 h1 h2 s1 s2 s3 s4 L1 L2 L3 a1 a2
 go_enter Tryz.func128,Tryz.ntmps128
 go_wp2_with fail
 obtain ⟨gP,EW,hz,X1,X2,X3⟩:=al3 w #[.bool bA,.slice nJ lA nQ,.bool bAd,.slice Rn lAd UG] 123 #[.bool bB,.slice pI lB pJ,.bool bBd,.slice ab9 lBd ah2] 123 #[.bool false,.slice none 0 0,.bool false,.slice none 0 0] 123
 rw [EW]
 replace NA:=zh (NA.out.later hz)
 replace Ba:=zh (Ba.out.later hz)
 replace NB:=zh (NB.out.later hz)
 replace Mq:=zh (Mq.out.later hz)
 have hk2:=Bt (Below.refl _ _) hz
 clear EW hz
 obtain ⟨jm,ji,jl⟩:=X1.clf
 obtain ⟨oG,om,oz⟩:=X2.clf
 refine aD [(.pure,0),(.read,1),(.pure,2),(.read,3),(.pure,5),(.read,6),(.pure,7),(.read,8),(.ext,4),(.ext,9),(.ext,10),(.alloc #[.bool false,.slice none 0 0] 121,11),(.fin,12)] zk zk zR zP ?_
 repeat (first|(refine au rfl rfl fun J h=>?_;go_simp;refine h _ ?_;clear h J)|(refine aF rfl rfl rfl rfl fun J h=>?_;go_simp;refine h _ ?_;clear h J;try go_simp))
 refine aG rfl rfl (fun Fb hb3 J hJ=>?_);go_simp
 have hh3:Below gP.heap.size gP Fb:=belA
 clear hb3
 refine (aC.mI _ _ _ _ _ (NA.out.later hh3) (Mq.out.later hh3) S1.out S4.out).mono ?_
 rintro e xK ⟨v,rfl,hb4,hv5⟩
 obtain ⟨bC,Jo,lC,JR,rfl⟩:=hv5.agg
 refine hJ _ _ hb4 ?_
 clear hJ J
 have wP:=Bt hh3 hb4
 have NC:=zh hv5
 clear hh3 hb4 hv5
 repeat (first|(refine au rfl rfl fun J h=>?_;go_simp;refine h _ ?_;clear h J)|(refine aF rfl rfl rfl rfl fun J h=>?_;go_simp;refine h _ ?_;clear h J;try go_simp))
 refine aG rfl rfl (fun wF hb6 J hJ=>?_);go_simp
 have jY:Below gP.heap.size gP wF:=Bt wP belA
 replace NC:=zh (NC.out.later (show Below xK.heap.size xK wF from belA))
 clear hb6 wP
 refine (aC.mI _ _ _ _ _ (NB.out.later jY) (Ba.out.later jY) S3.out S2.out).mono ?_
 rintro e nH ⟨v,rfl,iA,nM⟩
 obtain ⟨bD,PI,lD,Qd,rfl⟩:=nM.agg
 refine hJ _ _ iA ?_
 clear hJ J
 have uH:=Bt jY iA
 replace NC:=zh (NC.out.later iA)
 have ND:=zh nM
 clear jY iA nM
 repeat (first|(refine au rfl rfl fun J h=>?_;go_simp;refine h _ ?_;clear h J)|(refine aF rfl rfl rfl rfl fun J h=>?_;go_simp;refine h _ ?_;clear h J;try go_simp))
 refine aG rfl rfl (fun Am ou J hJ=>?_);go_simp
 have jB:Below gP.heap.size gP Am:=Bt uH belA
 replace NC:=zh (NC.out.later (show Below nH.heap.size nH Am from belA))
 replace ND:=zh (ND.out.later (show Below nH.heap.size nH Am from belA))
 clear ou uH
 refine (aC.xW _ _ _ _ _ NC.out ND.out P1.out P2.out).mono ?_
 rintro e iR ⟨v,rfl,gW,jZ⟩
 obtain ⟨bF,paF,lF,caF,rfl⟩:=jZ.agg
 refine hJ _ _ gW ?_
 clear hJ J
 have mE:=Bt jB gW
 replace NC:=zh (NC.out.later gW)
 replace ND:=zh (ND.out.later gW)
 have NF:=zh jZ
 clear jB gW jZ
 repeat (first|(refine au rfl rfl fun J h=>?_;go_simp;refine h _ ?_;clear h J)|(refine aF rfl rfl rfl rfl fun J h=>?_;go_simp;refine h _ ?_;clear h J;try go_simp))
 refine bg rfl (fun vZ aB0 SK nO Dh JI mD=>?_);go_simp;replace mD:ah _ _ _ _:=mD;have JH:w.heap.size≤vZ:=(by first|omega|exact Nat.le_trans (Below.size (B:=w.heap.size) belA) nO)
 refine aN [_] rfl (fun Qn av4=>?_)
 replace NC:=zh (NC.out.later (show Below iR.heap.size iR Qn from belA))
 replace ND:=zh (ND.out.later (show Below iR.heap.size iR Qn from belA))
 replace NF:=zh (NF.out.later (show Below iR.heap.size iR Qn from belA))
 have zx:Below gP.heap.size gP Qn:=Bt mE belA
 have hq0:=mD.later av4;have XW:=hq0.cell;have Xz:=hq0.free
 clear mD av4 mE
 clear jm ji jl oG om oz
 go_wp2_with fail
 obtain ⟨Fa,EW⟩:∃ y,((Qn.setCell ⟨vZ,0,none⟩ (.bool bF)).setCell ⟨vZ,1,none⟩ (.slice paF lF caF))=y:=⟨_,rfl⟩
 have hz:Below gP.heap.size gP Fa:=by rw [← EW];exact ((zx.setCell nO _).setCell nO _)
 have X4:Hid (ah Fa vZ #[.bool bF,.slice paF lF caF] 121):=zh (by rw [← EW];exact ((hq0.set 0 _).set 1 _))
 clear NC
 clear ND
 have t:=((NF.out.setOther hq0 zd 0 (.bool bF)).setOther (hq0.set 0 _) zd 1 (.slice paF lF caF))
 rw [EW] at t
 replace NF:=zh t
 clear t
 rw [EW]
 clear EW hq0 XW Xz zx
 replace NA:=zh (NA.out.later hz)
 replace Ba:=zh (Ba.out.later hz)
 replace NB:=zh (NB.out.later hz)
 replace Mq:=zh (Mq.out.later hz)
 replace X1:=X1.bl hz
 replace X2:=X2.bl hz
 replace X3:=X3.bl hz
 have Tn:=Bt hk2 hz
 clear hk2
 clear hz
 clear SK nO Dh JI JH
 go_wp2_with fail
 obtain ⟨OQ,Oi,Oz⟩:=X4.clf
 obtain ⟨jm,ji,jl⟩:=X1.clf
 obtain ⟨oG,om,oz⟩:=X2.clf
 refine aD [(.read,0),(.pure,1),(.read,2),(.pure,3),(.read,4),(.ext,5),(.ext,6),(.fin,7)] zk zk zR zP ?_
 repeat (first|(refine au rfl rfl fun J h=>?_;go_simp;refine h _ ?_;clear h J)|(refine aF rfl rfl rfl rfl fun J h=>?_;go_simp;refine h _ ?_;clear h J;try go_simp))
 refine aG rfl rfl (fun aA9 Gu J hJ=>?_);go_simp
 have Xo:Below Fa.heap.size Fa aA9:=belA
 clear Gu
 refine (aC.mI _ _ _ _ _ (Ba.out.later Xo) (Mq.out.later Xo) S2.out S4.out).mono ?_
 rintro e Qp ⟨v,rfl,rO,ad6⟩
 obtain ⟨bG,Rm,lG,UF,rfl⟩:=ad6.agg
 refine hJ _ _ rO ?_
 clear hJ J
 have zw:=Bt Xo rO
 have NG:=zh ad6
 clear Xo rO ad6
 repeat (first|(refine au rfl rfl fun J h=>?_;go_simp;refine h _ ?_;clear h J)|(refine aF rfl rfl rfl rfl fun J h=>?_;go_simp;refine h _ ?_;clear h J;try go_simp))
 refine aG rfl rfl (fun ao6 Xu J hJ=>?_);go_simp
 have ae5:Below Fa.heap.size Fa ao6:=Bt zw belA
 replace NG:=zh (NG.out.later (show Below Qp.heap.size Qp ao6 from belA))
 clear Xu zw
 refine (HL.out _ _ _ (NF.out.later ae5) NG.out).mono ?_
 rintro e Qo ⟨v,rfl,sQ,Jw⟩
 obtain ⟨bE,paE,lE,caE,bEd,aC3,lEd,aH1,rfl,aD6,aD4⟩:=id Jw
 refine hJ _ _ sQ ?_
 clear hJ J
 have av0:=Bt ae5 sQ
 replace NG:=zh (NG.out.later sQ)
 have QE:=zh Jw
 clear ae5 sQ Jw aD6 aD4
 repeat (first|(refine au rfl rfl fun J h=>?_;go_simp;refine h _ ?_;clear h J)|(refine aF rfl rfl rfl rfl fun J h=>?_;go_simp;refine h _ ?_;clear h J;try go_simp))
 refine aN [_] rfl (fun aa1 aE7=>?_)
 replace NG:=zh (NG.out.later (show Below Qo.heap.size Qo aa1 from belA))
 replace QE:=zh (QE.out.later (show Below Qo.heap.size Qo aa1 from belA))
 have zu:Below Fa.heap.size Fa aa1:=Bt av0 belA
 clear aE7 av0
 clear OQ Oi Oz jm ji jl oG om oz
 replace NA:=zh (NA.out.later zu)
 replace Ba:=zh (Ba.out.later zu)
 replace NB:=zh (NB.out.later zu)
 replace Mq:=zh (Mq.out.later zu)
 replace X1:=X1.bl zu
 replace X2:=X2.bl zu
 replace X3:=X3.bl zu
 replace X4:=X4.bl zu
 replace NF:=zh (NF.out.later zu)
 have aQ0:=Bt Tn zu
 clear Tn
 clear zu
 clear NG
 obtain ⟨Qe,PN,PX⟩:=X3.clf
 have hres:=X3.out
 have vW:=hres.cell
 have vS:=hres.free
 go_wp2_with fail
 refine dO rfl rfl boxA Tryz.underlying123 rfl zk ?_
 exact ⟨_,rfl,belA,Ra.sI QE.out hres zd _ _ _ _⟩
theorem uW {s:ByteArray} {b:Bool} (h:(whole s.data.toList).isSome=b) (hs:s.size≤4611686018427387904) (W:World) :
  Calls Tryz.prog 166 #[.string s] W (fun e w'=>e= .returned (.bool b)∧Below W.heap.size W w') :=
 (aC.Right_ok s W hs).mono fun _ _ h'=>⟨h ▸ h'.1,h'.2 ▸ Below.refl _ _⟩
def Fits (a:Fr):Prop:=a.n.size≤4611686018427387904∧a.d.size≤4611686018427387904
theorem Nt {s t:ByteArray} (h:whole s.data.toList=none):rd ⟨s,t⟩=none:=by unfold rd;simp only [h]
theorem Nu {s t:ByteArray} (h:whole t.data.toList=none):rd ⟨s,t⟩=none:=by
 unfold rd
 simp only [h]
 cases whole s.data.toList<;>rfl
theorem ab5 {s t:ByteArray} {n d:Int} (h1:whole s.data.toList=some n) (h2:whole t.data.toList=some d):(rd ⟨s,t⟩).isSome=(decide (0<d)&&(Nat.gcd n.natAbs d.natAbs == 1)):=by
 unfold rd
 simp only [h1,h2]
 by_cases h:0<d∧n.natAbs.Coprime d.natAbs
 ·rw [dif_pos h]
  rw [decide_eq_true h.1,show Nat.gcd n.natAbs d.natAbs=1 from h.2]
  rfl
 ·rw [dif_neg h]
  refine (Bool.eq_false_iff.2 fun e=>h ?_).symm
  rw [Bool.and_eq_true,decide_eq_true_iff,beq_iff_eq] at e
  exact e
theorem yh {bs:List UInt8} {z:Int} (h:whole bs=some z):sz 10000 z.natAbs≤201:=by
 have h1:=sP (dZ.2 (jJ h).2)
 have:=yC h1
 omega
theorem Gb:(Lib.itoa ((1:Nat):Int)).toArray=#[49]:=by decide+kernel
theorem toList_inj {a b:ByteArray} (h:a.toList=b.toList):a=b:=by
 rw [ByteArray.toList_eq,ByteArray.toList_eq] at h
 exact wB h
theorem WE {g:Nat} (h:g≠1):((⟨(Lib.itoa (g:Int)).toArray⟩:ByteArray) == ⟨#[49]⟩)=false:=by
 rw [beq_toListBytes,beq_eq_false_iff_ne]
 intro e
 have e:=toList_inj e
 simp only [ByteArray.mk.injEq] at e
 rw [← Gb] at e
 have:=Gl (List.toArray_inj e)
 omega
theorem ac7:((⟨(Lib.itoa ((1:Nat):Int)).toArray⟩:ByteArray) == ⟨#[49]⟩)=true:=by rw [Gb,beq_toListBytes];exact beq_self_eq_true _
theorem Right_ok (s t:ByteArray) (w:World) (h1:s.size≤4611686018427387904) (h2:t.size≤4611686018427387904) :
  Calls Tryz.prog 113 #[.agg #[.string s,.string t]] w (fun e w'=>e= .returned (.bool (rd ⟨s,t⟩).isSome)∧Below w.heap.size w w'):=by
 cases e1:whole s.data.toList with
 | none =>
  rw [Nt e1]
  have R1:=zh (fun W=>uW (b:=false) (by rw [e1];rfl) h1 W)
  clear e1 h1 h2
  go_enter Tryz.func113,Tryz.ntmps113
  go_wp2_with fail
  refine (R1.out _).mono ?_
  rintro e w1 ⟨rfl,hb⟩
  go_wp2_with fail
  go_ret
  exact ⟨rfl,Bt belA hb⟩
 | some n =>
  have R1:=zh (fun W=>uW (b:=true) (by rw [e1];rfl) h1 W)
  cases e2:whole t.data.toList with
  | none =>
   rw [Nu e2]
   have R2:=zh (fun W=>uW (b:=false) (by rw [e2];rfl) h2 W)
   have h0:Below w.heap.size w (w.alloc (.cells #[.string s,.string t] 59)):=belA
   have hx:=ah.new w #[.string s,.string t] 59
   clear e1 h1 h2 e2
   go_enter Tryz.func113,Tryz.ntmps113
   go_wp2_with fail
   refine (R1.out _).mono ?_
   rintro e w1 ⟨rfl,hb⟩
   have cx:=(hx.later hb).cell
   have lx:=(hx.later hb).lt
   go_wp2_with fail
   refine (R2.out _).mono ?_
   rintro e w2 ⟨rfl,hb2⟩
   go_wp2_with fail
   go_ret
   exact ⟨rfl,Bt (Bt h0 hb) hb2⟩
  | some d =>
   have R2:=zh (fun W=>uW (b:=true) (by rw [e2];rfl) h2 W)
   rw [ab5 e1 e2]
   have I1:=zh (fun W=>aC.Ai s n W e1)
   have I2:=zh (fun W=>aC.Ai t d W e2)
   have K1:=zh (Nat.le_trans (yh e1) (show 201≤274877906944 by omega))
   have K2:=zh (Nat.le_trans (yh e2) (show 201≤274877906944 by omega))
   have hg:0<d→sz 10000 ((Nat.gcd n.natAbs d.natAbs:Nat):Int).natAbs≤1073741824:=fun h=>by
    rw [Int.natAbs_natCast]
    have h3:=fJ (B:=10000) zo (Nat.le_of_dvd (by omega:0<d.natAbs) (Nat.gcd_dvd_right n.natAbs d.natAbs))
    have h4:=yh e2
    omega
   have DV:=zh (fun x y W hx hy=>sZ x y n d W hx hy K1.out K2.out)
   generalize Nat.gcd n.natAbs d.natAbs=g at *
   rcases Int.lt_trichotomy d 0 with hd|hd|hd
   ·have HD:=zh hd
    rw [decide_eq_false (show ¬ 0<d by omega),Bool.false_and]
    clear e1 e2 h1 h2 hg hd
    go_enter Tryz.func113,Tryz.ntmps113
    go_wp2_with fail
    obtain ⟨gP,EW,hz,X1⟩:=al1 w #[.string s,.string t] 59
    rw [EW]
    have hk2:=Bt (Below.refl _ _) hz
    clear EW hz
    refine (R1.out _).mono ?_
    rintro e pQ ⟨rfl,hb3⟩
    replace X1:=X1.bl hb3
    have hk5:=Bt hk2 hb3
    clear hk2
    clear hb3
    obtain ⟨jm,ji,jl⟩:=X1.clf
    go_wp2_with fail
    clear jm ji jl
    refine (R2.out _).mono ?_
    rintro e rH ⟨rfl,hb6⟩
    replace X1:=X1.bl hb6
    have AJ:=Bt hk5 hb6
    clear hk5
    clear hb6
    go_wp2_with fail
    obtain ⟨jm,ji,jl⟩:=X1.clf
    refine aD [(.pure,0),(.read,1),(.pure,3),(.read,4),(.ext,2),(.ext,5),(.alloc #[.bool false,.slice none 0 0] 121,6),(.alloc #[.bool false,.slice none 0 0] 121,7),(.fin,8),(.fin,9)] zk zk zR zP ?_
    repeat (first|(refine au rfl rfl fun J h=>?_;go_simp;refine h _ ?_;clear h J)|(refine aF rfl rfl rfl rfl fun J h=>?_;go_simp;refine h _ ?_;clear h J;try go_simp))
    refine aG rfl rfl (fun Am ou J hJ=>?_);go_simp
    have jB:Below rH.heap.size rH Am:=belA
    clear ou
    refine (I1.out _).mono ?_
    rintro e iR ⟨v,rfl,gW,jZ⟩
    obtain ⟨bA,nJ,lA,nQ,rfl⟩:=jZ.agg
    refine hJ _ _ gW ?_
    clear hJ J
    have mE:=Bt jB gW
    clear jB gW jZ
    repeat (first|(refine au rfl rfl fun J h=>?_;go_simp;refine h _ ?_;clear h J)|(refine aF rfl rfl rfl rfl fun J h=>?_;go_simp;refine h _ ?_;clear h J;try go_simp))
    refine aG rfl rfl (fun MU jk J hJ=>?_);go_simp
    have hh12:Below rH.heap.size rH MU:=Bt mE belA
    clear jk mE
    refine (I2.out _).mono ?_
    rintro e Cg ⟨v,rfl,kJ,hv⟩
    obtain ⟨bB,pI,lB,pJ,rfl⟩:=hv.agg
    have hb1:bB=true:=hv.nm.2.trans (decide_eq_true HD.out)
    subst hb1
    refine hJ _ _ kJ ?_
    clear hJ J
    have zx:=Bt hh12 kJ
    clear hh12 kJ hv
    repeat (first|(refine au rfl rfl fun J h=>?_;go_simp;refine h _ ?_;clear h J)|(refine aF rfl rfl rfl rfl fun J h=>?_;go_simp;refine h _ ?_;clear h J;try go_simp))
    refine bg rfl (fun pG ao9 Gr iI uG zK gK=>?_);go_simp;replace gK:ah _ _ _ _:=gK;have zI:w.heap.size≤pG:=(by first|omega|exact Nat.le_trans (Below.size (B:=w.heap.size) belA) iI)
    refine bg rfl (fun og ao8 wO iH uF qH jE=>?_);go_simp;replace jE:ah _ _ _ _:=jE;have zH:w.heap.size≤og:=(by first|omega|exact Nat.le_trans (Below.size (B:=w.heap.size) belA) iH)
    replace gK:=ah.later gK wO
    have hne:pG≠og:=fun h=>qH (by simp [h])
    have hne2:og≠pG:=fun h=>hne h.symm
    refine aN [_,_] rfl (fun Ar zy=>?_)
    have zw:Below rH.heap.size rH Ar:=Bt zx belA
    have hq0:=gK.later zy;have XW:=hq0.cell;have Xz:=hq0.free
    have hq1:=jE.later zy;have cq1:=hq1.cell;have fq1:=hq1.free
    clear gK jE zy zx
    clear jm ji jl
    go_wp2_with fail
    obtain ⟨Ce,EW⟩:∃ y,((((Ar.setCell ⟨pG,0,none⟩ (.bool bA)).setCell ⟨pG,1,none⟩ (.slice nJ lA nQ)).setCell ⟨og,0,none⟩ (.bool true)).setCell ⟨og,1,none⟩ (.slice pI lB pJ))=y:=⟨_,rfl⟩
    have hz:Below rH.heap.size rH Ce:=by rw [← EW];exact ((((zw.setCell iI _).setCell iI _).setCell iH _).setCell iH _)
    have X3:Hid (ah Ce og #[.bool true,.slice pI lB pJ] 121):=zh (by rw [← EW];exact ((((hq1.setOther _ (by first|exact hne|exact hne2)).setOther _ (by first|exact hne|exact hne2)).set 0 _).set 1 _))
    rw [EW]
    clear EW hq0 XW Xz hq1 cq1 fq1 zw
    replace X1:=X1.bl hz
    have Di:=Bt AJ hz
    clear AJ
    clear hz
    clear Gr zK qH zI zH wO
    have Tm:=iI;have Tk:=iH;clear iI iH uG uF
    go_wp2_with fail
    go_ret
    exact ⟨rfl,Di⟩
   ·have HD:=zh hd
    rw [decide_eq_false (show ¬ 0<d by omega),Bool.false_and]
    clear e1 e2 h1 h2 hg hd
    go_enter Tryz.func113,Tryz.ntmps113
    go_wp2_with fail
    obtain ⟨gP,EW,hz,X1⟩:=al1 w #[.string s,.string t] 59
    rw [EW]
    have hk2:=Bt (Below.refl _ _) hz
    clear EW hz
    refine (R1.out _).mono ?_
    rintro e pQ ⟨rfl,hb3⟩
    replace X1:=X1.bl hb3
    have hk5:=Bt hk2 hb3
    clear hk2
    clear hb3
    obtain ⟨jm,ji,jl⟩:=X1.clf
    go_wp2_with fail
    clear jm ji jl
    refine (R2.out _).mono ?_
    rintro e rH ⟨rfl,hb6⟩
    replace X1:=X1.bl hb6
    have AJ:=Bt hk5 hb6
    clear hk5
    clear hb6
    go_wp2_with fail
    obtain ⟨jm,ji,jl⟩:=X1.clf
    refine aD [(.pure,0),(.read,1),(.pure,3),(.read,4),(.ext,2),(.ext,5),(.alloc #[.bool false,.slice none 0 0] 121,6),(.alloc #[.bool false,.slice none 0 0] 121,7),(.fin,8),(.fin,9)] zk zk zR zP ?_
    repeat (first|(refine au rfl rfl fun J h=>?_;go_simp;refine h _ ?_;clear h J)|(refine aF rfl rfl rfl rfl fun J h=>?_;go_simp;refine h _ ?_;clear h J;try go_simp))
    refine aG rfl rfl (fun Am ou J hJ=>?_);go_simp
    have jB:Below rH.heap.size rH Am:=belA
    clear ou
    refine (I1.out _).mono ?_
    rintro e iR ⟨v,rfl,gW,jZ⟩
    obtain ⟨bA,nJ,lA,nQ,rfl⟩:=jZ.agg
    refine hJ _ _ gW ?_
    clear hJ J
    have mE:=Bt jB gW
    clear jB gW jZ
    repeat (first|(refine au rfl rfl fun J h=>?_;go_simp;refine h _ ?_;clear h J)|(refine aF rfl rfl rfl rfl fun J h=>?_;go_simp;refine h _ ?_;clear h J;try go_simp))
    refine aG rfl rfl (fun MU jk J hJ=>?_);go_simp
    have hh12:Below rH.heap.size rH MU:=Bt mE belA
    clear jk mE
    refine (I2.out _).mono ?_
    rintro e Cg ⟨v,rfl,kJ,hv⟩
    obtain ⟨bB,pI,lB,pJ,rfl⟩:=hv.agg
    have hb1:bB=false:=hv.nm.2.trans (decide_eq_false (by have:=HD.out;omega))
    subst hb1
    have hl0:lB=0:=hv.nm.1.as3 (by have:=HD.out;omega)
    subst hl0
    refine hJ _ _ kJ ?_
    clear hJ J
    have zx:=Bt hh12 kJ
    clear hh12 kJ hv
    repeat (first|(refine au rfl rfl fun J h=>?_;go_simp;refine h _ ?_;clear h J)|(refine aF rfl rfl rfl rfl fun J h=>?_;go_simp;refine h _ ?_;clear h J;try go_simp))
    refine bg rfl (fun pG ao9 Gr iI uG zK gK=>?_);go_simp;replace gK:ah _ _ _ _:=gK;have zI:w.heap.size≤pG:=(by first|omega|exact Nat.le_trans (Below.size (B:=w.heap.size) belA) iI)
    refine bg rfl (fun og ao8 wO iH uF qH jE=>?_);go_simp;replace jE:ah _ _ _ _:=jE;have zH:w.heap.size≤og:=(by first|omega|exact Nat.le_trans (Below.size (B:=w.heap.size) belA) iH)
    replace gK:=ah.later gK wO
    have hne:pG≠og:=fun h=>qH (by simp [h])
    have hne2:og≠pG:=fun h=>hne h.symm
    refine aN [_,_] rfl (fun Ar zy=>?_)
    have zw:Below rH.heap.size rH Ar:=Bt zx belA
    have hq0:=gK.later zy;have XW:=hq0.cell;have Xz:=hq0.free
    have hq1:=jE.later zy;have cq1:=hq1.cell;have fq1:=hq1.free
    clear gK jE zy zx
    clear jm ji jl
    go_wp2_with fail
    obtain ⟨Ce,EW⟩:∃ y,((((Ar.setCell ⟨pG,0,none⟩ (.bool bA)).setCell ⟨pG,1,none⟩ (.slice nJ lA nQ)).setCell ⟨og,0,none⟩ (.bool false)).setCell ⟨og,1,none⟩ (.slice pI 0 pJ))=y:=⟨_,rfl⟩
    have hz:Below rH.heap.size rH Ce:=by rw [← EW];exact ((((zw.setCell iI _).setCell iI _).setCell iH _).setCell iH _)
    have X3:Hid (ah Ce og #[.bool false,.slice pI 0 pJ] 121):=zh (by rw [← EW];exact ((((hq1.setOther _ (by first|exact hne|exact hne2)).setOther _ (by first|exact hne|exact hne2)).set 0 _).set 1 _))
    rw [EW]
    clear EW hq0 XW Xz hq1 cq1 fq1 zw
    replace X1:=X1.bl hz
    have Di:=Bt AJ hz
    clear AJ
    clear hz
    clear Gr zK qH zI zH wO
    have Tm:=iI;have Tk:=iH;clear iI iH uG uF
    go_wp2_with fail
    go_ret
    exact ⟨rfl,Di⟩
   ·have HD:=zh hd
    have HG:=zh (hg hd)
    have TX:=zh (fun x W hx=>Mi x (g:Int) W hx HG.out)
    obtain ⟨b,hb⟩:∃ b,(decide (0<d)&&(g == 1))=b:=⟨_,rfl⟩
    have hT:((⟨(Lib.itoa (g:Int)).toArray⟩:ByteArray) == ⟨#[49]⟩)=b:=by
     rw [← hb,decide_eq_true hd,Bool.true_and]
     by_cases h:g=1
     ·rw [h];exact ac7
     ·rw [WE h];exact (beq_eq_false_iff_ne.2 h).symm
    rw [hb]
    rw [beq_toListBytes,ByteArray.toList_eq (⟨#[49]⟩:ByteArray)] at hT
    replace hT:((⟨(Lib.itoa (g:Int)).toArray⟩:ByteArray).toList == [49])=b:=hT
    generalize (⟨(Lib.itoa (g:Int)).toArray⟩:ByteArray)=T at *
    clear e1 e2 h1 h2 hg hd hb
    go_enter Tryz.func113,Tryz.ntmps113
    go_wp2_with fail
    obtain ⟨gP,EW,hz,X1⟩:=al1 w #[.string s,.string t] 59
    rw [EW]
    have hk2:=Bt (Below.refl _ _) hz
    clear EW hz
    refine (R1.out _).mono ?_
    rintro e pQ ⟨rfl,hb3⟩
    replace X1:=X1.bl hb3
    have hk5:=Bt hk2 hb3
    clear hk2
    clear hb3
    obtain ⟨jm,ji,jl⟩:=X1.clf
    go_wp2_with fail
    clear jm ji jl
    refine (R2.out _).mono ?_
    rintro e rH ⟨rfl,hb6⟩
    replace X1:=X1.bl hb6
    have AJ:=Bt hk5 hb6
    clear hk5
    clear hb6
    go_wp2_with fail
    obtain ⟨jm,ji,jl⟩:=X1.clf
    refine aD [(.pure,0),(.read,1),(.pure,3),(.read,4),(.ext,2),(.ext,5),(.alloc #[.bool false,.slice none 0 0] 121,6),(.alloc #[.bool false,.slice none 0 0] 121,7),(.fin,8),(.fin,9)] zk zk zR zP ?_
    repeat (first|(refine au rfl rfl fun J h=>?_;go_simp;refine h _ ?_;clear h J)|(refine aF rfl rfl rfl rfl fun J h=>?_;go_simp;refine h _ ?_;clear h J;try go_simp))
    refine aG rfl rfl (fun Am ou J hJ=>?_);go_simp
    have jB:Below rH.heap.size rH Am:=belA
    clear ou
    refine (I1.out _).mono ?_
    rintro e iR ⟨v,rfl,gW,jZ⟩
    obtain ⟨bA,nJ,lA,nQ,rfl⟩:=jZ.agg
    refine hJ _ _ gW ?_
    clear hJ J
    have mE:=Bt jB gW
    have NA:=zh jZ
    clear jB gW jZ
    repeat (first|(refine au rfl rfl fun J h=>?_;go_simp;refine h _ ?_;clear h J)|(refine aF rfl rfl rfl rfl fun J h=>?_;go_simp;refine h _ ?_;clear h J;try go_simp))
    refine aG rfl rfl (fun MU jk J hJ=>?_);go_simp
    have hh12:Below rH.heap.size rH MU:=Bt mE belA
    replace NA:=zh (NA.out.later (show Below iR.heap.size iR MU from belA))
    clear jk mE
    refine (I2.out _).mono ?_
    rintro e Cg ⟨v,rfl,kJ,hv⟩
    obtain ⟨bB,pI,lB,pJ,rfl⟩:=hv.agg
    have hb1:bB=false:=hv.nm.2.trans (decide_eq_false (by have:=HD.out;omega))
    subst hb1
    have hl0:0<lB:=hv.nm.1.as2 (by have:=HD.out;omega)
    refine hJ _ _ kJ ?_
    clear hJ J
    have zx:=Bt hh12 kJ
    replace NA:=zh (NA.out.later kJ)
    have NB:=zh hv
    clear hh12 kJ hv
    repeat (first|(refine au rfl rfl fun J h=>?_;go_simp;refine h _ ?_;clear h J)|(refine aF rfl rfl rfl rfl fun J h=>?_;go_simp;refine h _ ?_;clear h J;try go_simp))
    refine bg rfl (fun pG ao9 Gr iI uG zK gK=>?_);go_simp;replace gK:ah _ _ _ _:=gK;have zI:w.heap.size≤pG:=(by first|omega|exact Nat.le_trans (Below.size (B:=w.heap.size) belA) iI)
    refine bg rfl (fun og ao8 wO iH uF qH jE=>?_);go_simp;replace jE:ah _ _ _ _:=jE;have zH:w.heap.size≤og:=(by first|omega|exact Nat.le_trans (Below.size (B:=w.heap.size) belA) iH)
    replace gK:=ah.later gK wO
    have hne:pG≠og:=fun h=>qH (by simp [h])
    have hne2:og≠pG:=fun h=>hne h.symm
    refine aN [_,_] rfl (fun Ar zy=>?_)
    replace NA:=zh (NA.out.later (show Below Cg.heap.size Cg Ar from belA))
    replace NB:=zh (NB.out.later (show Below Cg.heap.size Cg Ar from belA))
    have zw:Below rH.heap.size rH Ar:=Bt zx belA
    have hq0:=gK.later zy;have XW:=hq0.cell;have Xz:=hq0.free
    have hq1:=jE.later zy;have cq1:=hq1.cell;have fq1:=hq1.free
    clear gK jE zy zx
    clear jm ji jl
    go_wp2_with fail
    obtain ⟨Ce,EW⟩:∃ y,((((Ar.setCell ⟨pG,0,none⟩ (.bool bA)).setCell ⟨pG,1,none⟩ (.slice nJ lA nQ)).setCell ⟨og,0,none⟩ (.bool false)).setCell ⟨og,1,none⟩ (.slice pI lB pJ))=y:=⟨_,rfl⟩
    have hz:Below rH.heap.size rH Ce:=by rw [← EW];exact ((((zw.setCell iI _).setCell iI _).setCell iH _).setCell iH _)
    have X2:Hid (ah Ce pG #[.bool bA,.slice nJ lA nQ] 121):=zh (by rw [← EW];exact ((((hq0.set 0 _).set 1 _).setOther _ (by first|exact hne|exact hne2)).setOther _ (by first|exact hne|exact hne2)))
    have X3:Hid (ah Ce og #[.bool false,.slice pI lB pJ] 121):=zh (by rw [← EW];exact ((((hq1.setOther _ (by first|exact hne|exact hne2)).setOther _ (by first|exact hne|exact hne2)).set 0 _).set 1 _))
    have t:=((((NA.out.setOther hq0 zd 0 (.bool bA)).setOther (hq0.set 0 _) zd 1 (.slice nJ lA nQ)).setOther ((hq1.setOther _ (by first|exact hne|exact hne2)).setOther _ (by first|exact hne|exact hne2)) zd 0 (.bool false)).setOther (((hq1.setOther _ (by first|exact hne|exact hne2)).setOther _ (by first|exact hne|exact hne2)).set 0 _) zd 1 (.slice pI lB pJ))
    rw [EW] at t
    replace NA:=zh t
    clear t
    have t:=((((NB.out.setOther hq0 zd 0 (.bool bA)).setOther (hq0.set 0 _) zd 1 (.slice nJ lA nQ)).setOther ((hq1.setOther _ (by first|exact hne|exact hne2)).setOther _ (by first|exact hne|exact hne2)) zd 0 (.bool false)).setOther (((hq1.setOther _ (by first|exact hne|exact hne2)).setOther _ (by first|exact hne|exact hne2)).set 0 _) zd 1 (.slice pI lB pJ))
    rw [EW] at t
    replace NB:=zh t
    clear t
    rw [EW]
    clear EW hq0 XW Xz hq1 cq1 fq1 zw
    replace X1:=X1.bl hz
    have Di:=Bt AJ hz
    clear AJ
    clear hz
    clear Gr zK qH zI zH wO
    have Tm:=iI;have Tk:=iH;clear iI iH uG uF
    go_wp2_with fail
    refine (DV.out _ _ _ NA.out NB.out).mono ?_
    rintro e Qo ⟨v,rfl,sQ,Jw⟩
    obtain ⟨bC,Jo,lC,JR,rfl⟩:=Jw.agg
    clear X1
    replace X2:=X2.bl sQ
    replace X3:=X3.bl sQ
    replace NA:=zh (NA.out.later sQ)
    replace NB:=zh (NB.out.later sQ)
    have au6:=Bt Di sQ
    clear Di
    have NC:=zh Jw
    clear sQ Jw
    go_wp2_with fail
    refine (TX.out _ _ NC.out).mono ?_
    rintro e aL3 ⟨rfl,zG⟩
    replace X2:=X2.bl zG
    replace X3:=X3.bl zG
    replace NA:=zh (NA.out.later zG)
    replace NB:=zh (NB.out.later zG)
    replace NC:=zh (NC.out.later zG)
    have aE5:=Bt au6 zG
    clear au6
    clear zG
    go_wp2_with fail
    go_ret
    exact ⟨rfl,aE5⟩
theorem ab3 {a:Fr} {b:Bool} (h:(rd a).isSome=b) (hf:Fits a) (W:World):Calls Tryz.prog 113 #[a.v] W (fun e w'=>e= .returned (.bool b)∧Below W.heap.size W w') :=
 h ▸ Right_ok a.n a.d W hf.1 hf.2
theorem QM {s t:ByteArray} {q:Rat} (h:rd ⟨s,t⟩=some q):whole s.data.toList=some q.num∧whole t.data.toList=some (q.den:Int):=by
 unfold rd at h
 split at h
 ·rename_i n d e1 e2
  split at h
  ·rename_i hk
   simp only [Option.some.injEq] at h
   subst h
   refine ⟨e1,e2.trans ?_⟩
   congr 1
   have:=hk.1
   show d=((d.natAbs:Nat):Int)
   omega
  ·cases h
 ·cases h
theorem Ai (s t:ByteArray) (q:Rat) (w:World) (h:rd ⟨s,t⟩=some q):Calls Tryz.prog 132 #[.agg #[.string s,.string t]] w (pz w q):=by
 obtain ⟨e1,e2⟩:=QM h
 have I1:=zh (fun W=>aC.Ai s q.num W e1)
 have I2:=zh (fun W=>aC.Ai t (q.den:Int) W e2)
 clear h e1 e2
 go_enter Tryz.func132,Tryz.ntmps132
 go_wp2_with fail
 obtain ⟨gP,EW,hz,X1,X2⟩:=al2 w #[.string s,.string t] 59 #[.bool false,.slice none 0 0,.bool false,.slice none 0 0] 123
 rw [EW]
 have hk2:=Bt (Below.refl _ _) hz
 clear EW hz
 obtain ⟨jm,ji,jl⟩:=X1.clf
 refine aD [(.pure,0),(.read,1),(.pure,3),(.read,4),(.ext,2),(.ext,5),(.pure,6),(.fin,7)] zk zk zR zP ?_
 repeat (first|(refine au rfl rfl fun J h=>?_;go_simp;refine h _ ?_;clear h J)|(refine aF rfl rfl rfl rfl fun J h=>?_;go_simp;refine h _ ?_;clear h J;try go_simp))
 refine aG rfl rfl (fun Fb hb3 J hJ=>?_);go_simp
 have hh3:Below gP.heap.size gP Fb:=belA
 clear hb3
 refine (I1.out _).mono ?_
 rintro e xK ⟨v,rfl,hb4,hv5⟩
 obtain ⟨bA,nJ,lA,nQ,rfl⟩:=hv5.agg
 refine hJ _ _ hb4 ?_
 clear hJ J
 have wP:=Bt hh3 hb4
 have NA:=zh hv5
 clear hh3 hb4 hv5
 repeat (first|(refine au rfl rfl fun J h=>?_;go_simp;refine h _ ?_;clear h J)|(refine aF rfl rfl rfl rfl fun J h=>?_;go_simp;refine h _ ?_;clear h J;try go_simp))
 refine aG rfl rfl (fun wF hb6 J hJ=>?_);go_simp
 have jY:Below gP.heap.size gP wF:=Bt wP belA
 replace NA:=zh (NA.out.later (show Below xK.heap.size xK wF from belA))
 clear hb6 wP
 refine (I2.out _).mono ?_
 rintro e nH ⟨v,rfl,iA,nM⟩
 obtain ⟨bB,pI,lB,pJ,rfl⟩:=nM.agg
 refine hJ _ _ iA ?_
 clear hJ J
 have uH:=Bt jY iA
 replace NA:=zh (NA.out.later iA)
 have NB:=zh nM
 clear jY iA nM
 repeat (first|(refine au rfl rfl fun J h=>?_;go_simp;refine h _ ?_;clear h J)|(refine aF rfl rfl rfl rfl fun J h=>?_;go_simp;refine h _ ?_;clear h J;try go_simp))
 refine aN [_] rfl (fun Aq PV=>?_)
 replace NA:=zh (NA.out.later (show Below nH.heap.size nH Aq from belA))
 replace NB:=zh (NB.out.later (show Below nH.heap.size nH Aq from belA))
 have jB:Below gP.heap.size gP Aq:=Bt uH belA
 clear PV uH
 clear jm ji jl
 replace X1:=X1.bl jB
 replace X2:=X2.bl jB
 have hk10:=Bt hk2 jB
 clear hk2
 clear jB
 obtain ⟨oG,om,oz⟩:=X2.clf
 have hres:=X2.out
 have vW:=hres.cell
 have vS:=hres.free
 go_wp2_with fail
 refine dO rfl rfl boxA Tryz.underlying123 rfl zk ?_
 exact ⟨_,rfl,belA,_,_,_,_,_,_,_,_,rfl,Pl.sI NA.out hres zd _ _ _ _,Pl.sI NB.out hres zd _ _ _ _⟩
theorem VQ {k:Nat} {p q:Rat} (h:qW k p) (i:qW k q):qW (2*k+1) (p - q):=by
 rw [Rat.sub_eq_add_neg]
 exact Ck h (VR i)
theorem az2 {a:Fr} {q:Rat} (h:rd a=some q) (W:World):Calls Tryz.prog 132 #[a.v] W (pz W q):=Ai a.n a.d q W h
--for F=Add|Sub|Mul;G=aH8|aB5|aC5;P=xW|UY|mI;O=p+q|p - q|p*q;S=(Ck hp hq).mono zo|(VQ hp hq).mono zo|(VT hp hq).mono zo
end Go.Proofs.aL
namespace Go.Proofs.aC
open Go Go.RowKit Go.SW Go.Num Go.Mem Go.Proofs Go.Dec
def Words (w:World) (v:Value):Prop:=∃ (a:Option Addr) (n cap:Nat) (U:Nat→Int),v= .slice a n cap∧n≤9223372036854775807∧∀ k,k<n→∃ b off,a=some ⟨b,off,none⟩∧b<w.heap.size∧w.cell? ⟨b,off+k,none⟩=some (.int .u16 (U k))∧0≤U k∧U k≤65535
theorem Words.later {w w':World} {v:Value} (h:Words w v) (hb:Below w.heap.size w w'):Words w' v:=by
 obtain ⟨a,n,cap,U,rfl,hn,h⟩:=h
 refine ⟨a,n,cap,U,rfl,hn,fun k hk=>?_⟩
 obtain ⟨b,off,rfl,h1,h2,h3⟩:=h k hk
 exact ⟨b,off,rfl,Nat.lt_of_lt_of_le h1 hb.size,(hb.cell (p:=⟨b,off+k,none⟩) h1).trans h2,h3⟩
def rJ (U:Nat→Int):Nat→Int
 | 0=>0
 | k+1=>rJ U k*1000+(U k).tmod 1000
theorem Im (f:Bool) (v:Value) (z:Int) (w:World) (h:Words w v):∃ m:Int,(-999999≤m∧m≤999999)∧∀ W,Below w.heap.size w W →
  Calls Tryz.prog 165 #[.agg #[.bool f,v,.int .u16 z]] W (fun e w'=>e= .returned (.int .i64 m)∧Below W.heap.size W w'):=by
 have W0:∀ z:Int, -1000000000≤z∧z≤1000000000→IntKind.i64.wrap z=z:=fun z h=>by unfold IntKind.wrap;simp [IntKind.bits,IntKind.signed];split<;>omega
 obtain ⟨a,n,cap,U,rfl,hn,hread⟩:=h
 have R0:∀ k,k<n→0≤(U k).tmod 1000∧(U k).tmod 1000≤999:=fun k hk=>by
  obtain ⟨_,_,_,_,_,h0,_⟩:=hread k hk
  rw [Int.tmod_eq_emod_of_nonneg h0]
  omega
 have T0:∀ k,k≤n→k≤2→0≤rJ U k∧rJ U k<1000^k:=fun k hk h2=>by
  rcases (by omega:k=0∨k=1∨k=2) with rfl|rfl|rfl
  ·simp [rJ]
  ·have:=R0 0 zo
   simp [rJ]
   omega
  ·have:=R0 0 zo
   have:=R0 1 zo
   simp [rJ]
   omega
 have T1:∀ k,k≤n→k≤2→0≤rJ U k∧rJ U k≤999999:=fun k hk h2=>by
  have:=T0 k hk h2
  rcases (by omega:k=0∨k=1∨k=2) with rfl|rfl|rfl<;>omega
 have TM:=T1 (min n 2) zo zo
 refine ⟨if f then -rJ U (min n 2) else rJ U (min n 2),by split<;>omega,fun W hW=>?_⟩
 have H:Hid (∀ k,k<n→∃ b off,a=some ⟨b,off,none⟩∧b<W.heap.size∧W.cell? ⟨b,off+k,none⟩=some (.int .u16 (U k))∧0≤U k∧U k≤65535):=zh fun k hk=>by
  obtain ⟨b,off,rfl,h1,h2,h3⟩:=hread k hk
  exact ⟨b,off,rfl,Nat.lt_of_lt_of_le h1 hW.size,(hW.cell (p:=⟨b,off+k,none⟩) h1).trans h2,h3⟩
 have HW:=zh W0
 have HR:=zh R0
 have HT:=zh T1
 have HS:Hid (∀ k,rJ U (k+1)=rJ U k*1000+(U k).tmod 1000):=zh fun k=>rfl
 have H0:Hid (rJ U 0=0):=zh rfl
 obtain ⟨mv,Emv⟩:∃ y,Hid ((if f=true then -rJ U (min n 2) else rJ U (min n 2))=y):=⟨_,zh rfl⟩
 rw [Emv.out]
 clear hread W0 R0 T0 T1 TM hW w
 generalize rJ U=F at *
 go_enter Tryz.func165,Tryz.ntmps165
 go_wp2_with fail
 go_loopw [3,4] (fun tv iv wr=>∃ k:Nat,iv= .int .i64 (k:Int)∧tv= .int .i64 (F k)∧k≤n∧k≤2∧Below W.heap.size W wr∧ah wr W.heap.size #[.bool f,.slice a n cap,.int .u16 z] 185) (fun _ iv _=>2 - (intOf iv).toNat)
 case atStart=>exact ⟨0,rfl,by rw [H0.out],by omega,by omega,belA,boxA⟩
 case round =>
  obtain ⟨k,rfl,rfl,hkn,hk2,hb,hB⟩:=hrel
  have cB:=hB.cell
  have lB:=hB.lt
  have ht:=HT.out k hkn hk2
  by_cases hex:k<n∧k<2
  ·obtain ⟨h1,h2⟩:=hex
   obtain ⟨b,off,rfl,lb,cx,u0,u1⟩:=H.out k h1
   have cx':=(hb.cell (p:=⟨b,off+k,none⟩) lb).trans cx
   have g1:decide ((k:Int)<(n:Int))=true:=by simp;omega
   have g2:decide ((k:Int)<2)=true:=by simp;omega
   have hr:=HR.out k h1
   have HSk:=zh (HS.out k)
   obtain ⟨r,Er⟩:∃ r,(U k).tmod 1000=r:=⟨_,rfl⟩
   rw [Er] at hr HSk
   obtain ⟨t,Et⟩:∃ t,F k=t:=⟨_,rfl⟩
   rw [Et] at ht HSk ⊢
   have t2:t≤999999:=ht.2
   have w1:IntKind.u16.wrap r=r:=by unfold IntKind.wrap;simp [IntKind.bits,IntKind.signed];omega
   have w2:=HW.out r zo
   have w3:=HW.out (t*1000) zo
   have w4:=HW.out (t*1000+r) zo
   clear cx lb
   go_wp2_with fail
   go_roundw
   case rel=>exact ⟨k+1,by go_num,by rw [HSk.out],by omega,by omega,hb,hB⟩
   case measure=>exact zM
  ·have hkm:k=min n 2:=by omega
   have SN:=HW.out (-F k) zo
   have HM:Hid (mv=if f=true then -F k else F k):=zh (by rw [← Emv.out,hkm])
   obtain ⟨t,Et⟩:∃ t,F k=t:=⟨_,rfl⟩
   rw [Et] at SN HM ⊢
   clear ht Et Emv hkm
   rcases (by omega:k=n∨(k=2∧2<n)) with rfl|⟨rfl,h3⟩
   ·cases f
    ·go_wp2_with fail
     go_ret
     exact ⟨by rw [HM.out];rfl,hb⟩
    ·go_wp2_with fail
     go_ret
     exact ⟨by rw [HM.out];rfl,hb⟩
   ·have g1:decide ((2:Int)<(n:Int))=true:=by simp;omega
    cases f
    ·go_wp2_with fail
     go_ret
     exact ⟨by rw [HM.out];rfl,hb⟩
    ·go_wp2_with fail
     go_ret
     exact ⟨by rw [HM.out];rfl,hb⟩
end Go.Proofs.aC
namespace Go.Proofs.aL
open Go Go.RowKit Go.SW Go.Num Go.Mem Go.Proofs Go.Dec Go.Proofs.aC Go.dF
theorem VY {n d:Int} (h1: -999≤n∧n≤999) (h2:1≤d∧d≤60):iU ((n:Rat) / (d:Rat))=true:=by
 obtain ⟨l1,l2⟩:=CX (n:=n) (d:=d) zo
 have h3:2000<iC 600:=by
  unfold iC
  have:=Nat.pow_le_pow_right (n:=10) zo (show 4≤600 by omega)
  omega
 unfold iU CQ
 rw [Bool.and_eq_true]
 exact ⟨decide_eq_true zo,decide_eq_true zo⟩
theorem UR (f1 f2:Bool) (v1 v2:Value) (z1 z2:Int) (w0:World) (h1:Words w0 v1) (h2:Words w0 v2):∃ q:Rat,(iU q=true∧q.num.natAbs≤999∧q.den≤60)∧∀ w,Below w0.heap.size w0 w →
  Calls Tryz.prog 111 #[.agg #[.bool f1,v1,.int .u16 z1,.bool f2,v2,.int .u16 z2]] w (fun e w'=>e= .returned (Fr.of q).v∧Below w.heap.size w w'):=by
 have W0:∀ z:Int, -1000000000≤z∧z≤1000000000→IntKind.i64.wrap z=z:=fun z h=>by unfold IntKind.wrap;simp [IntKind.bits,IntKind.signed];split<;>omega
 obtain ⟨n,hn,A1⟩:=Im f1 v1 z1 w0 h1
 obtain ⟨m,hm,A2⟩:=Im f2 v2 z2 w0 h2
 obtain ⟨a1,n1,c1,U1,rfl, -⟩:=h1
 obtain ⟨a2,n2,c2,U2,rfl, -⟩:=h2
 obtain ⟨t,Et⟩:∃ t,n.tmod 1000=t:=⟨_,rfl⟩
 obtain ⟨r,Er⟩:∃ r,(if m<0 then -m else m).tmod 60=r:=⟨_,rfl⟩
 have e1:=Int.tmod_lt_of_pos n (show (0:Int)<1000 by omega)
 have e2:=Int.lt_tmod_of_pos n (show (0:Int)<1000 by omega)
 have e3:=Int.tmod_eq_emod_of_nonneg (b:=60) (show 0≤(if m<0 then -m else m) by split<;>omega)
 rw [Et] at e1 e2
 rw [Er] at e3
 have r0:0≤r∧r≤59:=by rw [e3];omega
 have wt:=W0 t zo
 have wr':=W0 r zo
 have wr1:=W0 (1+r) zo
 have wm:=W0 (-m) zo
 have hq:=VY (n:=t) (d:=1+r) zo zo
 have hbd:=CX (n:=t) (d:=1+r) zo
 refine ⟨(t:Rat) / ((1+r:Int):Rat),⟨hq,by omega,by omega⟩,fun w hW=>?_⟩
 clear hbd
 have H1:=zh (fun W (h:Below w.heap.size w W)=>A1 W (Bt hW h))
 have H2:=zh (fun W (h:Below w.heap.size w W)=>A2 W (Bt hW h))
 have H3:=zh (fun W=>UW t (1+r) zo zo zo zo zo W)
 obtain ⟨l1,l2⟩:=CX (n:=t) (d:=1+r) zo
 have H4:=zh (fun x W hx=>Dv x ((t:Rat) / ((1+r:Int):Rat)) W hx (Nat.le_trans (fJ zo l1) (Nat.le_trans (Cm zo zo) zo)) (Nat.le_trans (fJ zo l2) (Nat.le_trans (Cm zo zo) zo)))
 clear A1 A2 hW l1 l2 W0
 generalize (t:Rat) / ((1+r:Int):Rat)=q at *
 have E:wr q=(Fr.of q,0):=by unfold wr;rw [if_pos hq]
 rw [E] at H4
 obtain ⟨⟨s1,s2⟩,EQ⟩:∃ y,Fr.of q=y:=⟨_,rfl⟩
 rw [EQ] at H4 ⊢
 replace H4:Hid (∀ x W,Ra W x q→Calls Tryz.prog 75 #[x] W (fun e w'=>e= .returned (.tuple #[.agg #[.string s1,.string s2],.int .i64 0])∧Below W.heap.size W w')):=H4
 unfold Fr.v
 clear E EQ hq e1 e2 e3 hn hm
 by_cases hm0:m<0
 ·rw [if_pos hm0] at Er
  go_enter Tryz.func111,Tryz.ntmps111
  go_wp2_with fail
  obtain ⟨gP,EW,hz,X1,X2⟩:=al2 w #[.bool f1,.slice a1 n1 c1,.int .u16 z1,.bool f2,.slice a2 n2 c2,.int .u16 z2] 187 #[.string ⟨#[]⟩,.string ⟨#[]⟩] 59
  rw [EW]
  have hk2:=Bt (Below.refl _ _) hz
  clear EW hz
  refine (H2.out _ hk2).mono ?_
  rintro e pQ ⟨rfl,hb3⟩
  replace X1:=X1.bl hb3
  replace X2:=X2.bl hb3
  have hk5:=Bt hk2 hb3
  clear hk2
  clear hb3
  obtain ⟨jm,ji,jl⟩:=X1.clf
  go_wp2_with fail
  clear jm ji jl
  refine (H1.out _ hk5).mono ?_
  rintro e rH ⟨rfl,hb6⟩
  replace X1:=X1.bl hb6
  replace X2:=X2.bl hb6
  have AJ:=Bt hk5 hb6
  clear hk5
  clear hb6
  go_wp2_with fail
  refine (H3.out _).mono ?_
  rintro e wc9 ⟨vq,rfl,ou,hq⟩
  replace X1:=X1.bl ou
  replace X2:=X2.bl ou
  have Dj:=Bt AJ ou
  clear AJ
  have NQ:=zh hq
  clear ou hq
  go_wp2_with fail
  refine (H4.out _ _ NQ.out).mono ?_
  rintro e VK ⟨rfl,jk⟩
  replace X1:=X1.bl jk
  replace X2:=X2.bl jk
  replace NQ:=zh (NQ.out.later jk)
  have Xn:=Bt Dj jk
  clear Dj
  clear jk
  obtain ⟨oG,om,oz⟩:=X2.clf
  have hres:=X2.out
  have vW:=hres.cell
  have vS:=hres.free
  go_wp2_with fail
  refine dO rfl rfl boxA Tryz.underlying59 rfl zk ?_
  exact ⟨rfl,belA⟩
 ·rw [if_neg hm0] at Er
  go_enter Tryz.func111,Tryz.ntmps111
  go_wp2_with fail
  obtain ⟨gP,EW,hz,X1,X2⟩:=al2 w #[.bool f1,.slice a1 n1 c1,.int .u16 z1,.bool f2,.slice a2 n2 c2,.int .u16 z2] 187 #[.string ⟨#[]⟩,.string ⟨#[]⟩] 59
  rw [EW]
  have hk2:=Bt (Below.refl _ _) hz
  clear EW hz
  refine (H2.out _ hk2).mono ?_
  rintro e pQ ⟨rfl,hb3⟩
  replace X1:=X1.bl hb3
  replace X2:=X2.bl hb3
  have hk5:=Bt hk2 hb3
  clear hk2
  clear hb3
  obtain ⟨jm,ji,jl⟩:=X1.clf
  go_wp2_with fail
  clear jm ji jl
  refine (H1.out _ hk5).mono ?_
  rintro e rH ⟨rfl,hb6⟩
  replace X1:=X1.bl hb6
  replace X2:=X2.bl hb6
  have AJ:=Bt hk5 hb6
  clear hk5
  clear hb6
  go_wp2_with fail
  refine (H3.out _).mono ?_
  rintro e wc9 ⟨vq,rfl,ou,hq⟩
  replace X1:=X1.bl ou
  replace X2:=X2.bl ou
  have Dj:=Bt AJ ou
  clear AJ
  have NQ:=zh hq
  clear ou hq
  go_wp2_with fail
  refine (H4.out _ _ NQ.out).mono ?_
  rintro e VK ⟨rfl,jk⟩
  replace X1:=X1.bl jk
  replace X2:=X2.bl jk
  replace NQ:=zh (NQ.out.later jk)
  have Xn:=Bt Dj jk
  clear Dj
  clear jk
  obtain ⟨oG,om,oz⟩:=X2.clf
  have hres:=X2.out
  have vW:=hres.cell
  have vS:=hres.free
  go_wp2_with fail
  refine dO rfl rfl boxA Tryz.underlying59 rfl zk ?_
  exact ⟨rfl,belA⟩
end Go.Proofs.aL
