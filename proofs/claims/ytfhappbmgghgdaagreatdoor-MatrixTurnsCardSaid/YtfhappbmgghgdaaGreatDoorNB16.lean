/- Lemmas for the proof. No condition. -/
import Derived.Test.YtfhappbmgghgdaaGreatDoorNB01
import Derived.Test.YtfhappbmgghgdaaGreatDoorNB02
import Derived.Test.YtfhappbmgghgdaaGreatDoorNB15
import Derived.Laws.StructEq
set_option linter.unusedVariables false
set_option linter.unusedSimpArgs false
set_option maxRecDepth 100000
set_option maxHeartbeats 16000000
namespace Go.Proofs.verdigrisref02
open Go Go.RowKit Go.SW Go.Num Go.Mem Go.Proofs Go.Dec Go.Proofs.verdigrisref01 Go.Fra
theorem outV_cases (z:Int):∃ (s:ByteArray) (k:Int),outV z= .tuple #[.string s,.int .i64 k]∧((okn z.natAbs=true∧k=0∧s=⟨(Lib.itoa z).toArray⟩)∨(okn z.natAbs=false∧k=6)):=by
 unfold outV
 by_cases h:okn z.natAbs=true
 ·rw [if_pos h]
  exact ⟨_,_,rfl,.inl ⟨h,rfl,rfl⟩⟩
 ·rw [if_neg h]
  exact ⟨_,_,rfl,.inr ⟨by simpa using h,rfl⟩⟩
def FrPost (w:World) (x:Fr × Int) (e:Ending) (w':World):Prop:=e= .returned (Fr.res x)∧Below w.heap.size w w'
theorem Out_ok (x:Value) (q:Rat) (w:World) (hx:Ra w x q) (h1:sz 10000 q.num.natAbs≤1073741824) (h2:sz 10000 q.den≤1073741824) :
  Calls Tryz.prog 75 #[x] w (FrPost w (wr q)):=by
 obtain ⟨bn,pn,ln,cn,bd,pd,ld,cd,rfl,NN,ND⟩:=hx
 obtain ⟨s1,k1,e1,c1⟩:=outV_cases q.num
 obtain ⟨s2,k2,e2,c2⟩:=outV_cases (q.den:Int)
 have H1:=zh (fun W (hb:Below w.heap.size w W)=>verdigrisref01.Out_ok _ q.num W (NN.later hb) h1)
 have H2:=zh (fun W (hb:Below w.heap.size w W)=>verdigrisref01.Out_ok _ (q.den:Int) W (ND.later hb) (by simpa using h2))
 rw [e1] at H1
 rw [e2] at H2
 have hw:wr q=if k1=0∧k2=0 then (⟨s1,s2⟩,0) else (Fr.no,6):=by
  unfold wr okq
  rw [Int.natAbs_natCast] at c2
  rcases c1 with ⟨a1,a2,a3⟩|⟨a1,a2⟩<;>rcases c2 with ⟨b1,b2,b3⟩|⟨b1,b2⟩<;>subst a2<;>subst b2<;>rw [a1,b1]
  ·subst a3
   subst b3
   rfl
  ·rfl
  ·rfl
  ·rfl
 rw [hw]
 have d1:k1=0∨k1=6:=c1.elim (fun h=>.inl h.2.1) (fun h=>.inr h.2)
 have d2:k2=0∨k2=6:=c2.elim (fun h=>.inl h.2.1) (fun h=>.inr h.2)
 clear hw e1 e2 c1 c2 h1 h2 NN ND
 rcases d1 with rfl|rfl<;>rcases d2 with rfl|rfl
 ·rw [if_pos ⟨rfl,rfl⟩]
  go_enter Tryz.func75,Tryz.ntmps75
  go_wp2_with fail
  obtain ⟨wq1,EW,hz,X1,X2⟩:=al2 w #[.bool bn,.slice pn ln cn,.bool bd,.slice pd ld cd] 123 #[.string ⟨#[]⟩,.string ⟨#[]⟩] 59
  rw [EW]
  have hk2:=Bt (Below.refl _ _) hz
  clear EW hz
  refine (H1.out _ hk2).mono ?_
  rintro e wc3 ⟨rfl,hb3⟩
  replace X1:=X1.bl hb3
  replace X2:=X2.bl hb3
  have hk5:=Bt hk2 hb3
  clear hk2
  clear hb3
  obtain ⟨cX1,lX1,fX1⟩:=X1.clf
  go_wp2_with fail
  clear cX1 lX1 fX1
  refine (H2.out _ hk5).mono ?_
  rintro e wc6 ⟨rfl,hb6⟩
  replace X1:=X1.bl hb6
  replace X2:=X2.bl hb6
  have hk8:=Bt hk5 hb6
  clear hk5
  clear hb6
  obtain ⟨cX2,lX2,fX2⟩:=X2.clf
  have hres:=X2.out
  have cres:=hres.cell
  have fres:=hres.free
  go_wp2_with fail
  refine ret_ct rfl rfl boxA Tryz.underlying59 rfl zk ?_
  exact ⟨rfl,belA⟩
 ·rw [if_neg zo]
  go_enter Tryz.func75,Tryz.ntmps75
  go_wp2_with fail
  obtain ⟨wq1,EW,hz,X1,X2⟩:=al2 w #[.bool bn,.slice pn ln cn,.bool bd,.slice pd ld cd] 123 #[.string ⟨#[]⟩,.string ⟨#[]⟩] 59
  rw [EW]
  have hk2:=Bt (Below.refl _ _) hz
  clear EW hz
  refine (H1.out _ hk2).mono ?_
  rintro e wc3 ⟨rfl,hb3⟩
  replace X1:=X1.bl hb3
  replace X2:=X2.bl hb3
  have hk5:=Bt hk2 hb3
  clear hk2
  clear hb3
  obtain ⟨cX1,lX1,fX1⟩:=X1.clf
  go_wp2_with fail
  clear cX1 lX1 fX1
  refine (H2.out _ hk5).mono ?_
  rintro e wc6 ⟨rfl,hb6⟩
  replace X1:=X1.bl hb6
  replace X2:=X2.bl hb6
  have hk8:=Bt hk5 hb6
  clear hk5
  clear hb6
  obtain ⟨cX2,lX2,fX2⟩:=X2.clf
  have hres:=X2.out
  have cres:=hres.cell
  have fres:=hres.free
  go_wp2_with fail
  refine ret_ct rfl rfl boxA Tryz.underlying59 rfl zk ?_
  exact ⟨rfl,belA⟩
 ·rw [if_neg zo]
  go_enter Tryz.func75,Tryz.ntmps75
  go_wp2_with fail
  obtain ⟨wq1,EW,hz,X1,X2⟩:=al2 w #[.bool bn,.slice pn ln cn,.bool bd,.slice pd ld cd] 123 #[.string ⟨#[]⟩,.string ⟨#[]⟩] 59
  rw [EW]
  have hk2:=Bt (Below.refl _ _) hz
  clear EW hz
  refine (H1.out _ hk2).mono ?_
  rintro e wc3 ⟨rfl,hb3⟩
  replace X1:=X1.bl hb3
  replace X2:=X2.bl hb3
  have hk5:=Bt hk2 hb3
  clear hk2
  clear hb3
  obtain ⟨cX1,lX1,fX1⟩:=X1.clf
  go_wp2_with fail
  clear cX1 lX1 fX1
  refine (H2.out _ hk5).mono ?_
  rintro e wc6 ⟨rfl,hb6⟩
  replace X1:=X1.bl hb6
  replace X2:=X2.bl hb6
  have hk8:=Bt hk5 hb6
  clear hk5
  clear hb6
  obtain ⟨cX2,lX2,fX2⟩:=X2.clf
  have hres:=X2.out
  have cres:=hres.cell
  have fres:=hres.free
  go_wp2_with fail
  refine ret_ct rfl rfl boxA Tryz.underlying59 rfl zk ?_
  exact ⟨rfl,belA⟩
 ·rw [if_neg zo]
  go_enter Tryz.func75,Tryz.ntmps75
  go_wp2_with fail
  obtain ⟨wq1,EW,hz,X1,X2⟩:=al2 w #[.bool bn,.slice pn ln cn,.bool bd,.slice pd ld cd] 123 #[.string ⟨#[]⟩,.string ⟨#[]⟩] 59
  rw [EW]
  have hk2:=Bt (Below.refl _ _) hz
  clear EW hz
  refine (H1.out _ hk2).mono ?_
  rintro e wc3 ⟨rfl,hb3⟩
  replace X1:=X1.bl hb3
  replace X2:=X2.bl hb3
  have hk5:=Bt hk2 hb3
  clear hk2
  clear hb3
  obtain ⟨cX1,lX1,fX1⟩:=X1.clf
  go_wp2_with fail
  clear cX1 lX1 fX1
  refine (H2.out _ hk5).mono ?_
  rintro e wc6 ⟨rfl,hb6⟩
  replace X1:=X1.bl hb6
  replace X2:=X2.bl hb6
  have hk8:=Bt hk5 hb6
  clear hk5
  clear hb6
  obtain ⟨cX2,lX2,fX2⟩:=X2.clf
  have hres:=X2.out
  have cres:=hres.cell
  have fres:=hres.free
  go_wp2_with fail
  refine ret_ct rfl rfl boxA Tryz.underlying59 rfl zk ?_
  exact ⟨rfl,belA⟩
theorem low_le {n d:Int} (hd:d≠0):((n:Rat) / (d:Rat)).num.natAbs≤n.natAbs∧((n:Rat) / (d:Rat)).den≤d.natAbs:=by
 have key:∀ n d:Int,0<d→((n:Rat) / (d:Rat)).num.natAbs≤n.natAbs∧((n:Rat) / (d:Rat)).den≤d.natAbs:=fun n d hd=>by
  obtain ⟨e1,e2⟩:=low_parts (n:=n) hd
  have g1:=Nat.gcd_dvd_left n.natAbs d.natAbs
  have g2:=Nat.gcd_dvd_right n.natAbs d.natAbs
  have g0:0<Nat.gcd n.natAbs d.natAbs:=Nat.gcd_pos_of_pos_right _ zo
  generalize Nat.gcd n.natAbs d.natAbs=g at *
  generalize ((n:Rat) / (d:Rat))=q at *
  obtain ⟨a,ha⟩:=g1
  obtain ⟨b,hb⟩:=g2
  have h1:n=(g:Int)*(if 0≤n then (a:Int) else -(a:Int)):=by
   have:=congrArg (fun x:Nat=>(x:Int)) ha
   simp only [Int.natCast_mul] at this
   split
   ·omega
   ·rw [Int.mul_neg];omega
  have h2:d=(g:Int)*(b:Int):=by
   have:=congrArg (fun x:Nat=>(x:Int)) hb
   simp only [Int.natCast_mul] at this
   omega
  have h3:n / (g:Int)=(if 0≤n then (a:Int) else -(a:Int)):=by
   conv=>lhs;rw [h1]
   exact Int.mul_ediv_cancel_left _ zo
  have h4:d / (g:Int)=(b:Int):=by
   rw [h2]
   exact Int.mul_ediv_cancel_left _ zo
  rw [h3] at e1
  rw [h4] at e2
  have k1:a≤g*a:=Nat.le_mul_of_pos_left _ g0
  have k2:b≤g*b:=Nat.le_mul_of_pos_left _ g0
  refine ⟨?_,?_⟩
  ·rw [e1,ha]
   split<;>simp<;>exact k1
  ·rw [hb]
   have:q.den=b:=by exact_mod_cast e2
   omega
 by_cases h:0<d
 ·exact key n d h
 ·have:=key (-n) (-d) zo
  rw [show ((-n:Int):Rat) / ((-d:Int):Rat)=(n:Rat) / (d:Rat) by rw [Rat.intCast_neg,Rat.intCast_neg,Rat.div_def,Rat.div_def];grind,Int.natAbs_neg,Int.natAbs_neg] at this
  exact this
theorem sz_i64 {n:Int} (h1: -9223372036854775808≤n) (h2:n≤9223372036854775807):sz 10000 n.natAbs≤5 :=
 sz_le_of_lt zo 5 _ zo
theorem Quick_ok (n d:Int) (h1: -9223372036854775808≤n) (h2:n≤9223372036854775807) (h3: -9223372036854775808≤d) (h4:d≤9223372036854775807) (hd:d≠0) (w:World) :
  Calls Tryz.prog 127 #[.int .i64 n,.int .i64 d] w (RaPost w ((n:Rat) / (d:Rat))):=by
 have H1:=zh (fun W=>Integer_ok n W h1 h2)
 have H2:=zh (fun W=>Integer_ok d W h3 h4)
 have H3:=zh (fun x y W hx hy=>Lowest_ok x y n d W hx hy (Nat.le_trans (sz_i64 h1 h2) zo) (Nat.le_trans (sz_i64 h3 h4) zo) hd)
 generalize (n:Rat) / (d:Rat)=q at *
 clear h1 h2 h3 h4 hd
 go_enter Tryz.func127,Tryz.ntmps127
 go_wp2_with fail
 obtain ⟨wq1,EW,hz,X1⟩:=al1 w #[.bool false,.slice none 0 0,.bool false,.slice none 0 0] 123
 rw [EW]
 have hk2:=Bt (Below.refl _ _) hz
 clear EW hz
 refine (H1.out _).mono ?_
 rintro e wc3 ⟨v,rfl,hb3,hv4⟩
 obtain ⟨bA,paA,lA,caA,rfl⟩:=hv4.agg
 replace X1:=X1.bl hb3
 have hk5:=Bt hk2 hb3
 clear hk2
 have NA:=zh hv4
 clear hb3 hv4
 go_wp2_with fail
 refine (H2.out _).mono ?_
 rintro e wc6 ⟨v,rfl,hb6,hv7⟩
 obtain ⟨bB,paB,lB,caB,rfl⟩:=hv7.agg
 replace X1:=X1.bl hb6
 replace NA:=zh (NA.out.later hb6)
 have hk8:=Bt hk5 hb6
 clear hk5
 have NB:=zh hv7
 clear hb6 hv7
 go_wp2_with fail
 refine (H3.out _ _ _ NA.out NB.out).mono ?_
 rintro e wc9 ⟨_,rfl,hb9,bn,pn,ln,cn,bd,pd,ld,cd,rfl,hn,hd⟩
 replace X1:=X1.bl hb9
 replace NA:=zh (NA.out.later hb9)
 replace NB:=zh (NB.out.later hb9)
 have hk11:=Bt hk8 hb9
 clear hk8
 have NX:=zh hn
 have NY:=zh hd
 clear hb9 hd hn
 obtain ⟨cX1,lX1,fX1⟩:=X1.clf
 have hres:=X1.out
 have cres:=hres.cell
 have fres:=hres.free
 go_wp2_with fail
 refine ret_c rfl rfl boxA Tryz.underlying123 rfl zk ?_
 have hx:=Pl.set4 NX.out hres zd (.bool bn) (.slice pn ln cn) (.bool bd) (.slice pd ld cd)
 have hy:=Pl.set4 NY.out hres zd (.bool bn) (.slice pn ln cn) (.bool bd) (.slice pd ld cd)
 exact ⟨_,rfl,belA,_,_,_,_,_,_,_,_,rfl,hx,hy⟩
theorem sz4_of {n k:Nat} (h:sz 1000000000 n≤k):sz 10000 n≤3*k:=by
 refine sz_le_of_lt zo _ _ ?_
 have h1:=lt_pow_sz (B:=1000000000) zo n
 have h2:(1000000000:Nat)^sz 1000000000 n≤1000000000^k:=Nat.pow_le_pow_right zo h
 have h3:(1000000000:Nat)^k≤(10000^3)^k:=Nat.pow_le_pow_left zd k
 rw [Nat.pow_mul]
 omega
theorem q_parts (q:Rat):q=(q.num:Rat) / ((q.den:Int):Rat):=by
 have:=Rat.mkRat_self q
 rw [Rat.mkRat_eq_div] at this
 exact this.symm
theorem q_den (q:Rat):((q.den:Int):Rat)≠0:=fun e=>by
 have h:(q.den:Int)=0:=by exact_mod_cast e
 have:=q.den_pos
 omega
theorem times_q (p q:Rat):((p.num*q.num:Int):Rat) / (((p.den:Int)*(q.den:Int):Int):Rat)=p*q:=by
 have h1:=q_parts p
 have h2:=q_parts q
 have d1:=q_den p
 have d2:=q_den q
 rw [Rat.intCast_mul,Rat.intCast_mul]
 generalize (p.num:Rat)=a at *
 generalize ((p.den:Int):Rat)=b at *
 generalize (q.num:Rat)=c at *
 generalize ((q.den:Int):Rat)=d at *
 subst h1 h2
 grind
theorem plus_q (p q:Rat):((p.num*(q.den:Int)+q.num*(p.den:Int):Int):Rat) / (((p.den:Int)*(q.den:Int):Int):Rat)=p+q:=by
 have h1:=q_parts p
 have h2:=q_parts q
 have d1:=q_den p
 have d2:=q_den q
 rw [Rat.intCast_add,Rat.intCast_mul,Rat.intCast_mul,Rat.intCast_mul]
 generalize (p.num:Rat)=a at *
 generalize ((p.den:Int):Rat)=b at *
 generalize (q.num:Rat)=c at *
 generalize ((q.den:Int):Rat)=d at *
 subst h1 h2
 grind
theorem szq.four {k:Nat} {q:Rat} (h:szq k q):sz 10000 q.num.natAbs≤3*k∧sz 10000 (q.den:Int).natAbs≤3*k:=⟨sz4_of h.1,by rw [Int.natAbs_natCast];exact sz4_of h.2⟩
theorem sz4_mul {a b:Int} {m n:Nat} (h:sz 10000 a.natAbs≤m) (k:sz 10000 b.natAbs≤n):sz 10000 (a*b).natAbs≤m+n:=by
 rw [Int.natAbs_mul]
 have:=sz_mul (B:=10000) zo a.natAbs b.natAbs
 omega
theorem sz4_add {a b:Int} {m:Nat} (h:sz 10000 a.natAbs≤m) (k:sz 10000 b.natAbs≤m):sz 10000 (a+b).natAbs≤m+1:=by
 have h1:=sz_mono (B:=10000) zo (Int.natAbs_add_le a b)
 have h2:=sz_add (B:=10000) zo a.natAbs b.natAbs
 omega
theorem Turn_ok (x:Value) (p:Rat) (w:World) (hx:Ra w x p):Calls Tryz.prog 82 #[x] w (RaPost w (-p)):=by
 obtain ⟨bA,paA,lA,caA,bAd,paAd,lAd,caAd,rfl,hA1,hA2⟩:=id hx
 have QA:=zh hx
 have NA:=zh hA1
 have NAd:=zh hA2
 obtain ⟨z,ez⟩:∃ z,p.num=z:=⟨_,rfl⟩
 obtain ⟨d,ed⟩:∃ d,p.den=d:=⟨_,rfl⟩
 have hq:∀ w v,Ra w v (-p)↔∃ bn pn ln cn bd pd ld cd,v= .agg #[.bool bn,.slice pn ln cn,.bool bd,.slice pd ld cd]∧Pl w (.agg #[.bool bn,.slice pn ln cn]) (-z)∧Pl w (.agg #[.bool bd,.slice pd ld cd]) d:=fun w v=>by
  unfold Ra
  rw [Rat.neg_num,Rat.neg_den,ez,ed]
 have HQ:=zh hq
 rw [ez] at NA
 rw [ed] at NAd
 clear hx hA1 hA2 ez ed hq
 go_enter Tryz.func82,Tryz.ntmps82
 go_wp2_with fail
 obtain ⟨wq1,EW,hz,X1,X2⟩:=al2 w #[.bool bA,.slice paA lA caA,.bool bAd,.slice paAd lAd caAd] 123 #[.bool false,.slice none 0 0,.bool false,.slice none 0 0] 123
 rw [EW]
 replace NA:=zh (NA.out.later hz)
 replace NAd:=zh (NAd.out.later hz)
 have hk2:=Bt (Below.refl _ _) hz
 clear EW hz
 obtain ⟨cX1,lX1,fX1⟩:=X1.clf
 refine wp_region_walk [(.pure,0),(.read,1),(.pure,3),(.read,4),(.ext,2),(.pure,5),(.fin,6)] zk zk zR zP ?_
 repeat (first|(refine walk_pure0 rfl rfl fun J h=>?_;go_simp;refine h _ ?_;clear h J)|(refine walk_load rfl rfl rfl rfl fun J h=>?_;go_simp;refine h _ ?_;clear h J;try go_simp))
 refine walk_ext rfl rfl (fun we3 hb3 J hJ=>?_);go_simp
 have hh3:Below wq1.heap.size wq1 we3:=belA
 clear hb3
 refine (verdigrisref01.Turn_ok _ _ _ (NA.out.later hh3)).mono ?_
 rintro e wc4 ⟨v,rfl,hb4,hv5⟩
 obtain ⟨bB,paB,lB,caB,rfl⟩:=hv5.agg
 refine hJ _ _ hb4 ?_
 clear hJ J
 have hh4:=Bt hh3 hb4
 have NB:=zh hv5
 clear hh3 hb4 hv5
 repeat (first|(refine walk_pure0 rfl rfl fun J h=>?_;go_simp;refine h _ ?_;clear h J)|(refine walk_load rfl rfl rfl rfl fun J h=>?_;go_simp;refine h _ ?_;clear h J;try go_simp))
 refine walk_fin [_] rfl (fun wf6 hf6=>?_)
 replace NB:=zh (NB.out.later (show Below wc4.heap.size wc4 wf6 from belA))
 have hh6:Below wq1.heap.size wq1 wf6:=Bt hh4 belA
 clear hf6 hh4
 clear cX1 lX1 fX1
 replace NA:=zh (NA.out.later hh6)
 replace NAd:=zh (NAd.out.later hh6)
 replace X1:=X1.bl hh6
 replace X2:=X2.bl hh6
 have hk7:=Bt hk2 hh6
 clear hk2
 clear hh6
 obtain ⟨cX2,lX2,fX2⟩:=X2.clf
 have hres:=X2.out
 have cres:=hres.cell
 have fres:=hres.free
 go_wp2_with fail
 refine ret_c rfl rfl boxA Tryz.underlying123 rfl zk ?_
 exact ⟨_,rfl,belA,(HQ.out _ _).2 ⟨_,_,_,_,_,_,_,_,rfl,Pl.set4 NB.out hres zd _ _ _ _,Pl.set4 NAd.out hres zd _ _ _ _⟩⟩
theorem Times_ok (x y:Value) (p q:Rat) (w:World) (hx:Ra w x p) (hy:Ra w y q) (h1:szq 10000000000 p) (h2:szq 10000000000 q):Calls Tryz.prog 129 #[x,y] w (RaPost w (p*q)):=by
 obtain ⟨bA,paA,lA,caA,bAd,paAd,lAd,caAd,rfl,hA1,hA2⟩:=id hx;obtain ⟨bB,paB,lB,caB,bBd,paBd,lBd,caBd,rfl,hB1,hB2⟩:=id hy;have QA:=zh hx;have NA:=zh hA1;have NAd:=zh hA2;have QB:=zh hy;have NB:=zh hB1;have NBd:=zh hB2
 obtain ⟨s1,s2⟩:=szq.four h1;obtain ⟨s3,s4⟩:=szq.four h2;have S1:Hid (sz 10000 p.num.natAbs≤549755813888):=zh zo;have S2:Hid (sz 10000 (p.den:Int).natAbs≤549755813888):=zh zo;have S3:Hid (sz 10000 q.num.natAbs≤549755813888):=zh zo;have S4:Hid (sz 10000 (q.den:Int).natAbs≤549755813888):=zh zo
 have L1:Hid (sz 10000 (p.num*q.num).natAbs≤274877906944):=zh (by have:=sz4_mul s1 s3;omega)
 have L2:Hid (sz 10000 ((p.den:Int)*(q.den:Int)).natAbs≤274877906944):=zh (by have:=sz4_mul s2 s4;omega)
 have L3:Hid ((p.den:Int)*(q.den:Int)≠0):=zh (Int.mul_ne_zero (by have:=p.den_pos;omega) (by have:=q.den_pos;omega))
 have HL:=zh (fun x y w hx hy=>Lowest_ok x y (p.num*q.num) ((p.den:Int)*(q.den:Int)) w hx hy L1.out L2.out L3.out)
 rw [times_q] at HL
 clear hx hy hA1 hA2 hB1 hB2 h1 h2 s1 s2 s3 s4 L1 L2 L3
 go_enter Tryz.func129,Tryz.ntmps129
 go_wp2_with fail
 obtain ⟨wq1,EW,hz,X1,X2,X3⟩:=al3 w #[.bool bA,.slice paA lA caA,.bool bAd,.slice paAd lAd caAd] 123 #[.bool bB,.slice paB lB caB,.bool bBd,.slice paBd lBd caBd] 123 #[.bool false,.slice none 0 0,.bool false,.slice none 0 0] 123
 rw [EW]
 replace NA:=zh (NA.out.later hz)
 replace NAd:=zh (NAd.out.later hz)
 replace NB:=zh (NB.out.later hz)
 replace NBd:=zh (NBd.out.later hz)
 have hk2:=Bt (Below.refl _ _) hz
 clear EW hz
 obtain ⟨cX1,lX1,fX1⟩:=X1.clf
 obtain ⟨cX2,lX2,fX2⟩:=X2.clf
 refine wp_region_walk [(.pure,0),(.read,1),(.pure,2),(.read,3),(.pure,5),(.read,6),(.pure,7),(.read,8),(.ext,4),(.ext,9),(.ext,10),(.fin,11)] zk zk zR zP ?_
 repeat (first|(refine walk_pure0 rfl rfl fun J h=>?_;go_simp;refine h _ ?_;clear h J)|(refine walk_load rfl rfl rfl rfl fun J h=>?_;go_simp;refine h _ ?_;clear h J;try go_simp))
 refine walk_ext rfl rfl (fun we3 hb3 J hJ=>?_);go_simp
 have hh3:Below wq1.heap.size wq1 we3:=belA
 clear hb3
 refine (verdigrisref01.Times_ok _ _ _ _ _ (NA.out.later hh3) (NB.out.later hh3) S1.out S3.out).mono ?_
 rintro e wc4 ⟨v,rfl,hb4,hv5⟩
 obtain ⟨bC,paC,lC,caC,rfl⟩:=hv5.agg
 refine hJ _ _ hb4 ?_
 clear hJ J
 have hh4:=Bt hh3 hb4
 have NC:=zh hv5
 clear hh3 hb4 hv5
 repeat (first|(refine walk_pure0 rfl rfl fun J h=>?_;go_simp;refine h _ ?_;clear h J)|(refine walk_load rfl rfl rfl rfl fun J h=>?_;go_simp;refine h _ ?_;clear h J;try go_simp))
 refine walk_ext rfl rfl (fun we6 hb6 J hJ=>?_);go_simp
 have hh6:Below wq1.heap.size wq1 we6:=Bt hh4 belA
 replace NC:=zh (NC.out.later (show Below wc4.heap.size wc4 we6 from belA))
 clear hb6 hh4
 refine (verdigrisref01.Times_ok _ _ _ _ _ (NAd.out.later hh6) (NBd.out.later hh6) S2.out S4.out).mono ?_
 rintro e wc7 ⟨v,rfl,hb7,hv8⟩
 obtain ⟨bD,paD,lD,caD,rfl⟩:=hv8.agg
 refine hJ _ _ hb7 ?_
 clear hJ J
 have hh7:=Bt hh6 hb7
 replace NC:=zh (NC.out.later hb7)
 have ND:=zh hv8
 clear hh6 hb7 hv8
 repeat (first|(refine walk_pure0 rfl rfl fun J h=>?_;go_simp;refine h _ ?_;clear h J)|(refine walk_load rfl rfl rfl rfl fun J h=>?_;go_simp;refine h _ ?_;clear h J;try go_simp))
 refine walk_ext rfl rfl (fun we9 hb9 J hJ=>?_);go_simp
 have hh9:Below wq1.heap.size wq1 we9:=Bt hh7 belA
 replace NC:=zh (NC.out.later (show Below wc7.heap.size wc7 we9 from belA))
 replace ND:=zh (ND.out.later (show Below wc7.heap.size wc7 we9 from belA))
 clear hb9 hh7
 refine (HL.out _ _ _ NC.out ND.out).mono ?_
 rintro e wc10 ⟨v,rfl,hb10,hv11⟩
 obtain ⟨bE,paE,lE,caE,bEd,paEd,lEd,caEd,rfl,hx11,hy11⟩:=id hv11
 refine hJ _ _ hb10 ?_
 clear hJ J
 have hh10:=Bt hh9 hb10
 replace NC:=zh (NC.out.later hb10)
 replace ND:=zh (ND.out.later hb10)
 have QE:=zh hv11
 clear hh9 hb10 hv11 hx11 hy11
 repeat (first|(refine walk_pure0 rfl rfl fun J h=>?_;go_simp;refine h _ ?_;clear h J)|(refine walk_load rfl rfl rfl rfl fun J h=>?_;go_simp;refine h _ ?_;clear h J;try go_simp))
 refine walk_fin [_] rfl (fun wf12 hf12=>?_)
 replace NC:=zh (NC.out.later (show Below wc10.heap.size wc10 wf12 from belA))
 replace ND:=zh (ND.out.later (show Below wc10.heap.size wc10 wf12 from belA))
 replace QE:=zh (QE.out.later (show Below wc10.heap.size wc10 wf12 from belA))
 have hh12:Below wq1.heap.size wq1 wf12:=Bt hh10 belA
 clear hf12 hh10
 clear cX1 lX1 fX1 cX2 lX2 fX2
 replace NA:=zh (NA.out.later hh12)
 replace NAd:=zh (NAd.out.later hh12)
 replace NB:=zh (NB.out.later hh12)
 replace NBd:=zh (NBd.out.later hh12)
 replace X1:=X1.bl hh12
 replace X2:=X2.bl hh12
 replace X3:=X3.bl hh12
 have hk13:=Bt hk2 hh12
 clear hk2
 clear hh12
 clear NC
 clear ND
 obtain ⟨cX3,lX3,fX3⟩:=X3.clf
 have hres:=X3.out
 have cres:=hres.cell
 have fres:=hres.free
 go_wp2_with fail
 refine ret_c rfl rfl boxA Tryz.underlying123 rfl zk ?_
 exact ⟨_,rfl,belA,Ra.set4 QE.out hres zd _ _ _ _⟩
theorem Plus_ok (x y:Value) (p q:Rat) (w:World) (hx:Ra w x p) (hy:Ra w y q) (h1:szq 10000000000 p) (h2:szq 10000000000 q):Calls Tryz.prog 128 #[x,y] w (RaPost w (p+q)):=by
 obtain ⟨bA,paA,lA,caA,bAd,paAd,lAd,caAd,rfl,hA1,hA2⟩:=id hx;obtain ⟨bB,paB,lB,caB,bBd,paBd,lBd,caBd,rfl,hB1,hB2⟩:=id hy;have QA:=zh hx;have NA:=zh hA1;have NAd:=zh hA2;have QB:=zh hy;have NB:=zh hB1;have NBd:=zh hB2
 obtain ⟨s1,s2⟩:=szq.four h1;obtain ⟨s3,s4⟩:=szq.four h2;have S1:Hid (sz 10000 p.num.natAbs≤549755813888):=zh zo;have S2:Hid (sz 10000 (p.den:Int).natAbs≤549755813888):=zh zo;have S3:Hid (sz 10000 q.num.natAbs≤549755813888):=zh zo;have S4:Hid (sz 10000 (q.den:Int).natAbs≤549755813888):=zh zo
 have a1:=sz4_mul s1 s4
 have a2:=sz4_mul s3 s2
 have P1:Hid (sz 10000 (p.num*(q.den:Int)).natAbs≤549755813888):=zh zo
 have P2:Hid (sz 10000 (q.num*(p.den:Int)).natAbs≤549755813888):=zh zo
 have L1:Hid (sz 10000 (p.num*(q.den:Int)+q.num*(p.den:Int)).natAbs≤274877906944):=zh (by have:=sz4_add a1 a2;omega)
 have L2:Hid (sz 10000 ((p.den:Int)*(q.den:Int)).natAbs≤274877906944):=zh (by have:=sz4_mul s2 s4;omega)
 have L3:Hid ((p.den:Int)*(q.den:Int)≠0):=zh (Int.mul_ne_zero (by have:=p.den_pos;omega) (by have:=q.den_pos;omega))
 have HL:=zh (fun x y w hx hy=>Lowest_ok x y (p.num*(q.den:Int)+q.num*(p.den:Int)) ((p.den:Int)*(q.den:Int)) w hx hy L1.out L2.out L3.out)
 rw [plus_q] at HL
 clear hx hy hA1 hA2 hB1 hB2 h1 h2 s1 s2 s3 s4 L1 L2 L3 a1 a2
 go_enter Tryz.func128,Tryz.ntmps128
 go_wp2_with fail
 obtain ⟨wq1,EW,hz,X1,X2,X3⟩:=al3 w #[.bool bA,.slice paA lA caA,.bool bAd,.slice paAd lAd caAd] 123 #[.bool bB,.slice paB lB caB,.bool bBd,.slice paBd lBd caBd] 123 #[.bool false,.slice none 0 0,.bool false,.slice none 0 0] 123
 rw [EW]
 replace NA:=zh (NA.out.later hz)
 replace NAd:=zh (NAd.out.later hz)
 replace NB:=zh (NB.out.later hz)
 replace NBd:=zh (NBd.out.later hz)
 have hk2:=Bt (Below.refl _ _) hz
 clear EW hz
 obtain ⟨cX1,lX1,fX1⟩:=X1.clf
 obtain ⟨cX2,lX2,fX2⟩:=X2.clf
 refine wp_region_walk [(.pure,0),(.read,1),(.pure,2),(.read,3),(.pure,5),(.read,6),(.pure,7),(.read,8),(.ext,4),(.ext,9),(.ext,10),(.alloc #[.bool false,.slice none 0 0] 121,11),(.fin,12)] zk zk zR zP ?_
 repeat (first|(refine walk_pure0 rfl rfl fun J h=>?_;go_simp;refine h _ ?_;clear h J)|(refine walk_load rfl rfl rfl rfl fun J h=>?_;go_simp;refine h _ ?_;clear h J;try go_simp))
 refine walk_ext rfl rfl (fun we3 hb3 J hJ=>?_);go_simp
 have hh3:Below wq1.heap.size wq1 we3:=belA
 clear hb3
 refine (verdigrisref01.Times_ok _ _ _ _ _ (NA.out.later hh3) (NBd.out.later hh3) S1.out S4.out).mono ?_
 rintro e wc4 ⟨v,rfl,hb4,hv5⟩
 obtain ⟨bC,paC,lC,caC,rfl⟩:=hv5.agg
 refine hJ _ _ hb4 ?_
 clear hJ J
 have hh4:=Bt hh3 hb4
 have NC:=zh hv5
 clear hh3 hb4 hv5
 repeat (first|(refine walk_pure0 rfl rfl fun J h=>?_;go_simp;refine h _ ?_;clear h J)|(refine walk_load rfl rfl rfl rfl fun J h=>?_;go_simp;refine h _ ?_;clear h J;try go_simp))
 refine walk_ext rfl rfl (fun we6 hb6 J hJ=>?_);go_simp
 have hh6:Below wq1.heap.size wq1 we6:=Bt hh4 belA
 replace NC:=zh (NC.out.later (show Below wc4.heap.size wc4 we6 from belA))
 clear hb6 hh4
 refine (verdigrisref01.Times_ok _ _ _ _ _ (NB.out.later hh6) (NAd.out.later hh6) S3.out S2.out).mono ?_
 rintro e wc7 ⟨v,rfl,hb7,hv8⟩
 obtain ⟨bD,paD,lD,caD,rfl⟩:=hv8.agg
 refine hJ _ _ hb7 ?_
 clear hJ J
 have hh7:=Bt hh6 hb7
 replace NC:=zh (NC.out.later hb7)
 have ND:=zh hv8
 clear hh6 hb7 hv8
 repeat (first|(refine walk_pure0 rfl rfl fun J h=>?_;go_simp;refine h _ ?_;clear h J)|(refine walk_load rfl rfl rfl rfl fun J h=>?_;go_simp;refine h _ ?_;clear h J;try go_simp))
 refine walk_ext rfl rfl (fun we9 hb9 J hJ=>?_);go_simp
 have hh9:Below wq1.heap.size wq1 we9:=Bt hh7 belA
 replace NC:=zh (NC.out.later (show Below wc7.heap.size wc7 we9 from belA))
 replace ND:=zh (ND.out.later (show Below wc7.heap.size wc7 we9 from belA))
 clear hb9 hh7
 refine (verdigrisref01.Plus_ok _ _ _ _ _ NC.out ND.out P1.out P2.out).mono ?_
 rintro e wc10 ⟨v,rfl,hb10,hv11⟩
 obtain ⟨bF,paF,lF,caF,rfl⟩:=hv11.agg
 refine hJ _ _ hb10 ?_
 clear hJ J
 have hh10:=Bt hh9 hb10
 replace NC:=zh (NC.out.later hb10)
 replace ND:=zh (ND.out.later hb10)
 have NF:=zh hv11
 clear hh9 hb10 hv11
 repeat (first|(refine walk_pure0 rfl rfl fun J h=>?_;go_simp;refine h _ ?_;clear h J)|(refine walk_load rfl rfl rfl rfl fun J h=>?_;go_simp;refine h _ ?_;clear h J;try go_simp))
 refine walk_alloc rfl (fun bk12 wa12 hwa12 hNbk12 hltbk12 hAbk12 hxbk12=>?_);go_simp;replace hxbk12:Box _ _ _ _:=hxbk12;have hWbk12:w.heap.size≤bk12:=(by first|omega|exact Nat.le_trans (Below.size (B:=w.heap.size) belA) hNbk12)
 refine walk_fin [_] rfl (fun wf13 hf13=>?_)
 replace NC:=zh (NC.out.later (show Below wc10.heap.size wc10 wf13 from belA))
 replace ND:=zh (ND.out.later (show Below wc10.heap.size wc10 wf13 from belA))
 replace NF:=zh (NF.out.later (show Below wc10.heap.size wc10 wf13 from belA))
 have hh13:Below wq1.heap.size wq1 wf13:=Bt hh10 belA
 have hq0:=hxbk12.later hf13;have cq0:=hq0.cell;have fq0:=hq0.free
 clear hxbk12 hf13 hh10
 clear cX1 lX1 fX1 cX2 lX2 fX2
 go_wp2_with fail
 obtain ⟨wq14,EW⟩:∃ y,((wf13.setCell ⟨bk12,0,none⟩ (.bool bF)).setCell ⟨bk12,1,none⟩ (.slice paF lF caF))=y:=⟨_,rfl⟩
 have hz:Below wq1.heap.size wq1 wq14:=by rw [← EW];exact ((hh13.setCell hNbk12 _).setCell hNbk12 _)
 have X4:Hid (Box wq14 bk12 #[.bool bF,.slice paF lF caF] 121):=zh (by rw [← EW];exact ((hq0.set 0 _).set 1 _))
 clear NC
 clear ND
 have t:=((NF.out.setOther hq0 zd 0 (.bool bF)).setOther (hq0.set 0 _) zd 1 (.slice paF lF caF))
 rw [EW] at t
 replace NF:=zh t
 clear t
 rw [EW]
 clear EW hq0 cq0 fq0 hh13
 replace NA:=zh (NA.out.later hz)
 replace NAd:=zh (NAd.out.later hz)
 replace NB:=zh (NB.out.later hz)
 replace NBd:=zh (NBd.out.later hz)
 replace X1:=X1.bl hz
 replace X2:=X2.bl hz
 replace X3:=X3.bl hz
 have hk15:=Bt hk2 hz
 clear hk2
 clear hz
 clear hwa12 hNbk12 hltbk12 hAbk12 hWbk12
 go_wp2_with fail
 obtain ⟨cX4,lX4,fX4⟩:=X4.clf
 obtain ⟨cX1,lX1,fX1⟩:=X1.clf
 obtain ⟨cX2,lX2,fX2⟩:=X2.clf
 refine wp_region_walk [(.read,0),(.pure,1),(.read,2),(.pure,3),(.read,4),(.ext,5),(.ext,6),(.fin,7)] zk zk zR zP ?_
 repeat (first|(refine walk_pure0 rfl rfl fun J h=>?_;go_simp;refine h _ ?_;clear h J)|(refine walk_load rfl rfl rfl rfl fun J h=>?_;go_simp;refine h _ ?_;clear h J;try go_simp))
 refine walk_ext rfl rfl (fun we16 hb16 J hJ=>?_);go_simp
 have hh16:Below wq14.heap.size wq14 we16:=belA
 clear hb16
 refine (verdigrisref01.Times_ok _ _ _ _ _ (NAd.out.later hh16) (NBd.out.later hh16) S2.out S4.out).mono ?_
 rintro e wc17 ⟨v,rfl,hb17,hv18⟩
 obtain ⟨bG,paG,lG,caG,rfl⟩:=hv18.agg
 refine hJ _ _ hb17 ?_
 clear hJ J
 have hh17:=Bt hh16 hb17
 have NG:=zh hv18
 clear hh16 hb17 hv18
 repeat (first|(refine walk_pure0 rfl rfl fun J h=>?_;go_simp;refine h _ ?_;clear h J)|(refine walk_load rfl rfl rfl rfl fun J h=>?_;go_simp;refine h _ ?_;clear h J;try go_simp))
 refine walk_ext rfl rfl (fun we19 hb19 J hJ=>?_);go_simp
 have hh19:Below wq14.heap.size wq14 we19:=Bt hh17 belA
 replace NG:=zh (NG.out.later (show Below wc17.heap.size wc17 we19 from belA))
 clear hb19 hh17
 refine (HL.out _ _ _ (NF.out.later hh19) NG.out).mono ?_
 rintro e wc20 ⟨v,rfl,hb20,hv21⟩
 obtain ⟨bE,paE,lE,caE,bEd,paEd,lEd,caEd,rfl,hx21,hy21⟩:=id hv21
 refine hJ _ _ hb20 ?_
 clear hJ J
 have hh20:=Bt hh19 hb20
 replace NG:=zh (NG.out.later hb20)
 have QE:=zh hv21
 clear hh19 hb20 hv21 hx21 hy21
 repeat (first|(refine walk_pure0 rfl rfl fun J h=>?_;go_simp;refine h _ ?_;clear h J)|(refine walk_load rfl rfl rfl rfl fun J h=>?_;go_simp;refine h _ ?_;clear h J;try go_simp))
 refine walk_fin [_] rfl (fun wf22 hf22=>?_)
 replace NG:=zh (NG.out.later (show Below wc20.heap.size wc20 wf22 from belA))
 replace QE:=zh (QE.out.later (show Below wc20.heap.size wc20 wf22 from belA))
 have hh22:Below wq14.heap.size wq14 wf22:=Bt hh20 belA
 clear hf22 hh20
 clear cX4 lX4 fX4 cX1 lX1 fX1 cX2 lX2 fX2
 replace NA:=zh (NA.out.later hh22)
 replace NAd:=zh (NAd.out.later hh22)
 replace NB:=zh (NB.out.later hh22)
 replace NBd:=zh (NBd.out.later hh22)
 replace X1:=X1.bl hh22
 replace X2:=X2.bl hh22
 replace X3:=X3.bl hh22
 replace X4:=X4.bl hh22
 replace NF:=zh (NF.out.later hh22)
 have hk23:=Bt hk15 hh22
 clear hk15
 clear hh22
 clear NG
 obtain ⟨cX3,lX3,fX3⟩:=X3.clf
 have hres:=X3.out
 have cres:=hres.cell
 have fres:=hres.free
 go_wp2_with fail
 refine ret_c rfl rfl boxA Tryz.underlying123 rfl zk ?_
 exact ⟨_,rfl,belA,Ra.set4 QE.out hres zd _ _ _ _⟩
theorem Right_of {s:ByteArray} {b:Bool} (h:(whole s.data.toList).isSome=b) (hs:s.size≤4611686018427387904) (W:World) :
  Calls Tryz.prog 166 #[.string s] W (fun e w'=>e= .returned (.bool b)∧Below W.heap.size W w') :=
 (verdigrisref01.Right_ok s W hs).mono fun _ _ h'=>⟨h ▸ h'.1,h'.2 ▸ Below.refl _ _⟩
def Fits (a:Fr):Prop:=a.n.size≤4611686018427387904∧a.d.size≤4611686018427387904
theorem rd_none_n {s t:ByteArray} (h:whole s.data.toList=none):rd ⟨s,t⟩=none:=by unfold rd;simp only [h]
theorem rd_none_d {s t:ByteArray} (h:whole t.data.toList=none):rd ⟨s,t⟩=none:=by
 unfold rd
 simp only [h]
 cases whole s.data.toList<;>rfl
theorem rd_two {s t:ByteArray} {n d:Int} (h1:whole s.data.toList=some n) (h2:whole t.data.toList=some d):(rd ⟨s,t⟩).isSome=(decide (0<d)&&(Nat.gcd n.natAbs d.natAbs == 1)):=by
 unfold rd
 simp only [h1,h2]
 by_cases h:0<d∧n.natAbs.Coprime d.natAbs
 ·rw [dif_pos h]
  rw [decide_eq_true h.1,show Nat.gcd n.natAbs d.natAbs=1 from h.2]
  rfl
 ·rw [dif_neg h]
  refine (Bool.eq_false_iff.2 fun e=>h ?_).symm
  rw [Bool.and_eq_true,decide_eq_true_iff,beq_iff_eq] at e
  exact e
theorem whole_sz {bs:List UInt8} {z:Int} (h:whole bs=some z):sz 10000 z.natAbs≤201:=by
 have h1:=okn_sz (okn_len.2 (whole_itoa h).2)
 have:=sz4_of h1
 omega
theorem one_text:(Lib.itoa ((1:Nat):Int)).toArray=#[49]:=by decide+kernel
theorem toList_inj {a b:ByteArray} (h:a.toList=b.toList):a=b:=by
 rw [ByteArray.toList_eq,ByteArray.toList_eq] at h
 exact ba_ext h
theorem not_one {g:Nat} (h:g≠1):((⟨(Lib.itoa (g:Int)).toArray⟩:ByteArray) == ⟨#[49]⟩)=false:=by
 rw [beq_toListBytes,beq_eq_false_iff_ne]
 intro e
 have e:=toList_inj e
 simp only [ByteArray.mk.injEq] at e
 rw [← one_text] at e
 have:=itoa_inj (List.toArray_inj e)
 omega
theorem is_one:((⟨(Lib.itoa ((1:Nat):Int)).toArray⟩:ByteArray) == ⟨#[49]⟩)=true:=by rw [one_text,beq_toListBytes];exact beq_self_eq_true _
theorem Right_ok (s t:ByteArray) (w:World) (h1:s.size≤4611686018427387904) (h2:t.size≤4611686018427387904) :
  Calls Tryz.prog 113 #[.agg #[.string s,.string t]] w (fun e w'=>e= .returned (.bool (rd ⟨s,t⟩).isSome)∧Below w.heap.size w w'):=by
 cases e1:whole s.data.toList with
 | none =>
  rw [rd_none_n e1]
  have R1:=zh (fun W=>Right_of (b:=false) (by rw [e1];rfl) h1 W)
  clear e1 h1 h2
  go_enter Tryz.func113,Tryz.ntmps113
  go_wp2_with fail
  refine (R1.out _).mono ?_
  rintro e w1 ⟨rfl,hb⟩
  go_wp2_with fail
  go_ret
  exact ⟨rfl,Bt belA hb⟩
 | some n =>
  have R1:=zh (fun W=>Right_of (b:=true) (by rw [e1];rfl) h1 W)
  cases e2:whole t.data.toList with
  | none =>
   rw [rd_none_d e2]
   have R2:=zh (fun W=>Right_of (b:=false) (by rw [e2];rfl) h2 W)
   have h0:Below w.heap.size w (w.alloc (.cells #[.string s,.string t] 59)):=belA
   have hx:=Box.new w #[.string s,.string t] 59
   clear e1 h1 h2 e2
   go_enter Tryz.func113,Tryz.ntmps113
   go_wp2_with fail
   refine (R1.out _).mono ?_
   rintro e w1 ⟨rfl,hb⟩
   have cx:=(hx.later hb).cell
   have lx:=(hx.later hb).lt
   go_wp2_with fail
   refine (R2.out _).mono ?_
   rintro e w2 ⟨rfl,hb2⟩
   go_wp2_with fail
   go_ret
   exact ⟨rfl,Bt (Bt h0 hb) hb2⟩
  | some d =>
   have R2:=zh (fun W=>Right_of (b:=true) (by rw [e2];rfl) h2 W)
   rw [rd_two e1 e2]
   have I1:=zh (fun W=>verdigrisref01.In_ok s n W e1)
   have I2:=zh (fun W=>verdigrisref01.In_ok t d W e2)
   have K1:=zh (Nat.le_trans (whole_sz e1) (show 201≤274877906944 by omega))
   have K2:=zh (Nat.le_trans (whole_sz e2) (show 201≤274877906944 by omega))
   have hg:0<d→sz 10000 ((Nat.gcd n.natAbs d.natAbs:Nat):Int).natAbs≤1073741824:=fun h=>by
    rw [Int.natAbs_natCast]
    have h3:=sz_mono (B:=10000) zo (Nat.le_of_dvd (by omega:0<d.natAbs) (Nat.gcd_dvd_right n.natAbs d.natAbs))
    have h4:=whole_sz e2
    omega
   have DV:=zh (fun x y W hx hy=>Divisor_ok x y n d W hx hy K1.out K2.out)
   generalize Nat.gcd n.natAbs d.natAbs=g at *
   rcases Int.lt_trichotomy d 0 with hd|hd|hd
   ·have HD:=zh hd
    rw [decide_eq_false (show ¬ 0<d by omega),Bool.false_and]
    clear e1 e2 h1 h2 hg hd
    go_enter Tryz.func113,Tryz.ntmps113
    go_wp2_with fail
    obtain ⟨wq1,EW,hz,X1⟩:=al1 w #[.string s,.string t] 59
    rw [EW]
    have hk2:=Bt (Below.refl _ _) hz
    clear EW hz
    refine (R1.out _).mono ?_
    rintro e wc3 ⟨rfl,hb3⟩
    replace X1:=X1.bl hb3
    have hk5:=Bt hk2 hb3
    clear hk2
    clear hb3
    obtain ⟨cX1,lX1,fX1⟩:=X1.clf
    go_wp2_with fail
    clear cX1 lX1 fX1
    refine (R2.out _).mono ?_
    rintro e wc6 ⟨rfl,hb6⟩
    replace X1:=X1.bl hb6
    have hk8:=Bt hk5 hb6
    clear hk5
    clear hb6
    go_wp2_with fail
    obtain ⟨cX1,lX1,fX1⟩:=X1.clf
    refine wp_region_walk [(.pure,0),(.read,1),(.pure,3),(.read,4),(.ext,2),(.ext,5),(.alloc #[.bool false,.slice none 0 0] 121,6),(.alloc #[.bool false,.slice none 0 0] 121,7),(.fin,8),(.fin,9)] zk zk zR zP ?_
    repeat (first|(refine walk_pure0 rfl rfl fun J h=>?_;go_simp;refine h _ ?_;clear h J)|(refine walk_load rfl rfl rfl rfl fun J h=>?_;go_simp;refine h _ ?_;clear h J;try go_simp))
    refine walk_ext rfl rfl (fun we9 hb9 J hJ=>?_);go_simp
    have hh9:Below wc6.heap.size wc6 we9:=belA
    clear hb9
    refine (I1.out _).mono ?_
    rintro e wc10 ⟨v,rfl,hb10,hv11⟩
    obtain ⟨bA,paA,lA,caA,rfl⟩:=hv11.agg
    refine hJ _ _ hb10 ?_
    clear hJ J
    have hh10:=Bt hh9 hb10
    clear hh9 hb10 hv11
    repeat (first|(refine walk_pure0 rfl rfl fun J h=>?_;go_simp;refine h _ ?_;clear h J)|(refine walk_load rfl rfl rfl rfl fun J h=>?_;go_simp;refine h _ ?_;clear h J;try go_simp))
    refine walk_ext rfl rfl (fun we12 hb12 J hJ=>?_);go_simp
    have hh12:Below wc6.heap.size wc6 we12:=Bt hh10 belA
    clear hb12 hh10
    refine (I2.out _).mono ?_
    rintro e wc13 ⟨v,rfl,hb13,hv⟩
    obtain ⟨bB,paB,lB,caB,rfl⟩:=hv.agg
    have hb1:bB=true:=hv.nm.2.trans (decide_eq_true HD.out)
    subst hb1
    refine hJ _ _ hb13 ?_
    clear hJ J
    have hh13:=Bt hh12 hb13
    clear hh12 hb13 hv
    repeat (first|(refine walk_pure0 rfl rfl fun J h=>?_;go_simp;refine h _ ?_;clear h J)|(refine walk_load rfl rfl rfl rfl fun J h=>?_;go_simp;refine h _ ?_;clear h J;try go_simp))
    refine walk_alloc rfl (fun bk15 wa15 hwa15 hNbk15 hltbk15 hAbk15 hxbk15=>?_);go_simp;replace hxbk15:Box _ _ _ _:=hxbk15;have hWbk15:w.heap.size≤bk15:=(by first|omega|exact Nat.le_trans (Below.size (B:=w.heap.size) belA) hNbk15)
    refine walk_alloc rfl (fun bk16 wa16 hwa16 hNbk16 hltbk16 hAbk16 hxbk16=>?_);go_simp;replace hxbk16:Box _ _ _ _:=hxbk16;have hWbk16:w.heap.size≤bk16:=(by first|omega|exact Nat.le_trans (Below.size (B:=w.heap.size) belA) hNbk16)
    replace hxbk15:=Box.later hxbk15 hwa16
    have hne:bk15≠bk16:=fun h=>hAbk16 (by simp [h])
    have hne2:bk16≠bk15:=fun h=>hne h.symm
    refine walk_fin [_,_] rfl (fun wf17 hf17=>?_)
    have hh17:Below wc6.heap.size wc6 wf17:=Bt hh13 belA
    have hq0:=hxbk15.later hf17;have cq0:=hq0.cell;have fq0:=hq0.free
    have hq1:=hxbk16.later hf17;have cq1:=hq1.cell;have fq1:=hq1.free
    clear hxbk15 hxbk16 hf17 hh13
    clear cX1 lX1 fX1
    go_wp2_with fail
    obtain ⟨wq18,EW⟩:∃ y,((((wf17.setCell ⟨bk15,0,none⟩ (.bool bA)).setCell ⟨bk15,1,none⟩ (.slice paA lA caA)).setCell ⟨bk16,0,none⟩ (.bool true)).setCell ⟨bk16,1,none⟩ (.slice paB lB caB))=y:=⟨_,rfl⟩
    have hz:Below wc6.heap.size wc6 wq18:=by rw [← EW];exact ((((hh17.setCell hNbk15 _).setCell hNbk15 _).setCell hNbk16 _).setCell hNbk16 _)
    have X3:Hid (Box wq18 bk16 #[.bool true,.slice paB lB caB] 121):=zh (by rw [← EW];exact ((((hq1.setOther _ (by first|exact hne|exact hne2)).setOther _ (by first|exact hne|exact hne2)).set 0 _).set 1 _))
    rw [EW]
    clear EW hq0 cq0 fq0 hq1 cq1 fq1 hh17
    replace X1:=X1.bl hz
    have hk19:=Bt hk8 hz
    clear hk8
    clear hz
    clear hwa15 hAbk15 hAbk16 hWbk15 hWbk16 hwa16
    have hlbk15:=hNbk15;have hlbk16:=hNbk16;clear hNbk15 hNbk16 hltbk15 hltbk16
    go_wp2_with fail
    go_ret
    exact ⟨rfl,hk19⟩
   ·have HD:=zh hd
    rw [decide_eq_false (show ¬ 0<d by omega),Bool.false_and]
    clear e1 e2 h1 h2 hg hd
    go_enter Tryz.func113,Tryz.ntmps113
    go_wp2_with fail
    obtain ⟨wq1,EW,hz,X1⟩:=al1 w #[.string s,.string t] 59
    rw [EW]
    have hk2:=Bt (Below.refl _ _) hz
    clear EW hz
    refine (R1.out _).mono ?_
    rintro e wc3 ⟨rfl,hb3⟩
    replace X1:=X1.bl hb3
    have hk5:=Bt hk2 hb3
    clear hk2
    clear hb3
    obtain ⟨cX1,lX1,fX1⟩:=X1.clf
    go_wp2_with fail
    clear cX1 lX1 fX1
    refine (R2.out _).mono ?_
    rintro e wc6 ⟨rfl,hb6⟩
    replace X1:=X1.bl hb6
    have hk8:=Bt hk5 hb6
    clear hk5
    clear hb6
    go_wp2_with fail
    obtain ⟨cX1,lX1,fX1⟩:=X1.clf
    refine wp_region_walk [(.pure,0),(.read,1),(.pure,3),(.read,4),(.ext,2),(.ext,5),(.alloc #[.bool false,.slice none 0 0] 121,6),(.alloc #[.bool false,.slice none 0 0] 121,7),(.fin,8),(.fin,9)] zk zk zR zP ?_
    repeat (first|(refine walk_pure0 rfl rfl fun J h=>?_;go_simp;refine h _ ?_;clear h J)|(refine walk_load rfl rfl rfl rfl fun J h=>?_;go_simp;refine h _ ?_;clear h J;try go_simp))
    refine walk_ext rfl rfl (fun we9 hb9 J hJ=>?_);go_simp
    have hh9:Below wc6.heap.size wc6 we9:=belA
    clear hb9
    refine (I1.out _).mono ?_
    rintro e wc10 ⟨v,rfl,hb10,hv11⟩
    obtain ⟨bA,paA,lA,caA,rfl⟩:=hv11.agg
    refine hJ _ _ hb10 ?_
    clear hJ J
    have hh10:=Bt hh9 hb10
    clear hh9 hb10 hv11
    repeat (first|(refine walk_pure0 rfl rfl fun J h=>?_;go_simp;refine h _ ?_;clear h J)|(refine walk_load rfl rfl rfl rfl fun J h=>?_;go_simp;refine h _ ?_;clear h J;try go_simp))
    refine walk_ext rfl rfl (fun we12 hb12 J hJ=>?_);go_simp
    have hh12:Below wc6.heap.size wc6 we12:=Bt hh10 belA
    clear hb12 hh10
    refine (I2.out _).mono ?_
    rintro e wc13 ⟨v,rfl,hb13,hv⟩
    obtain ⟨bB,paB,lB,caB,rfl⟩:=hv.agg
    have hb1:bB=false:=hv.nm.2.trans (decide_eq_false (by have:=HD.out;omega))
    subst hb1
    have hl0:lB=0:=hv.nm.1.len0 (by have:=HD.out;omega)
    subst hl0
    refine hJ _ _ hb13 ?_
    clear hJ J
    have hh13:=Bt hh12 hb13
    clear hh12 hb13 hv
    repeat (first|(refine walk_pure0 rfl rfl fun J h=>?_;go_simp;refine h _ ?_;clear h J)|(refine walk_load rfl rfl rfl rfl fun J h=>?_;go_simp;refine h _ ?_;clear h J;try go_simp))
    refine walk_alloc rfl (fun bk15 wa15 hwa15 hNbk15 hltbk15 hAbk15 hxbk15=>?_);go_simp;replace hxbk15:Box _ _ _ _:=hxbk15;have hWbk15:w.heap.size≤bk15:=(by first|omega|exact Nat.le_trans (Below.size (B:=w.heap.size) belA) hNbk15)
    refine walk_alloc rfl (fun bk16 wa16 hwa16 hNbk16 hltbk16 hAbk16 hxbk16=>?_);go_simp;replace hxbk16:Box _ _ _ _:=hxbk16;have hWbk16:w.heap.size≤bk16:=(by first|omega|exact Nat.le_trans (Below.size (B:=w.heap.size) belA) hNbk16)
    replace hxbk15:=Box.later hxbk15 hwa16
    have hne:bk15≠bk16:=fun h=>hAbk16 (by simp [h])
    have hne2:bk16≠bk15:=fun h=>hne h.symm
    refine walk_fin [_,_] rfl (fun wf17 hf17=>?_)
    have hh17:Below wc6.heap.size wc6 wf17:=Bt hh13 belA
    have hq0:=hxbk15.later hf17;have cq0:=hq0.cell;have fq0:=hq0.free
    have hq1:=hxbk16.later hf17;have cq1:=hq1.cell;have fq1:=hq1.free
    clear hxbk15 hxbk16 hf17 hh13
    clear cX1 lX1 fX1
    go_wp2_with fail
    obtain ⟨wq18,EW⟩:∃ y,((((wf17.setCell ⟨bk15,0,none⟩ (.bool bA)).setCell ⟨bk15,1,none⟩ (.slice paA lA caA)).setCell ⟨bk16,0,none⟩ (.bool false)).setCell ⟨bk16,1,none⟩ (.slice paB 0 caB))=y:=⟨_,rfl⟩
    have hz:Below wc6.heap.size wc6 wq18:=by rw [← EW];exact ((((hh17.setCell hNbk15 _).setCell hNbk15 _).setCell hNbk16 _).setCell hNbk16 _)
    have X3:Hid (Box wq18 bk16 #[.bool false,.slice paB 0 caB] 121):=zh (by rw [← EW];exact ((((hq1.setOther _ (by first|exact hne|exact hne2)).setOther _ (by first|exact hne|exact hne2)).set 0 _).set 1 _))
    rw [EW]
    clear EW hq0 cq0 fq0 hq1 cq1 fq1 hh17
    replace X1:=X1.bl hz
    have hk19:=Bt hk8 hz
    clear hk8
    clear hz
    clear hwa15 hAbk15 hAbk16 hWbk15 hWbk16 hwa16
    have hlbk15:=hNbk15;have hlbk16:=hNbk16;clear hNbk15 hNbk16 hltbk15 hltbk16
    go_wp2_with fail
    go_ret
    exact ⟨rfl,hk19⟩
   ·have HD:=zh hd
    have HG:=zh (hg hd)
    have TX:=zh (fun x W hx=>Text_ok x (g:Int) W hx HG.out)
    obtain ⟨b,hb⟩:∃ b,(decide (0<d)&&(g == 1))=b:=⟨_,rfl⟩
    have hT:((⟨(Lib.itoa (g:Int)).toArray⟩:ByteArray) == ⟨#[49]⟩)=b:=by
     rw [← hb,decide_eq_true hd,Bool.true_and]
     by_cases h:g=1
     ·rw [h];exact is_one
     ·rw [not_one h];exact (beq_eq_false_iff_ne.2 h).symm
    rw [hb]
    rw [beq_toListBytes,ByteArray.toList_eq (⟨#[49]⟩:ByteArray)] at hT
    replace hT:((⟨(Lib.itoa (g:Int)).toArray⟩:ByteArray).toList == [49])=b:=hT
    generalize (⟨(Lib.itoa (g:Int)).toArray⟩:ByteArray)=T at *
    clear e1 e2 h1 h2 hg hd hb
    go_enter Tryz.func113,Tryz.ntmps113
    go_wp2_with fail
    obtain ⟨wq1,EW,hz,X1⟩:=al1 w #[.string s,.string t] 59
    rw [EW]
    have hk2:=Bt (Below.refl _ _) hz
    clear EW hz
    refine (R1.out _).mono ?_
    rintro e wc3 ⟨rfl,hb3⟩
    replace X1:=X1.bl hb3
    have hk5:=Bt hk2 hb3
    clear hk2
    clear hb3
    obtain ⟨cX1,lX1,fX1⟩:=X1.clf
    go_wp2_with fail
    clear cX1 lX1 fX1
    refine (R2.out _).mono ?_
    rintro e wc6 ⟨rfl,hb6⟩
    replace X1:=X1.bl hb6
    have hk8:=Bt hk5 hb6
    clear hk5
    clear hb6
    go_wp2_with fail
    obtain ⟨cX1,lX1,fX1⟩:=X1.clf
    refine wp_region_walk [(.pure,0),(.read,1),(.pure,3),(.read,4),(.ext,2),(.ext,5),(.alloc #[.bool false,.slice none 0 0] 121,6),(.alloc #[.bool false,.slice none 0 0] 121,7),(.fin,8),(.fin,9)] zk zk zR zP ?_
    repeat (first|(refine walk_pure0 rfl rfl fun J h=>?_;go_simp;refine h _ ?_;clear h J)|(refine walk_load rfl rfl rfl rfl fun J h=>?_;go_simp;refine h _ ?_;clear h J;try go_simp))
    refine walk_ext rfl rfl (fun we9 hb9 J hJ=>?_);go_simp
    have hh9:Below wc6.heap.size wc6 we9:=belA
    clear hb9
    refine (I1.out _).mono ?_
    rintro e wc10 ⟨v,rfl,hb10,hv11⟩
    obtain ⟨bA,paA,lA,caA,rfl⟩:=hv11.agg
    refine hJ _ _ hb10 ?_
    clear hJ J
    have hh10:=Bt hh9 hb10
    have NA:=zh hv11
    clear hh9 hb10 hv11
    repeat (first|(refine walk_pure0 rfl rfl fun J h=>?_;go_simp;refine h _ ?_;clear h J)|(refine walk_load rfl rfl rfl rfl fun J h=>?_;go_simp;refine h _ ?_;clear h J;try go_simp))
    refine walk_ext rfl rfl (fun we12 hb12 J hJ=>?_);go_simp
    have hh12:Below wc6.heap.size wc6 we12:=Bt hh10 belA
    replace NA:=zh (NA.out.later (show Below wc10.heap.size wc10 we12 from belA))
    clear hb12 hh10
    refine (I2.out _).mono ?_
    rintro e wc13 ⟨v,rfl,hb13,hv⟩
    obtain ⟨bB,paB,lB,caB,rfl⟩:=hv.agg
    have hb1:bB=false:=hv.nm.2.trans (decide_eq_false (by have:=HD.out;omega))
    subst hb1
    have hl0:0<lB:=hv.nm.1.lenp (by have:=HD.out;omega)
    refine hJ _ _ hb13 ?_
    clear hJ J
    have hh13:=Bt hh12 hb13
    replace NA:=zh (NA.out.later hb13)
    have NB:=zh hv
    clear hh12 hb13 hv
    repeat (first|(refine walk_pure0 rfl rfl fun J h=>?_;go_simp;refine h _ ?_;clear h J)|(refine walk_load rfl rfl rfl rfl fun J h=>?_;go_simp;refine h _ ?_;clear h J;try go_simp))
    refine walk_alloc rfl (fun bk15 wa15 hwa15 hNbk15 hltbk15 hAbk15 hxbk15=>?_);go_simp;replace hxbk15:Box _ _ _ _:=hxbk15;have hWbk15:w.heap.size≤bk15:=(by first|omega|exact Nat.le_trans (Below.size (B:=w.heap.size) belA) hNbk15)
    refine walk_alloc rfl (fun bk16 wa16 hwa16 hNbk16 hltbk16 hAbk16 hxbk16=>?_);go_simp;replace hxbk16:Box _ _ _ _:=hxbk16;have hWbk16:w.heap.size≤bk16:=(by first|omega|exact Nat.le_trans (Below.size (B:=w.heap.size) belA) hNbk16)
    replace hxbk15:=Box.later hxbk15 hwa16
    have hne:bk15≠bk16:=fun h=>hAbk16 (by simp [h])
    have hne2:bk16≠bk15:=fun h=>hne h.symm
    refine walk_fin [_,_] rfl (fun wf17 hf17=>?_)
    replace NA:=zh (NA.out.later (show Below wc13.heap.size wc13 wf17 from belA))
    replace NB:=zh (NB.out.later (show Below wc13.heap.size wc13 wf17 from belA))
    have hh17:Below wc6.heap.size wc6 wf17:=Bt hh13 belA
    have hq0:=hxbk15.later hf17;have cq0:=hq0.cell;have fq0:=hq0.free
    have hq1:=hxbk16.later hf17;have cq1:=hq1.cell;have fq1:=hq1.free
    clear hxbk15 hxbk16 hf17 hh13
    clear cX1 lX1 fX1
    go_wp2_with fail
    obtain ⟨wq18,EW⟩:∃ y,((((wf17.setCell ⟨bk15,0,none⟩ (.bool bA)).setCell ⟨bk15,1,none⟩ (.slice paA lA caA)).setCell ⟨bk16,0,none⟩ (.bool false)).setCell ⟨bk16,1,none⟩ (.slice paB lB caB))=y:=⟨_,rfl⟩
    have hz:Below wc6.heap.size wc6 wq18:=by rw [← EW];exact ((((hh17.setCell hNbk15 _).setCell hNbk15 _).setCell hNbk16 _).setCell hNbk16 _)
    have X2:Hid (Box wq18 bk15 #[.bool bA,.slice paA lA caA] 121):=zh (by rw [← EW];exact ((((hq0.set 0 _).set 1 _).setOther _ (by first|exact hne|exact hne2)).setOther _ (by first|exact hne|exact hne2)))
    have X3:Hid (Box wq18 bk16 #[.bool false,.slice paB lB caB] 121):=zh (by rw [← EW];exact ((((hq1.setOther _ (by first|exact hne|exact hne2)).setOther _ (by first|exact hne|exact hne2)).set 0 _).set 1 _))
    have t:=((((NA.out.setOther hq0 zd 0 (.bool bA)).setOther (hq0.set 0 _) zd 1 (.slice paA lA caA)).setOther ((hq1.setOther _ (by first|exact hne|exact hne2)).setOther _ (by first|exact hne|exact hne2)) zd 0 (.bool false)).setOther (((hq1.setOther _ (by first|exact hne|exact hne2)).setOther _ (by first|exact hne|exact hne2)).set 0 _) zd 1 (.slice paB lB caB))
    rw [EW] at t
    replace NA:=zh t
    clear t
    have t:=((((NB.out.setOther hq0 zd 0 (.bool bA)).setOther (hq0.set 0 _) zd 1 (.slice paA lA caA)).setOther ((hq1.setOther _ (by first|exact hne|exact hne2)).setOther _ (by first|exact hne|exact hne2)) zd 0 (.bool false)).setOther (((hq1.setOther _ (by first|exact hne|exact hne2)).setOther _ (by first|exact hne|exact hne2)).set 0 _) zd 1 (.slice paB lB caB))
    rw [EW] at t
    replace NB:=zh t
    clear t
    rw [EW]
    clear EW hq0 cq0 fq0 hq1 cq1 fq1 hh17
    replace X1:=X1.bl hz
    have hk19:=Bt hk8 hz
    clear hk8
    clear hz
    clear hwa15 hAbk15 hAbk16 hWbk15 hWbk16 hwa16
    have hlbk15:=hNbk15;have hlbk16:=hNbk16;clear hNbk15 hNbk16 hltbk15 hltbk16
    go_wp2_with fail
    refine (DV.out _ _ _ NA.out NB.out).mono ?_
    rintro e wc20 ⟨v,rfl,hb20,hv21⟩
    obtain ⟨bC,paC,lC,caC,rfl⟩:=hv21.agg
    clear X1
    replace X2:=X2.bl hb20
    replace X3:=X3.bl hb20
    replace NA:=zh (NA.out.later hb20)
    replace NB:=zh (NB.out.later hb20)
    have hk22:=Bt hk19 hb20
    clear hk19
    have NC:=zh hv21
    clear hb20 hv21
    go_wp2_with fail
    refine (TX.out _ _ NC.out).mono ?_
    rintro e wc23 ⟨rfl,hb23⟩
    replace X2:=X2.bl hb23
    replace X3:=X3.bl hb23
    replace NA:=zh (NA.out.later hb23)
    replace NB:=zh (NB.out.later hb23)
    replace NC:=zh (NC.out.later hb23)
    have hk25:=Bt hk22 hb23
    clear hk22
    clear hb23
    go_wp2_with fail
    go_ret
    exact ⟨rfl,hk25⟩
theorem rightF {a:Fr} {b:Bool} (h:(rd a).isSome=b) (hf:Fits a) (W:World):Calls Tryz.prog 113 #[a.v] W (fun e w'=>e= .returned (.bool b)∧Below W.heap.size W w') :=
 h ▸ Right_ok a.n a.d W hf.1 hf.2
theorem rd_parts {s t:ByteArray} {q:Rat} (h:rd ⟨s,t⟩=some q):whole s.data.toList=some q.num∧whole t.data.toList=some (q.den:Int):=by
 unfold rd at h
 split at h
 ·rename_i n d e1 e2
  split at h
  ·rename_i hk
   simp only [Option.some.injEq] at h
   subst h
   refine ⟨e1,e2.trans ?_⟩
   congr 1
   have:=hk.1
   show d=((d.natAbs:Nat):Int)
   omega
  ·cases h
 ·cases h
theorem In_ok (s t:ByteArray) (q:Rat) (w:World) (h:rd ⟨s,t⟩=some q):Calls Tryz.prog 132 #[.agg #[.string s,.string t]] w (RaPost w q):=by
 obtain ⟨e1,e2⟩:=rd_parts h
 have I1:=zh (fun W=>verdigrisref01.In_ok s q.num W e1)
 have I2:=zh (fun W=>verdigrisref01.In_ok t (q.den:Int) W e2)
 clear h e1 e2
 go_enter Tryz.func132,Tryz.ntmps132
 go_wp2_with fail
 obtain ⟨wq1,EW,hz,X1,X2⟩:=al2 w #[.string s,.string t] 59 #[.bool false,.slice none 0 0,.bool false,.slice none 0 0] 123
 rw [EW]
 have hk2:=Bt (Below.refl _ _) hz
 clear EW hz
 obtain ⟨cX1,lX1,fX1⟩:=X1.clf
 refine wp_region_walk [(.pure,0),(.read,1),(.pure,3),(.read,4),(.ext,2),(.ext,5),(.pure,6),(.fin,7)] zk zk zR zP ?_
 repeat (first|(refine walk_pure0 rfl rfl fun J h=>?_;go_simp;refine h _ ?_;clear h J)|(refine walk_load rfl rfl rfl rfl fun J h=>?_;go_simp;refine h _ ?_;clear h J;try go_simp))
 refine walk_ext rfl rfl (fun we3 hb3 J hJ=>?_);go_simp
 have hh3:Below wq1.heap.size wq1 we3:=belA
 clear hb3
 refine (I1.out _).mono ?_
 rintro e wc4 ⟨v,rfl,hb4,hv5⟩
 obtain ⟨bA,paA,lA,caA,rfl⟩:=hv5.agg
 refine hJ _ _ hb4 ?_
 clear hJ J
 have hh4:=Bt hh3 hb4
 have NA:=zh hv5
 clear hh3 hb4 hv5
 repeat (first|(refine walk_pure0 rfl rfl fun J h=>?_;go_simp;refine h _ ?_;clear h J)|(refine walk_load rfl rfl rfl rfl fun J h=>?_;go_simp;refine h _ ?_;clear h J;try go_simp))
 refine walk_ext rfl rfl (fun we6 hb6 J hJ=>?_);go_simp
 have hh6:Below wq1.heap.size wq1 we6:=Bt hh4 belA
 replace NA:=zh (NA.out.later (show Below wc4.heap.size wc4 we6 from belA))
 clear hb6 hh4
 refine (I2.out _).mono ?_
 rintro e wc7 ⟨v,rfl,hb7,hv8⟩
 obtain ⟨bB,paB,lB,caB,rfl⟩:=hv8.agg
 refine hJ _ _ hb7 ?_
 clear hJ J
 have hh7:=Bt hh6 hb7
 replace NA:=zh (NA.out.later hb7)
 have NB:=zh hv8
 clear hh6 hb7 hv8
 repeat (first|(refine walk_pure0 rfl rfl fun J h=>?_;go_simp;refine h _ ?_;clear h J)|(refine walk_load rfl rfl rfl rfl fun J h=>?_;go_simp;refine h _ ?_;clear h J;try go_simp))
 refine walk_fin [_] rfl (fun wf9 hf9=>?_)
 replace NA:=zh (NA.out.later (show Below wc7.heap.size wc7 wf9 from belA))
 replace NB:=zh (NB.out.later (show Below wc7.heap.size wc7 wf9 from belA))
 have hh9:Below wq1.heap.size wq1 wf9:=Bt hh7 belA
 clear hf9 hh7
 clear cX1 lX1 fX1
 replace X1:=X1.bl hh9
 replace X2:=X2.bl hh9
 have hk10:=Bt hk2 hh9
 clear hk2
 clear hh9
 obtain ⟨cX2,lX2,fX2⟩:=X2.clf
 have hres:=X2.out
 have cres:=hres.cell
 have fres:=hres.free
 go_wp2_with fail
 refine ret_c rfl rfl boxA Tryz.underlying123 rfl zk ?_
 exact ⟨_,rfl,belA,_,_,_,_,_,_,_,_,rfl,Pl.set4 NA.out hres zd _ _ _ _,Pl.set4 NB.out hres zd _ _ _ _⟩
theorem szq_sub {k:Nat} {p q:Rat} (h:szq k p) (i:szq k q):szq (2*k+1) (p - q):=by
 rw [Rat.sub_eq_add_neg]
 exact szq_add h (szq_neg i)
theorem In_at {a:Fr} {q:Rat} (h:rd a=some q) (W:World):Calls Tryz.prog 132 #[a.v] W (RaPost W q):=In_ok a.n a.d q W h
--for F=Add|Sub|Mul;G=addF|subF|mulF;P=Plus_ok|Minus_ok|Times_ok;O=p+q|p - q|p*q;S=(szq_add hp hq).mono zo|(szq_sub hp hq).mono zo|(szq_mul hp hq).mono zo
end Go.Proofs.verdigrisref02
namespace Go.Proofs.verdigrisref01
open Go Go.RowKit Go.SW Go.Num Go.Mem Go.Proofs Go.Dec
def Words (w:World) (v:Value):Prop:=∃ (a:Option Addr) (n cap:Nat) (U:Nat→Int),v= .slice a n cap∧n≤9223372036854775807∧∀ k,k<n→∃ b off,a=some ⟨b,off,none⟩∧b<w.heap.size∧w.cell? ⟨b,off+k,none⟩=some (.int .u16 (U k))∧0≤U k∧U k≤65535
theorem Words.later {w w':World} {v:Value} (h:Words w v) (hb:Below w.heap.size w w'):Words w' v:=by
 obtain ⟨a,n,cap,U,rfl,hn,h⟩:=h
 refine ⟨a,n,cap,U,rfl,hn,fun k hk=>?_⟩
 obtain ⟨b,off,rfl,h1,h2,h3⟩:=h k hk
 exact ⟨b,off,rfl,Nat.lt_of_lt_of_le h1 hb.size,(hb.cell (p:=⟨b,off+k,none⟩) h1).trans h2,h3⟩
def thou (U:Nat→Int):Nat→Int
 | 0=>0
 | k+1=>thou U k*1000+(U k).tmod 1000
theorem Small_ok (f:Bool) (v:Value) (z:Int) (w:World) (h:Words w v):∃ m:Int,(-999999≤m∧m≤999999)∧∀ W,Below w.heap.size w W →
  Calls Tryz.prog 165 #[.agg #[.bool f,v,.int .u16 z]] W (fun e w'=>e= .returned (.int .i64 m)∧Below W.heap.size W w'):=by
 have W0:∀ z:Int, -1000000000≤z∧z≤1000000000→IntKind.i64.wrap z=z:=fun z h=>by unfold IntKind.wrap;simp [IntKind.bits,IntKind.signed];split<;>omega
 obtain ⟨a,n,cap,U,rfl,hn,hread⟩:=h
 have R0:∀ k,k<n→0≤(U k).tmod 1000∧(U k).tmod 1000≤999:=fun k hk=>by
  obtain ⟨_,_,_,_,_,h0,_⟩:=hread k hk
  rw [Int.tmod_eq_emod_of_nonneg h0]
  omega
 have T0:∀ k,k≤n→k≤2→0≤thou U k∧thou U k<1000^k:=fun k hk h2=>by
  rcases (by omega:k=0∨k=1∨k=2) with rfl|rfl|rfl
  ·simp [thou]
  ·have:=R0 0 zo
   simp [thou]
   omega
  ·have:=R0 0 zo
   have:=R0 1 zo
   simp [thou]
   omega
 have T1:∀ k,k≤n→k≤2→0≤thou U k∧thou U k≤999999:=fun k hk h2=>by
  have:=T0 k hk h2
  rcases (by omega:k=0∨k=1∨k=2) with rfl|rfl|rfl<;>omega
 have TM:=T1 (min n 2) zo zo
 refine ⟨if f then -thou U (min n 2) else thou U (min n 2),by split<;>omega,fun W hW=>?_⟩
 have H:Hid (∀ k,k<n→∃ b off,a=some ⟨b,off,none⟩∧b<W.heap.size∧W.cell? ⟨b,off+k,none⟩=some (.int .u16 (U k))∧0≤U k∧U k≤65535):=zh fun k hk=>by
  obtain ⟨b,off,rfl,h1,h2,h3⟩:=hread k hk
  exact ⟨b,off,rfl,Nat.lt_of_lt_of_le h1 hW.size,(hW.cell (p:=⟨b,off+k,none⟩) h1).trans h2,h3⟩
 have HW:=zh W0
 have HR:=zh R0
 have HT:=zh T1
 have HS:Hid (∀ k,thou U (k+1)=thou U k*1000+(U k).tmod 1000):=zh fun k=>rfl
 have H0:Hid (thou U 0=0):=zh rfl
 obtain ⟨mv,Emv⟩:∃ y,Hid ((if f=true then -thou U (min n 2) else thou U (min n 2))=y):=⟨_,zh rfl⟩
 rw [Emv.out]
 clear hread W0 R0 T0 T1 TM hW w
 generalize thou U=F at *
 go_enter Tryz.func165,Tryz.ntmps165
 go_wp2_with fail
 go_loopw [3,4] (fun tv iv wr=>∃ k:Nat,iv= .int .i64 (k:Int)∧tv= .int .i64 (F k)∧k≤n∧k≤2∧Below W.heap.size W wr∧Box wr W.heap.size #[.bool f,.slice a n cap,.int .u16 z] 185) (fun _ iv _=>2 - (intOf iv).toNat)
 case atStart=>exact ⟨0,rfl,by rw [H0.out],by omega,by omega,belA,boxA⟩
 case round =>
  obtain ⟨k,rfl,rfl,hkn,hk2,hb,hB⟩:=hrel
  have cB:=hB.cell
  have lB:=hB.lt
  have ht:=HT.out k hkn hk2
  by_cases hex:k<n∧k<2
  ·obtain ⟨h1,h2⟩:=hex
   obtain ⟨b,off,rfl,lb,cx,u0,u1⟩:=H.out k h1
   have cx':=(hb.cell (p:=⟨b,off+k,none⟩) lb).trans cx
   have g1:decide ((k:Int)<(n:Int))=true:=by simp;omega
   have g2:decide ((k:Int)<2)=true:=by simp;omega
   have hr:=HR.out k h1
   have HSk:=zh (HS.out k)
   obtain ⟨r,Er⟩:∃ r,(U k).tmod 1000=r:=⟨_,rfl⟩
   rw [Er] at hr HSk
   obtain ⟨t,Et⟩:∃ t,F k=t:=⟨_,rfl⟩
   rw [Et] at ht HSk ⊢
   have t2:t≤999999:=ht.2
   have w1:IntKind.u16.wrap r=r:=by unfold IntKind.wrap;simp [IntKind.bits,IntKind.signed];omega
   have w2:=HW.out r zo
   have w3:=HW.out (t*1000) zo
   have w4:=HW.out (t*1000+r) zo
   clear cx lb
   go_wp2_with fail
   go_roundw
   case rel=>exact ⟨k+1,by go_num,by rw [HSk.out],by omega,by omega,hb,hB⟩
   case measure=>exact zM
  ·have hkm:k=min n 2:=by omega
   have hw5:=HW.out (-F k) zo
   have HM:Hid (mv=if f=true then -F k else F k):=zh (by rw [← Emv.out,hkm])
   obtain ⟨t,Et⟩:∃ t,F k=t:=⟨_,rfl⟩
   rw [Et] at hw5 HM ⊢
   clear ht Et Emv hkm
   rcases (by omega:k=n∨(k=2∧2<n)) with rfl|⟨rfl,h3⟩
   ·cases f
    ·go_wp2_with fail
     go_ret
     exact ⟨by rw [HM.out];rfl,hb⟩
    ·go_wp2_with fail
     go_ret
     exact ⟨by rw [HM.out];rfl,hb⟩
   ·have g1:decide ((2:Int)<(n:Int))=true:=by simp;omega
    cases f
    ·go_wp2_with fail
     go_ret
     exact ⟨by rw [HM.out];rfl,hb⟩
    ·go_wp2_with fail
     go_ret
     exact ⟨by rw [HM.out];rfl,hb⟩
end Go.Proofs.verdigrisref01
namespace Go.Proofs.verdigrisref02
open Go Go.RowKit Go.SW Go.Num Go.Mem Go.Proofs Go.Dec Go.Proofs.verdigrisref01 Go.Fra
theorem short_q {n d:Int} (h1: -999≤n∧n≤999) (h2:1≤d∧d≤60):okq ((n:Rat) / (d:Rat))=true:=by
 obtain ⟨l1,l2⟩:=low_le (n:=n) (d:=d) zo
 have h3:2000<tenTo 600:=by
  unfold tenTo
  have:=Nat.pow_le_pow_right (n:=10) zo (show 4≤600 by omega)
  omega
 unfold okq okn
 rw [Bool.and_eq_true]
 exact ⟨decide_eq_true zo,decide_eq_true zo⟩
theorem Short_sm (f1 f2:Bool) (v1 v2:Value) (z1 z2:Int) (w0:World) (h1:Words w0 v1) (h2:Words w0 v2):∃ q:Rat,(okq q=true∧q.num.natAbs≤999∧q.den≤60)∧∀ w,Below w0.heap.size w0 w →
  Calls Tryz.prog 111 #[.agg #[.bool f1,v1,.int .u16 z1,.bool f2,v2,.int .u16 z2]] w (fun e w'=>e= .returned (Fr.of q).v∧Below w.heap.size w w'):=by
 have W0:∀ z:Int, -1000000000≤z∧z≤1000000000→IntKind.i64.wrap z=z:=fun z h=>by unfold IntKind.wrap;simp [IntKind.bits,IntKind.signed];split<;>omega
 obtain ⟨n,hn,A1⟩:=Small_ok f1 v1 z1 w0 h1
 obtain ⟨m,hm,A2⟩:=Small_ok f2 v2 z2 w0 h2
 obtain ⟨a1,n1,c1,U1,rfl, -⟩:=h1
 obtain ⟨a2,n2,c2,U2,rfl, -⟩:=h2
 obtain ⟨t,Et⟩:∃ t,n.tmod 1000=t:=⟨_,rfl⟩
 obtain ⟨r,Er⟩:∃ r,(if m<0 then -m else m).tmod 60=r:=⟨_,rfl⟩
 have e1:=Int.tmod_lt_of_pos n (show (0:Int)<1000 by omega)
 have e2:=Int.lt_tmod_of_pos n (show (0:Int)<1000 by omega)
 have e3:=Int.tmod_eq_emod_of_nonneg (b:=60) (show 0≤(if m<0 then -m else m) by split<;>omega)
 rw [Et] at e1 e2
 rw [Er] at e3
 have r0:0≤r∧r≤59:=by rw [e3];omega
 have wt:=W0 t zo
 have wr':=W0 r zo
 have wr1:=W0 (1+r) zo
 have wm:=W0 (-m) zo
 have hq:=short_q (n:=t) (d:=1+r) zo zo
 have hbd:=low_le (n:=t) (d:=1+r) zo
 refine ⟨(t:Rat) / ((1+r:Int):Rat),⟨hq,by omega,by omega⟩,fun w hW=>?_⟩
 clear hbd
 have H1:=zh (fun W (h:Below w.heap.size w W)=>A1 W (Bt hW h))
 have H2:=zh (fun W (h:Below w.heap.size w W)=>A2 W (Bt hW h))
 have H3:=zh (fun W=>Quick_ok t (1+r) zo zo zo zo zo W)
 obtain ⟨l1,l2⟩:=low_le (n:=t) (d:=1+r) zo
 have H4:=zh (fun x W hx=>Out_ok x ((t:Rat) / ((1+r:Int):Rat)) W hx (Nat.le_trans (sz_mono zo l1) (Nat.le_trans (sz_i64 zo zo) zo)) (Nat.le_trans (sz_mono zo l2) (Nat.le_trans (sz_i64 zo zo) zo)))
 clear A1 A2 hW l1 l2 W0
 generalize (t:Rat) / ((1+r:Int):Rat)=q at *
 have E:wr q=(Fr.of q,0):=by unfold wr;rw [if_pos hq]
 rw [E] at H4
 obtain ⟨⟨s1,s2⟩,EQ⟩:∃ y,Fr.of q=y:=⟨_,rfl⟩
 rw [EQ] at H4 ⊢
 replace H4:Hid (∀ x W,Ra W x q→Calls Tryz.prog 75 #[x] W (fun e w'=>e= .returned (.tuple #[.agg #[.string s1,.string s2],.int .i64 0])∧Below W.heap.size W w')):=H4
 unfold Fr.v
 clear E EQ hq e1 e2 e3 hn hm
 by_cases hm0:m<0
 ·rw [if_pos hm0] at Er
  go_enter Tryz.func111,Tryz.ntmps111
  go_wp2_with fail
  obtain ⟨wq1,EW,hz,X1,X2⟩:=al2 w #[.bool f1,.slice a1 n1 c1,.int .u16 z1,.bool f2,.slice a2 n2 c2,.int .u16 z2] 187 #[.string ⟨#[]⟩,.string ⟨#[]⟩] 59
  rw [EW]
  have hk2:=Bt (Below.refl _ _) hz
  clear EW hz
  refine (H2.out _ hk2).mono ?_
  rintro e wc3 ⟨rfl,hb3⟩
  replace X1:=X1.bl hb3
  replace X2:=X2.bl hb3
  have hk5:=Bt hk2 hb3
  clear hk2
  clear hb3
  obtain ⟨cX1,lX1,fX1⟩:=X1.clf
  go_wp2_with fail
  clear cX1 lX1 fX1
  refine (H1.out _ hk5).mono ?_
  rintro e wc6 ⟨rfl,hb6⟩
  replace X1:=X1.bl hb6
  replace X2:=X2.bl hb6
  have hk8:=Bt hk5 hb6
  clear hk5
  clear hb6
  go_wp2_with fail
  refine (H3.out _).mono ?_
  rintro e wc9 ⟨vq,rfl,hb9,hq⟩
  replace X1:=X1.bl hb9
  replace X2:=X2.bl hb9
  have hk11:=Bt hk8 hb9
  clear hk8
  have NQ:=zh hq
  clear hb9 hq
  go_wp2_with fail
  refine (H4.out _ _ NQ.out).mono ?_
  rintro e wc12 ⟨rfl,hb12⟩
  replace X1:=X1.bl hb12
  replace X2:=X2.bl hb12
  replace NQ:=zh (NQ.out.later hb12)
  have hk14:=Bt hk11 hb12
  clear hk11
  clear hb12
  obtain ⟨cX2,lX2,fX2⟩:=X2.clf
  have hres:=X2.out
  have cres:=hres.cell
  have fres:=hres.free
  go_wp2_with fail
  refine ret_c rfl rfl boxA Tryz.underlying59 rfl zk ?_
  exact ⟨rfl,belA⟩
 ·rw [if_neg hm0] at Er
  go_enter Tryz.func111,Tryz.ntmps111
  go_wp2_with fail
  obtain ⟨wq1,EW,hz,X1,X2⟩:=al2 w #[.bool f1,.slice a1 n1 c1,.int .u16 z1,.bool f2,.slice a2 n2 c2,.int .u16 z2] 187 #[.string ⟨#[]⟩,.string ⟨#[]⟩] 59
  rw [EW]
  have hk2:=Bt (Below.refl _ _) hz
  clear EW hz
  refine (H2.out _ hk2).mono ?_
  rintro e wc3 ⟨rfl,hb3⟩
  replace X1:=X1.bl hb3
  replace X2:=X2.bl hb3
  have hk5:=Bt hk2 hb3
  clear hk2
  clear hb3
  obtain ⟨cX1,lX1,fX1⟩:=X1.clf
  go_wp2_with fail
  clear cX1 lX1 fX1
  refine (H1.out _ hk5).mono ?_
  rintro e wc6 ⟨rfl,hb6⟩
  replace X1:=X1.bl hb6
  replace X2:=X2.bl hb6
  have hk8:=Bt hk5 hb6
  clear hk5
  clear hb6
  go_wp2_with fail
  refine (H3.out _).mono ?_
  rintro e wc9 ⟨vq,rfl,hb9,hq⟩
  replace X1:=X1.bl hb9
  replace X2:=X2.bl hb9
  have hk11:=Bt hk8 hb9
  clear hk8
  have NQ:=zh hq
  clear hb9 hq
  go_wp2_with fail
  refine (H4.out _ _ NQ.out).mono ?_
  rintro e wc12 ⟨rfl,hb12⟩
  replace X1:=X1.bl hb12
  replace X2:=X2.bl hb12
  replace NQ:=zh (NQ.out.later hb12)
  have hk14:=Bt hk11 hb12
  clear hk11
  clear hb12
  obtain ⟨cX2,lX2,fX2⟩:=X2.clf
  have hres:=X2.out
  have cres:=hres.cell
  have fres:=hres.free
  go_wp2_with fail
  refine ret_c rfl rfl boxA Tryz.underlying59 rfl zk ?_
  exact ⟨rfl,belA⟩
end Go.Proofs.verdigrisref02
