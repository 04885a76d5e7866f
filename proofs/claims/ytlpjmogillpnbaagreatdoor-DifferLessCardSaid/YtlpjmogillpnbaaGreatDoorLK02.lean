/- Lemmas for the proof. No condition. -/
import Derived.Test.YtlpjmogillpnbaaGreatDoorLK01
set_option linter.unusedVariables false
set_option linter.unusedSimpArgs false
set_option maxRecDepth 100000
set_option maxHeartbeats 16000000
namespace Go.Proofs.differ
open Go Go.RowKit Go.Num Go.Mem Go.Proofs Go.gW Go.Proofs.aQ Go.Proofs.matrix Go.Proofs.lab Go.Proofs.mO Go.Proofs.iq
theorem bump_in {x y:Int × Int} (h_x:Sb x opn) (h_y:Sb y opn):∃ t,Ox x y=(t,0)∧Sb t (360000000000,917091392280):=by
 unfold opn at *;obtain ⟨a1,e1,h_a1⟩:=iso_mul (Sb.refl (a:=(819152044300,819152044300)) zd) h_x (C:=((-819152044300),819152044300)) (by decide+kernel);obtain ⟨b1,e2,h_b1⟩:=iso_mul (Sb.refl (a:=(573576436400,573576436400)) zd) h_y (C:=((-573576436400),573576436400)) (by decide+kernel);obtain ⟨c1,e3,h_c1⟩:=iso_sub h_a1 h_b1 (C:=((-1392728480700),1392728480700)) (by decide+kernel);obtain ⟨d1,e4,h_d1⟩:=iso_scl (n:=4) (d:=10) h_c1 (C:=((-557091392280),557091392280)) (by decide+kernel);obtain ⟨f1,e5,h_f1⟩:=iso_abs h_d1 (C:=(0,557091392280)) (by decide+kernel);obtain ⟨near,e6,h_near⟩:=iso_add (Sb.refl (a:=(360000000000,360000000000)) zd) h_f1 (C:=(360000000000,917091392280)) (by decide+kernel);obtain ⟨a2,e7,h_a2⟩:=iso_mul (Sb.refl (a:=((-978147600700),(-978147600700))) zd) h_x (C:=((-978147600700),978147600700)) (by decide+kernel)
 obtain ⟨b2,e8,h_b2⟩:=iso_mul (Sb.refl (a:=(207911690800,207911690800)) zd) h_y (C:=((-207911690800),207911690800)) (by decide+kernel);obtain ⟨c2,e9,h_c2⟩:=iso_sub h_a2 h_b2 (C:=((-1186059291500),1186059291500)) (by decide+kernel);obtain ⟨d2,e10,h_d2⟩:=iso_scl (n:=2) (d:=10) h_c2 (C:=((-237211858300),237211858300)) (by decide+kernel);obtain ⟨f2,e11,h_f2⟩:=iso_abs h_d2 (C:=(0,237211858300)) (by decide+kernel);obtain ⟨far,e12,h_far⟩:=iso_add (Sb.refl (a:=(560000000000,560000000000)) zd) h_f2 (C:=(560000000000,797211858300)) (by decide+kernel);obtain ⟨a3,e13,h_a3⟩:=iso_mul (Sb.refl (a:=(965925826300,965925826300)) zd) h_y (C:=((-965925826300),965925826300)) (by decide+kernel);obtain ⟨b3,e14,h_b3⟩:=iso_mul (Sb.refl (a:=(258819045100,258819045100)) zd) h_x (C:=((-258819045100),258819045100)) (by decide+kernel)
 obtain ⟨p,e15,h_p⟩:=iso_add h_a3 h_b3 (C:=((-1224744871400),1224744871400)) (by decide+kernel);obtain ⟨a4,e16,h_a4⟩:=iso_mul (Sb.refl (a:=(275637355800,275637355800)) zd) h_x (C:=((-275637355800),275637355800)) (by decide+kernel);obtain ⟨b4,e17,h_b4⟩:=iso_mul (Sb.refl (a:=(961261695900,961261695900)) zd) h_y (C:=((-961261695900),961261695900)) (by decide+kernel);obtain ⟨q,e18,h_q⟩:=iso_add h_a4 h_b4 (C:=((-1236899051700),1236899051700)) (by decide+kernel);obtain ⟨⟨hl,k1,k2⟩,k3,k4⟩:=iso_hull h_near h_far (C:=(360000000000,917091392280)) (by decide+kernel);unfold Ox;rw [jJ e1,jJ e2,jJ e3,jJ e4,jJ e5,jJ e6,jJ e7,jJ e8,jJ e9,jJ e10,jJ e11,jJ e12,jJ e13,jJ e14,jJ e15,jJ e16,jJ e17,jJ e18];split
 ·exact ⟨_,rfl,k3⟩
 ·split
  ·exact ⟨_,rfl,k4⟩
  ·rw [jJ k1];exact ⟨_,rfl,k2⟩
theorem pl_in {f g:Int × Int} (h_f:Sb f (0,182000000000000)):∃ c h,plE f g=(((f,g),E1,c,h),0)∧Sb c (1000000000000,9190000000000)∧Sb h (1000000000000,3730000000000):=by
 obtain ⟨t,e1,h_t⟩:=iso_mul (Sb.refl (a:=(45000000000,45000000000)) zd) h_f (C:=(0,8190000000000)) (by decide+kernel);obtain ⟨c,e2,h_c⟩:=iso_add (Sb.refl (a:=(1000000000000,1000000000000)) zd) h_t (C:=(1000000000000,9190000000000)) (by decide+kernel);obtain ⟨s,e3,h_s⟩:=iso_mul (Sb.refl (a:=(15000000000,15000000000)) zd) h_f (C:=(0,2730000000000)) (by decide+kernel);obtain ⟨h,e4,h_h⟩:=iso_add (Sb.refl (a:=(1000000000000,1000000000000)) zd) h_s (C:=(1000000000000,3730000000000)) (by decide+kernel);refine ⟨c,h,?_,h_c,h_h⟩;unfold plE;rw [jJ e1,jJ e2,jJ e3,jJ e4];rfl
theorem txs_in {f g l:Int × Int} {A:light.uF} {u:B2} (h_f:Sb f (0,5000000000000)) (hu:Nq A.x A.y A.z=(u,0)) (h_x:Sb u.1 opn) (h_y:Sb u.2 opn):∃ c h,Zw l f g A=(((f,g),l,c,h),0)∧Sb c (638000000000,957000000000)∧Sb h (272081904475,1460370503529):=by
 obtain ⟨a,e1,h_a⟩:=iso_mul (Sb.refl (a:=(63800000000,63800000000)) zd) h_f (C:=(0,319000000000)) (by decide+kernel);obtain ⟨b,e2,h_b⟩:=iso_mul (Sb.refl (a:=(13100000000,13100000000)) zd) h_f (C:=(0,65500000000)) (by decide+kernel);obtain ⟨d,e3,h_d⟩:=iso_add (Sb.refl (a:=(1000000000000,1000000000000)) zd) h_b (C:=(1000000000000,1065500000000)) (by decide+kernel);obtain ⟨p,e4,h_p⟩:=iso_div h_a h_d zd (C:=(0,319000000000)) (by decide+kernel);obtain ⟨c,e5,h_c⟩:=iso_add h_p (Sb.refl (a:=(638000000000,638000000000)) zd) (C:=(638000000000,957000000000)) (by decide+kernel);obtain ⟨s,e6,h_s⟩:=iso_scl (n:=1) (d:=10) h_f (C:=(0,500000000000)) (by decide+kernel);obtain ⟨s2,e7,h_s2⟩:=iso_sqr h_s (C:=(0,250000000000)) (by decide+kernel);obtain ⟨q,e8,h_q⟩:=iso_sqr h_s2 (C:=(0,62500000000)) (by decide+kernel)
 obtain ⟨d2,e9,h_d2⟩:=iso_add h_q (Sb.refl (a:=(190000000000,190000000000)) zd) (C:=(190000000000,252500000000)) (by decide+kernel);obtain ⟨e,e10,h_e⟩:=iso_div h_q h_d2 zd (C:=(0,328947368422)) (by decide+kernel);obtain ⟨r,e11,h_r⟩:=iso_root h_e (C:=(0,573539334678)) (by decide+kernel);obtain ⟨v,e12,h_v⟩:=iso_clp (lo:=0) (hi:=1000000000000) h_r (C:=(0,573539334678)) (by decide+kernel);obtain ⟨t,e0,h_t⟩:=bump_in h_x h_y;obtain ⟨m,e13,h_m⟩:=iso_mul h_v h_t (C:=(0,525987986968)) (by decide+kernel);obtain ⟨n,e14,h_n⟩:=iso_add h_m (Sb.refl (a:=(1000000000000,1000000000000)) zd) (C:=(1000000000000,1525987986968)) (by decide+kernel);obtain ⟨o,e15,h_o⟩:=iso_sub h_n h_v (C:=(426460665322,1525987986968)) (by decide+kernel);obtain ⟨h,e16,h_h⟩:=iso_mul h_c h_o (C:=(272081904475,1460370503529)) (by decide+kernel);refine ⟨c,h,?_,h_c,h_h⟩;unfold Zw
 rw [jJ e1,jJ e2,jJ e3,jJ e4,jJ e5,jJ e6,jJ e7,jJ e8,jJ e9,jJ e10,jJ e11,jJ e12,jJ hu,jJ e0,jJ e13,jJ e14,jJ e15,jJ e16];rfl
theorem txg_in {f g l:Int × Int} {A:light.uF} {u:B2} (h_f:Sb f (4000000000000,182000000000000)) (hu:Nq A.x A.y A.z=(u,0)) (h_x:Sb u.1 opn) (h_y:Sb u.2 opn):∃ c h,Zw l f g A=(((f,g),l,c,h),0)∧Sb c (713409254772,11671447358419)∧Sb h (124055842,22369593582664):=by
 obtain ⟨a,e1,h_a⟩:=iso_mul (Sb.refl (a:=(63800000000,63800000000)) zd) h_f (C:=(255200000000,11611600000000)) (by decide+kernel);obtain ⟨b,e2,h_b⟩:=iso_mul (Sb.refl (a:=(13100000000,13100000000)) zd) h_f (C:=(52400000000,2384200000000)) (by decide+kernel);obtain ⟨d,e3,h_d⟩:=iso_add (Sb.refl (a:=(1000000000000,1000000000000)) zd) h_b (C:=(1052400000000,3384200000000)) (by decide+kernel);obtain ⟨p,e4,h_p⟩:=iso_div h_a h_d zd (C:=(75409254772,11033447358419)) (by decide+kernel);obtain ⟨c,e5,h_c⟩:=iso_add h_p (Sb.refl (a:=(638000000000,638000000000)) zd) (C:=(713409254772,11671447358419)) (by decide+kernel);obtain ⟨s,e6,h_s⟩:=iso_scl (n:=1) (d:=10) h_f (C:=(400000000000,18200000000000)) (by decide+kernel);obtain ⟨s2,e7,h_s2⟩:=iso_sqr h_s (C:=(160000000000,331240000000000)) (by decide+kernel);obtain ⟨q,e8,h_q⟩:=iso_sqr h_s2 (C:=(25600000000,109719937600000000)) (by decide+kernel)
 obtain ⟨d2,e9,h_d2⟩:=iso_add h_q (Sb.refl (a:=(190000000000,190000000000)) zd) (C:=(215600000000,109720127600000000)) (by decide+kernel);obtain ⟨e,e10,h_e⟩:=iso_div h_q h_d2 zd (C:=(233320,508905090909090910)) (by decide+kernel);obtain ⟨r,e11,h_r⟩:=iso_root h_e (C:=(483032090,713375841270989)) (by decide+kernel);obtain ⟨v,e12,h_v⟩:=iso_clp (lo:=0) (hi:=1000000000000) h_r (C:=(483032090,1000000000000)) (by decide+kernel);obtain ⟨t,e0,h_t⟩:=bump_in h_x h_y;obtain ⟨m,e13,h_m⟩:=iso_mul h_v h_t (C:=(173891552,917091392280)) (by decide+kernel);obtain ⟨n,e14,h_n⟩:=iso_add h_m (Sb.refl (a:=(1000000000000,1000000000000)) zd) (C:=(1000173891552,1917091392280)) (by decide+kernel);obtain ⟨o,e15,h_o⟩:=iso_sub h_n h_v (C:=(173891552,1916608360190)) (by decide+kernel);obtain ⟨h,e16,h_h⟩:=iso_mul h_c h_o (C:=(124055842,22369593582664)) (by decide+kernel);refine ⟨c,h,?_,h_c,h_h⟩;unfold Zw
 rw [jJ e1,jJ e2,jJ e3,jJ e4,jJ e5,jJ e6,jJ e7,jJ e8,jJ e9,jJ e10,jJ e11,jJ e12,jJ hu,jJ e0,jJ e13,jJ e14,jJ e15,jJ e16];rfl
end Go.Proofs.differ
namespace Go.Proofs.differ
open Go Go.RowKit Go.Num Go.Mem Go.Proofs Go.gW Go.Proofs.aQ Go.Proofs.matrix Go.Proofs.lab Go.Proofs.mO Go.Proofs.iq
theorem half_le {A c:Int} (hc:0<c) (h:c≤2*A):1 / 2≤un A*(un c)⁻¹:=by
 have p:=un_pos hc;have h1:=Cq.2 h;have h2:un (2*A)=2*un A:=by rw [Int.two_mul,un_add];grind
 rw [h2] at h1;have i:=Rat.inv_pos.2 p;have n:un c≠0:=fun e=>by rw [e] at p;exact absurd p Rat.lt_irrefl
 have h3:1 / 2*un c≤un A:=by grind
 have h4:=Rat.mul_le_mul_of_nonneg_right h3 (Rat.le_of_lt i)
 rwa [Rat.mul_assoc,Rat.mul_inv_cancel _ n,Rat.mul_one] at h4
theorem half_un:(500000000000:Int)≤(1 / 2*((1000000000000:Int):Rat)).floor:=by decide+kernel
theorem part_pt {A:Int} {c:Int × Int} (hA:A.natAbs≤128000000000000) (hc:Sb c (10000000000,182000000000000)):∃ x,Ir (pt A) c=(x,0)∧Sb x opn∧(c.2≤2*(A.natAbs:Int)→500000000000≤Ca x):=by
 have sA:Sb (pt A) (-128000000000000,128000000000000):=⟨by show -128000000000000≤A;omega,Int.le_refl _,by show A≤128000000000000;omega⟩;obtain ⟨q,e1,hq⟩:=iso_div sA hc zd (C:=(-12800000000000000,12800000000000000)) (by decide+kernel);obtain ⟨x,e2,hx⟩:=iso_clp (lo:= -1000000000000) (hi:=1000000000000) hq (C:=(-1000000000000,1000000000000)) (by decide+kernel);refine ⟨x,?_,hx,fun h2=>?_⟩
 ·unfold Ir;rw [jJ e1,jJ e2];rfl
 have c0:=hc.lo;have c1:=hc.le;have okA:okB [pt A,c]=true:=okB2 (sA.jc zd) (hc.jc zd);rw [div_tight okA zo c1] at e1;unfold tightE at e1;have eq:=made_out e1;rw [flr_eq,flr_eq] at eq
 have ex:x=(min (max q.1 (-1000000000000)) 1000000000000,min (max q.2 (-1000000000000)) 1000000000000):=by
  unfold zO Uy at e2;obtain ⟨-, e3⟩:=ok_if zd e2;obtain ⟨-, e4⟩:=ok_if zd e3;exact made_out e4
 have key:500000000000≤q.1∨q.2≤ -500000000000:=by
  simp only [pt,Rat.div_def] at eq
  rcases Int.le_total 0 A with hs|hs
  ·have g1:=half_le (A:=A) (c:=c.1) zo zo;have g2:=half_le (A:=A) (c:=c.2) zo zo;obtain ⟨m1, -⟩:=low4 (un A*(un c.1)⁻¹) (un A*(un c.2)⁻¹) (un A*(un c.1)⁻¹) (un A*(un c.2)⁻¹);generalize lowQ (un A*(un c.1)⁻¹) [un A*(un c.2)⁻¹,un A*(un c.1)⁻¹,un A*(un c.2)⁻¹]=lo at *;have hlo:1 / 2≤lo:=by rcases m1 with rfl|rfl|rfl|rfl<;>assumption
   refine .inl ?_;rw [eq];refine Int.le_trans half_un (Rat.le_floor_iff.2 (Rat.le_trans (Rat.floor_le _) (Rat.mul_le_mul_of_nonneg_right hlo (Rat.le_of_lt SI))))
  ·have g1:=half_le (A:= -A) (c:=c.1) zo zo;have g2:=half_le (A:= -A) (c:=c.2) zo zo;rw [un_neg,Rat.neg_mul] at g1 g2;obtain ⟨m1, -⟩:=high4 (un A*(un c.1)⁻¹) (un A*(un c.2)⁻¹) (un A*(un c.1)⁻¹) (un A*(un c.2)⁻¹);generalize highQ (un A*(un c.1)⁻¹) [un A*(un c.2)⁻¹,un A*(un c.1)⁻¹,un A*(un c.2)⁻¹]=hi at *;have hhi:1 / 2≤ -hi:=by rcases m1 with rfl|rfl|rfl|rfl<;>assumption
   refine .inr ?_;rw [eq];have:(500000000000:Int)≤(-(hi*((1000000000000:Int):Rat))).floor:=Int.le_trans half_un (Rat.le_floor_iff.2 (Rat.le_trans (Rat.floor_le _) (by rw [← Rat.neg_mul];exact Rat.mul_le_mul_of_nonneg_right hhi (Rat.le_of_lt SI))))
   show -(-(hi*((1000000000000:Int):Rat))).floor≤ -500000000000
   omega
 have RS:=hq.le;rw [ex];unfold Ca;simp only;omega
theorem ch_big {a b:Int} (h0:¬ (a=0∧b=0)) (ha:a.natAbs≤12800) (hb:b.natAbs≤12800):Sb (chN a b) (10000000000,182000000000000)∧((chN a b).2≤2*((a*10000000000).natAbs:Int)∨(chN a b).2≤2*((b*10000000000).natAbs:Int)):=by
 obtain ⟨s1,s2⟩:=ch_in ha hb;have n1:(a*10000000000).natAbs≤nlo [(a*10000000000).natAbs,(b*10000000000).natAbs]:=le_nlo (by rw [sq2];omega);have n2:(b*10000000000).natAbs≤nlo [(a*10000000000).natAbs,(b*10000000000).natAbs]:=le_nlo (by rw [sq2];omega)
 have hh:nhi [(a*10000000000).natAbs,(b*10000000000).natAbs]≤2*max (a*10000000000).natAbs (b*10000000000).natAbs:=by
  refine nhi_le ?_;rw [sq2];have a1:=Nat.pow_le_pow_left (show (a*10000000000).natAbs≤max (a*10000000000).natAbs (b*10000000000).natAbs by omega) 2;have a2:=Nat.pow_le_pow_left (show (b*10000000000).natAbs≤max (a*10000000000).natAbs (b*10000000000).natAbs by omega) 2;generalize max (a*10000000000).natAbs (b*10000000000).natAbs=m at *;rw [Nat.mul_pow];omega
 refine ⟨⟨?_,s1.le,s1.hi⟩,?_⟩
 ·show (10000000000:Int)≤((nlo [(a*10000000000).natAbs,(b*10000000000).natAbs]:Nat):Int)
  omega
 ·have e:(chN a b).2=((nhi [(a*10000000000).natAbs,(b*10000000000).natAbs]:Nat):Int):=rfl;rw [e];omega
theorem hue_in {l a b:Int} (h:Lh l a b) (h0:¬ (a=0∧b=0)):∃ x y,Nq (Fr.of (qy l)) (Fr.of (qy a)) (Fr.of (qy b))=((x,y),0)∧Sb x opn∧Sb y opn∧(500000000000≤Ca x∨500000000000≤Ca y):=by
 have ha:=h.a;have hb:=h.b;have l0:=h.l0;have l1:=h.l1;obtain ⟨c1,c2⟩:=ch_big h0 ha hb;obtain ⟨x,e1,hx,kx⟩:=part_pt (A:=a*10000000000) zo c1;obtain ⟨y,e2,hy,ky⟩:=part_pt (A:=b*10000000000) zo c1;refine ⟨x,y,?_,hx,hy,c2.imp kx ky⟩
 have bz:∀ z:Int,z.natAbs≤128000000000000→lab.pK (pt z)=0:=fun z hz=>by
  unfold lab.pK;rw [if_pos (show jc (pt z).1 (pt z).2=true from bok_yes (by show -1000000000000000000≤z;omega) (Int.le_refl _) (by show z≤1000000000000000000;omega))]
 have e3:lab.CV (pt (l*10000000000),pt (a*10000000000),pt (b*10000000000))=((chN a b,x,y),0):=by
  unfold lab.CV lab.vQ;simp only [bz _ (show (l*10000000000).natAbs≤128000000000000 by omega),bz _ (show (a*10000000000).natAbs≤128000000000000 by omega),bz _ (show (b*10000000000).natAbs≤128000000000000 by omega)];rw [if_neg zd];unfold lab.Io;rw [jJ (show RU (0*1000000000000)=((0,0),0) by decide+kernel)]
  have eb:(Km (pt (a*10000000000)) (0,0)&&Km (pt (b*10000000000)) (0,0))=false:=by
   unfold Km pt;simp
   omega
  rw [eb,cond_false,jJ (nrm2_pt (u:=a*10000000000) (v:=b*10000000000) zo zo)];have c0:=c1.lo
  show (if (chN a b).1=0 then _ else aP _ (Ir _ (chN a b)) fun p=>aP _ (Ir _ (chN a b)) fun q=>lC (chN a b,p,q))=_
  rw [if_neg zo,jJ e1,jJ e2];rfl
 unfold Nq;rw [jJ (around_hun zo),jJ (around_hun ha),jJ (around_hun hb),e3];rfl
end Go.Proofs.differ
namespace Go.Proofs.differ
open Go Go.RowKit Go.Num Go.Mem Go.Proofs Go.gW Go.Proofs.aQ Go.Proofs.matrix Go.Proofs.lab Go.Proofs.mO Go.Proofs.iq
theorem hun_z:qy 0=0:=by decide+kernel
theorem hue_any {l a b:Int} (h:Lh l a b):∃ u,Nq (Fr.of (qy l)) (Fr.of (qy a)) (Fr.of (qy b))=(u,0)∧Sb u.1 opn∧Sb u.2 opn:=by
 by_cases h0:a=0∧b=0
 ·obtain ⟨rfl,rfl⟩:=h0;have l0:=h.l0;have l1:=h.l1;have h1:qy l≤100:=Gm (n:=100) zo
  have h2: -100≤qy l:=by
   have:=Gm (m:= -l) (n:=100) zo;have e:qy (-l)= -qy l:=by unfold qy;rw [Rat.intCast_neg];grind
   rw [e] at this;have h3:((100:Int):Rat)=100:=rfl;rw [h3] at this
   grind
  refine ⟨(E1,(0,0)),?_,⟨by decide,by decide,by decide⟩,⟨by decide,by decide,by decide⟩⟩;rw [hun_z];exact hue_0 (Bl zo) h2 h1
 ·obtain ⟨x,y,e,hx,hy, -⟩:=hue_in h h0;exact ⟨(x,y),e,hx,hy⟩
theorem tx_l {p:Rat} (hp:Hq 5 p) (h1:0≤p) (h2:p≤100):∃ l,Sb l (250000000000,1500000000000)∧∀ (f g:Int × Int) (a b:Rat),txE f g (lb p a b)=Zw l f g (lb p a b):=by
 have h16:Hq 5 (16:Rat):=⟨16,1,by omega,by decide,by decide,by decide+kernel⟩;have e1:tH 16 1=(Fr.of 16,0):=by decide+kernel
 have e2:=Sm hp h16 zo zo
 by_cases hc:p<16
 ·refine ⟨(511000000000,511000000000),⟨by decide,by decide,by decide⟩,fun f g a b=>?_⟩;unfold txE;rw [jJ e1]
  show (aP kW (wh (Fr.of p) (Fr.of 16)) _)=_
  rw [jJ e2,if_pos (Bu.2 hc)]
 ·have k1:Hq 7 ((40975:Rat) / 1000000):=⟨40975,1000000,by omega,by decide,by decide,by decide+kernel⟩;have k2:Hq 7 ((1765:Rat) / 100000):=⟨1765,100000,by omega,by decide,by decide,by decide+kernel⟩;have e3:dD.JL ⟨#[48,46,48,52,48,57,55,53]⟩=(Fr.of ((40975:Rat) / 1000000),0):=by decide+kernel
  have e4:dD.JL ⟨#[48,46,48,49,55,54,53]⟩=(Fr.of ((1765:Rat) / 100000),0):=by decide+kernel
  have e5:tH 1 1=(Fr.of 1,0):=by decide+kernel
  have hc':16≤p:=Rat.not_lt.1 hc;have a1:=k1.mul hp;have a2:=k2.mul hp;have a3:=Hq.one.add a2;have hb:0<1+(1765:Rat) / 100000*p:=by grind
  have hb0:1+(1765:Rat) / 100000*p≠0:=fun e=>by rw [e] at hb;exact absurd hb Rat.lt_irrefl
  have a4:=a1.div a3;obtain ⟨m,em⟩:∃ m,(40975:Rat) / 1000000*p / (1+(1765:Rat) / 100000*p)=m:=⟨_,rfl⟩;have em2:m*(1+(1765:Rat) / 100000*p)=(40975:Rat) / 1000000*p:=by rw [← em];exact Rat.div_mul_cancel hb0
  have l1:51 / 100≤m:=Rat.not_lt.1 fun h=>by
   have:=Rat.mul_lt_mul_of_pos_right h hb;rw [em2] at this
   grind
  have l2:m≤149 / 100:=Rat.not_lt.1 fun h=>by
   have:=Rat.mul_lt_mul_of_pos_right h hb;rw [em2] at this
   grind
  rw [em] at a4;have hrd:=xM (a4.ok zo);obtain ⟨l,e6,hl⟩:=in_aroundB hrd (M:=1500000000000) ⟨by rw [show un (-1500000000000)= -(3 / 2) by decide+kernel];grind,by rw [show un 1500000000000=3 / 2 by decide+kernel];grind⟩ zo;refine ⟨l,⟨around_lo hrd e6 (by rw [show un 250000000000=1 / 4 by decide+kernel];grind),hl.le,hl.2.2.2⟩,fun f g a b=>?_⟩;unfold txE;rw [jJ e1]
  show (aP kW (wh (Fr.of p) (Fr.of 16)) _)=_
  rw [jJ e2,if_neg (fun h=>hc (Bu.1 h)),jJ e3]
  show (aP kW (MR _ (Fr.of p)) _)=_
  rw [jJ (mul_f k1 hp zo),jJ e4]
  show (aP kW (MR _ (Fr.of p)) _)=_
  rw [jJ (mul_f k2 hp zo),jJ e5,jJ (add_f Hq.one a2 zo),jJ (div_f a1 a3 zo hb0),em,jJ e6]
end Go.Proofs.differ
namespace Go.Proofs.aQ
open Go Go.RowKit Go.Num Go.Mem Go.Proofs Go.gW Go.Proofs.matrix Go.Proofs.lab Go.Proofs.iq Go.Proofs.dQ
def Ct (b:Int × Int) (q:Rat):Prop:=un b.1≤q∧q≤un b.2
section
variable {a b c:Int × Int} {p q:Rat}
theorem Ct.le (h:Ct b q):b.1≤b.2:=Cq.1 (Rat.le_trans h.1 h.2)
theorem ct_lo (h:b.1≤b.2):Ct b (un b.1):=⟨Rat.le_refl,Cq.2 h⟩
theorem tight_ct {lo hi:Rat} (h1:lo≤q) (h2:q≤hi) (e:tightE lo hi=(c,0)):Ct c q:=by
 unfold tightE at e;rw [made_out e];refine ⟨?_,?_⟩
 ·rw [Jo,flr_eq];exact Rat.le_trans (Rat.floor_le _) (Rat.mul_le_mul_of_nonneg_right h1 (Rat.le_of_lt SI))
 ·rw [le_un_iff,Rat.intCast_neg];have:=Rat.floor_le (-(hi*((1000000000000:Int):Rat)));rw [← flr_eq] at this;have h5:=Rat.neg_le_neg this;rw [Rat.neg_neg] at h5;exact Rat.le_trans (Rat.mul_le_mul_of_nonneg_right h2 (Rat.le_of_lt SI)) h5
theorem four_ct {P0 P1 P2 P3:Rat} (h:Bt4 P0 P1 P2 P3 q) (e:tightE (lowQ P0 [P1,P2,P3]) (highQ P0 [P1,P2,P3])=(c,0)):Ct c q:=by
 obtain ⟨M1,M2,M3,M4,M5⟩:=low4 P0 P1 P2 P3;obtain ⟨K1,K2,K3,K4,K5⟩:=high4 P0 P1 P2 P3;refine tight_ct ?_ ?_ e
 ·rcases h.1 with h|h|h|h
  ·exact Rat.le_trans M2 h
  ·exact Rat.le_trans M3 h
  ·exact Rat.le_trans M4 h
  ·exact Rat.le_trans M5 h
 ·rcases h.2 with h|h|h|h
  ·exact Rat.le_trans h K2
  ·exact Rat.le_trans h K3
  ·exact Rat.le_trans h K4
  ·exact Rat.le_trans h K5
theorem ct_mul (ha:Ct a p) (hb:Ct b q) (e:jo a b=(c,0)):Ct c (p*q):=by
 have e0:=e;unfold jo at e0;obtain ⟨h1, -⟩:=ok_if zd e0;rw [mul_tight h1] at e;exact four_ct (seg2 ha.1 ha.2 hb.1 hb.2) e
theorem ct_div (ha:Ct a p) (hb:Ct b q) (h0:0<b.1) (e:vg a b=(c,0)):Ct c (p*q⁻¹):=by
 have e0:=e;unfold vg at e0;obtain ⟨h1, -⟩:=ok_if zd e0;rw [div_tight h1 h0 hb.le] at e;have p1:=un_pos h0;have z1:=inv_le p1 hb.1;have z2:=inv_le (Std.lt_of_lt_of_le p1 hb.1) hb.2;simp only [Rat.div_def] at e;have sw:∀ {x y z t q:Rat},Bt4 x y z t q→Bt4 y x t z q:=fun h=>⟨by rcases h.1 with h|h|h|h<;>simp [h],by rcases h.2 with h|h|h|h<;>simp [h]⟩
 exact four_ct (sw (seg2 ha.1 ha.2 z2 z1)) e
theorem ct_add (ha:Ct a p) (hb:Ct b q) (e:gU a b=(c,0)):Ct c (p+q):=by
 unfold gU at e;obtain ⟨-, e2⟩:=ok_if zd e;rw [made_out e2];refine ⟨?_,?_⟩
 ·simp only [un_add];exact Rat.le_trans (Rat.add_le_add_left.2 hb.1) (Rat.add_le_add_right.2 ha.1)
 ·simp only [un_add];exact Rat.le_trans (Rat.add_le_add_left.2 hb.2) (Rat.add_le_add_right.2 ha.2)
theorem ct_sqr (ha:Ct a p) (e:qY a=(c,0)):Ct c (p*p):=by
 have hk:=sqr_bok e;have e0:=e;rw [sqr_eq hk] at e0;obtain ⟨⟨-, h2⟩, -⟩:=ok_if zd e0;have hle:=ha.le
 have hb:Bw a≤1000000000000000:=by
  refine Nat.not_lt.1 fun h=>?_;have m:(1000000000000001:Int)*1000000000000001≤(Bw a:Int)*(Bw a:Int):=Int.mul_le_mul zo zo zo zo;have r:=rnd_mono1 m true;have r2:(1000000000000000001:Int)≤Ij (1000000000000001*1000000000000001) 1000000000000 true:=by decide+kernel
  omega
 have hi:In a p 1000000000000000:=⟨ha.1,ha.2,by unfold Bw at hb;omega,by unfold Bw at hb;omega⟩;obtain ⟨s,e1,hs, -⟩:=in_sqr 1000000000000000000 hi zo zo zo;rw [e] at e1;cases e1
 exact ⟨hs.1,hs.2.1⟩
theorem ct_around {f:Fr} (h:rd f=some q) (e:jE f=(c,0)):Ct c q:=by
 have e2:jE f=tightE q q:=by rw [tight_around];unfold jE;rw [h]
 rw [e2] at e;exact tight_ct Rat.le_refl Rat.le_refl e
theorem root_out (e:power.O5 a.1 a.2 1 2=(c,0)):c=(((uS a.1.toNat 1 2:Nat):Int),((phi a.2.toNat 1 2:Nat):Int)):=by
 unfold power.O5 at e;split at e
 ·exact absurd (show (30:Int)=0 from congrArg Prod.snd e) zd
 ·split at e
  ·exact absurd (show (2:Int)=0 from congrArg Prod.snd e) zd
  ·obtain ⟨e1,e2,rfl,e4⟩:=out_parts e;simp only [show (1:Int).toNat=1 from rfl,show (2:Int).toNat=2 from rfl] at e1 e2 ⊢;unfold u7 at *
   have c1:uS a.1.toNat 1 2≤10^18:=by
    refine Nat.not_lt.1 fun h=>?_;rw [if_neg zo] at e1;exact absurd e1 zd
   have c2:uS a.2.toNat 1 2≤10^18:=by
    refine Nat.not_lt.1 fun h=>?_;rw [if_neg zo] at e2;exact absurd e2 zd
   simp only [if_pos c1,if_pos c2,Bool.false_eq_true,if_false,if_true]
end
end Go.Proofs.aQ
namespace Go.Proofs.differ
open Go Go.RowKit Go.Num Go.Mem Go.Proofs Go.gW Go.Proofs.aQ Go.Proofs.matrix Go.Proofs.lab Go.Proofs.mO Go.Proofs.iq
theorem one_y {α:Type} {x:α × Int} {y z:α} (h:x=(y,0)) (k:x=(z,0)):y=z:=by rw [h] at k;exact congrArg Prod.fst k
theorem sq_mono {d x y:Rat} (h0:0≤x) (h:x≤y):d*x*(d*x)≤d*y*(d*y):=by
 have h1:=lab.sq_le h0 h
 have h2:0≤d*d:=by
  rcases Rat.le_total (a:=0) (b:=d) with k|k
  ·exact Rat.mul_nonneg k k
  ·have:=Rat.mul_nonneg (show 0≤ -d by grind) (show 0≤ -d by grind)
   grind
 have h3:=Rat.mul_le_mul_of_nonneg_left h1 h2;have e1:d*x*(d*x)=d*d*(x*x):=by grind
 have e2:d*y*(d*y)=d*d*(y*y):=by grind
 rw [e1,e2];exact h3
theorem dsR_le {f g m n l:Int × Int} {D:B5} {u v:Rat} {j k:Nat} {r q:Int × Int} (hl:l.1≤l.2) (hL:Sb D.2.1 (250000000000,2000000000000)) (hC:Sb D.2.2.1 (638000000000,12000000000000)) (hu:Hq j u) (hj:j<600) (hv:Hq k v) (hk:k<600) (u1:1 / 10≤u) (uv:u≤v) (v3:v≤3)
  (eu:Yw f g m n l D (Fr.of u) (Fr.of u)=(r,0)) (ev:Yw f g m n l D (Fr.of v) (Fr.of v)=(q,0)):q.1≤r.2:=by
 have wide:∀ {w:Rat} {i:Nat},Hq i w→i<600→1 / 10≤w→w≤3→∀ {e:Int × Int},jE (Fr.of w)=(e,0)→Sb e (100000000000,3000000000000)∧Ct e w:=fun {w i} hw hi w1 w3 {e} h=>by
  have hrd:=xM (hw.ok hi);obtain ⟨e',h1,h2⟩:=in_aroundB hrd (M:=3000000000000) ⟨by rw [show un (-3000000000000)= -3 by decide+kernel];grind,by rw [show un 3000000000000=3 by decide+kernel];exact w3⟩ zo;have:=one_y h h1;subst this;exact ⟨⟨around_lo hrd h (by rw [show un 100000000000=1 / 10 by decide+kernel];exact w1),h2.le,h2.2.2.2⟩,ct_around hrd h⟩
 unfold Yw at eu ev;obtain ⟨gap,a1,eu⟩:=qF eu;obtain ⟨mm,a2,eu⟩:=qF eu;obtain ⟨nn,a3,eu⟩:=qF eu;obtain ⟨s,a4,eu⟩:=qF eu;obtain ⟨gg,a5,eu⟩:=qF eu;obtain ⟨rest,a6,eu⟩:=qF eu;obtain ⟨h,a7,eu⟩:=qF eu;rw [jJ a1,jJ a2,jJ a3,jJ a4,jJ a5,jJ a6,jJ a7] at ev;obtain ⟨e,b1,eu⟩:=qF eu;obtain ⟨d,b2,eu⟩:=qF eu;obtain ⟨w,b3,eu⟩:=qF eu;obtain ⟨light,b4,eu⟩:=qF eu;obtain ⟨e',b5,eu⟩:=qF eu;obtain ⟨d',b6,eu⟩:=qF eu;obtain ⟨w',b7,eu⟩:=qF eu;obtain ⟨Ux,b8,eu⟩:=qF eu;obtain ⟨dh,b9,eu⟩:=qF eu;obtain ⟨turn,b10,eu⟩:=qF eu;obtain ⟨sum,b11,eu⟩:=qF eu;obtain ⟨root,b12,eu⟩:=qF eu;obtain ⟨E,c1,ev⟩:=qF ev;obtain ⟨D1,c2,ev⟩:=qF ev;obtain ⟨W,c3,ev⟩:=qF ev;obtain ⟨Light,c4,ev⟩:=qF ev;obtain ⟨E',c5,ev⟩:=qF ev
 obtain ⟨D',c6,ev⟩:=qF ev;obtain ⟨W',c7,ev⟩:=qF ev;obtain ⟨Colour,c8,ev⟩:=qF ev;rw [jJ b9,jJ b10] at ev;obtain ⟨Sum,c11,ev⟩:=qF ev;obtain ⟨Root,c12,ev⟩:=qF ev;cases Ik eu
 cases Ik ev
 have x1:=one_y b1 b5;subst x1;have x2:=one_y c1 c5;subst x2;obtain ⟨eS,eC⟩:=wide hu hj u1 (Rat.le_trans uv v3) b1;obtain ⟨ES,EC⟩:=wide hv hk (Rat.le_trans u1 uv) v3 c1;have up:0<u:=by grind
 have vp:0<v:=by grind
 have pos:∀ {A B:Int × Int} {x y z:Int × Int},Sb x A→Sb y (100000000000,3000000000000)→jo x y=(z,0)→jo A (100000000000,3000000000000)=(B,0)→0<B.1→0<z.1:=fun hx hy h1 h2 h3=>by
  obtain ⟨c,k1,k2⟩:=iso_mul hx hy h2;rw [one_y h1 k1];exact Int.lt_of_lt_of_le h3 k2.lo
 have d0:=pos hL eS b2 (B:=(25000000000,6000000000000)) (by decide+kernel) zd;have D0:=pos hL ES c2 (B:=(25000000000,6000000000000)) (by decide+kernel) zd;have d0':=pos hC eS b6 (B:=(63800000000,36000000000000)) (by decide+kernel) zd;have D0':=pos hC ES c6 (B:=(63800000000,36000000000000)) (by decide+kernel) zd
 have gl:gap.1≤gap.2:=by
  unfold pU at a1;obtain ⟨hb,a1'⟩:=ok_if zd a1;rw [made_out a1'];have k1:=(lK (okB_two hb).1).2.2;have k2:=(lK (okB_two hb).2).2.2
  show f.1 - g.2≤f.2 - g.1
  omega
 have tl:turn.1≤turn.2:=by
  unfold Tj at b11;obtain ⟨y,y1,y2⟩:=qF b11;obtain ⟨y',y3, -⟩:=qF y2;unfold gU at y3;obtain ⟨hb, -⟩:=ok_if zd y3;exact (lK (okB_two hb).2).2.2
 have Lp:0<un D.2.1.1:=un_pos (Int.lt_of_lt_of_le zd hL.lo);have Cp:0<un D.2.2.1.1:=un_pos (Int.lt_of_lt_of_le zd hC.lo);have k1:=ct_sqr (ct_div (ct_lo hl) (ct_mul (ct_lo hL.le) eC b2) d0 b3) b4;have k2:=ct_sqr (ct_div (ct_lo gl) (ct_mul (ct_lo hC.le) eC b6) d0' b7) b8;have K1:=ct_sqr (ct_div (ct_lo hl) (ct_mul (ct_lo hL.le) EC c2) D0 c3) c4;have K2:=ct_sqr (ct_div (ct_lo gl) (ct_mul (ct_lo hC.le) EC c6) D0' c7) c8;have inv:∀ z:Rat,0<z→0≤(z*v)⁻¹∧(z*v)⁻¹≤(z*u)⁻¹:=fun z hz=>⟨Rat.le_of_lt (Rat.inv_pos.2 (Rat.mul_pos hz vp)),inv_le (Rat.mul_pos hz up) (Rat.mul_le_mul_of_nonneg_left uv (Rat.le_of_lt hz))⟩;have m1:=sq_mono (d:=un l.1) (inv _ Lp).1 (inv _ Lp).2;have m2:=sq_mono (d:=un gap.1) (inv _ Cp).1 (inv _ Cp).2;unfold Tj at b11 c11;obtain ⟨y,y1,y2⟩:=qF b11;obtain ⟨y',y3,y4⟩:=qF y2;cases Ik y4
 obtain ⟨Y,Y1,Y2⟩:=qF c11;obtain ⟨Y',Y3,Y4⟩:=qF Y2;cases Ik Y4
 have t1:=ct_add (ct_add k1 k2 y1) (ct_lo tl) y3;have t2:=ct_add (ct_add K1 K2 Y1) (ct_lo tl) Y3
 have fin:Sum.1≤sum.2:=by
  refine Cq.1 (Rat.le_trans t2.1 (Rat.le_trans ?_ t1.2));generalize un l.1*(un D.2.1.1*v)⁻¹*(un l.1*(un D.2.1.1*v)⁻¹)=A at *;generalize un l.1*(un D.2.1.1*u)⁻¹*(un l.1*(un D.2.1.1*u)⁻¹)=B at *;generalize un gap.1*(un D.2.2.1.1*v)⁻¹*(un gap.1*(un D.2.2.1.1*v)⁻¹)=A' at *;generalize un gap.1*(un D.2.2.1.1*u)⁻¹*(un gap.1*(un D.2.2.1.1*u)⁻¹)=B' at *;generalize un turn.1=T at *;clear K1 K2 k1 k2 t1 t2
  grind
 rw [root_out b12,root_out c12];have p1:=plo_up (show Sum.1.toNat≤sum.2.toNat by omega);have p2:=(phi_bounds sum.2.toNat 1 2).1
 show ((uS Sum.1.toNat 1 2:Nat):Int)≤((phi sum.2.toNat 1 2:Nat):Int)
 omega
end Go.Proofs.differ
namespace Go.Proofs.differ
open Go Go.RowKit Go.Num Go.Mem Go.Proofs Go.gW Go.Proofs.aQ Go.Proofs.matrix Go.Proofs.lab Go.Proofs.mO Go.Proofs.iq
theorem add_comm (x y:Int × Int):gU x y=gU y x:=by
 unfold gU okB;simp only [List.all_cons,List.all_nil,Bool.and_true];rw [Bool.and_comm,Int.add_comm x.1,Int.add_comm x.2]
theorem sqr_neg (b:Int × Int):qY (negB b)=qY b:=by
 have e:nT (negB b).1 (negB b).2=nT b.1 b.2:=by
  unfold nT negB
  have h:jc (-b.2) (-b.1)=jc b.1 b.2:=by
   unfold jc;rw [Bool.eq_iff_iff];simp only [Bool.and_eq_true,decide_eq_true_eq];omega
  rw [show ((-b.2, -b.1):Int × Int).1= -b.2 from rfl,show ((-b.2, -b.1):Int × Int).2= -b.1 from rfl,h]
  congr 1
  rw [show max (max (-b.2) (- -b.1)) 0=max (max b.1 (-b.2)) 0 by omega,show max (- -b.2) (-b.1)=max (-b.1) b.2 by omega]
 unfold qY;rw [e]
structure Rl (f g c:Int × Int) (r r':B5 × Int):Prop where
 k:r.2=r'.2
 d:r.1.2=r'.1.2
 ok:r.2=0→r.1.1=(f,g)∧r'.1.1=(g,f)∧r.1.2.1=E1∧r.1.2.2.1=c
theorem rl_bind {α:Type} {f g c:Int × Int} {x:α × Int} {F F':α→B5 × Int} (h:∀ y,Rl f g c (F y) (F' y)):Rl f g c (aP kW x F) (aP kW x F'):=by
 obtain ⟨y,k⟩:=x
 by_cases hk:k=0
 ·subst hk;exact h y
 ·rw [wO hk,wO hk];exact ⟨rfl,rfl,fun h=>absurd h hk⟩
theorem rl_md (x y m f g c:Int × Int):Rl f g c (mdR x y m f g c) (mdR x y m g f c):=by
 unfold mdR;exact rl_bind fun _=>rl_bind fun _=>rl_bind fun _=>rl_bind fun _=>⟨rfl,rfl,fun _=>⟨rfl,rfl,rfl,rfl⟩⟩
theorem md_sym {l a b m c d:Int} (h:Lh l a b) (k:Lh m c d):∃ q,Sb q (1000000000000,9190000000000)∧Rl (chN a b) (chN c d) q (mdE (chN a b) (chN c d) (lh l a b) (lh m c d)) (mdE (chN c d) (chN a b) (lh m c d) (lh l a b)):=by
 obtain ⟨hf, -⟩:=ch_in h.a h.b;obtain ⟨hg, -⟩:=ch_in k.a k.b;obtain ⟨u,eu, -, -⟩:=hue_any h;obtain ⟨v,ev, -, -⟩:=hue_any k;generalize chN a b=f at *;generalize chN c d=g at *;obtain ⟨s,e1,hs⟩:=iso_add hf hg (C:=(0,364000000000000)) (by decide+kernel);obtain ⟨mean,e2,hm⟩:=iso_scl (n:=1) (d:=2) hs (C:=(0,182000000000000)) (by decide+kernel);obtain ⟨t,e3,ht⟩:=iso_mul (Sb.refl (a:=(45000000000,45000000000)) zd) hm (C:=(0,8190000000000)) (by decide+kernel);obtain ⟨q,e4,hq⟩:=iso_add (Sb.refl (a:=(1000000000000,1000000000000)) zd) ht (C:=(1000000000000,9190000000000)) (by decide+kernel);have e1':=e1;rw [add_comm] at e1';refine ⟨q,hq,?_⟩;unfold mdE lh lb;simp only;rw [jJ e1,jJ e2,jJ e3,jJ e4,jJ eu,jJ ev,jJ e1',jJ e2,jJ e3,jJ e4,jJ ev,jJ eu,add_comm v.1 u.1,add_comm v.2 u.2]
 refine rl_bind fun _=>rl_bind fun _=>rl_bind fun n=>?_;split
 ·exact rl_md _ _ _ _ _ _
 ·exact rl_bind fun _=>rl_bind fun _=>rl_bind fun _=>rl_bind fun _=>rl_md _ _ _ _ _ _
theorem neg_dN (m n:Int):dN n m=negB (dN m n):=by
 unfold dN pt negB;simp only [Prod.mk.injEq];omega
theorem dN_in {m n:Int} (h:(m - n).natAbs≤25600):Sb (dN m n) (-256000000000000,256000000000000):=⟨by show -256000000000000≤(m - n)*10000000000;omega,Int.le_refl _,by show (m - n)*10000000000≤256000000000000;omega⟩
theorem ds_sym {f g m n l q:Int × Int} {D D':B5} (hf:Sb f (0,182000000000000)) (hg:Sb g (0,182000000000000)) (hl:Sb l (-256000000000000,256000000000000)) (hq:Sb q (1000000000000,9190000000000)) (hD:D.2=D'.2) (h1:D.2.1=E1) (h2:D.2.2.1=q) :
  Yw f g m n l D (Fr.of 1) (Fr.of 1)=Yw g f (negB m) (negB n) (negB l) D' (Fr.of 1) (Fr.of 1):=by
 obtain ⟨gap,a1,hgap⟩:=iso_sub hf hg (C:=(-182000000000000,182000000000000)) (by decide+kernel)
 have a2:pU g f=(negB gap,0):=by
  obtain ⟨gap',a3,hgap'⟩:=iso_sub hg hf (C:=(-182000000000000,182000000000000)) (by decide+kernel);rw [a3];unfold pU at a1 a3;obtain ⟨-, a1'⟩:=ok_if zd a1;obtain ⟨-, a3'⟩:=ok_if zd a3;rw [made_out a1',made_out a3'];unfold negB;simp only [Prod.mk.injEq,and_true];omega
 have bokn:∀ {b:Int × Int} {M:Int},Sb b (-M,M)→M≤1000000000000000000→jc b.1 b.2=true∧jc (negB b).1 (negB b).2=true:=fun {b M} h hM=>by
  obtain ⟨k1,k2,k3⟩:=h;simp only at k1 k3;exact ⟨bok_yes zo k2 zo,bok_yes (by show -1000000000000000000≤ -b.2;omega) (by show -b.2≤ -b.1;omega) (by show -b.1≤1000000000000000000;omega)⟩
 have m1:jo E1 E1=(E1,0):=by decide+kernel
 obtain ⟨w,w1,hw⟩:=iso_div hl (Sb.refl (a:=E1) zd) zd (C:=(-256000000000000,256000000000000)) (by decide+kernel);have w2:=div_neg (bokn hl zd).1 (bokn hl zd).2 zd zd zd w1;obtain ⟨d,d1,hd⟩:=iso_mul hq (Sb.refl (a:=E1) zd) (C:=(1000000000000,9190000000000)) (by decide+kernel);obtain ⟨y,y1,hy⟩:=iso_div hgap hd zd (C:=(-182000000000000,182000000000000)) (by decide+kernel);have y2:=div_neg (bokn hgap zd).1 (bokn hgap zd).2 (hd.jc zd) (Int.lt_of_lt_of_le zd hd.lo) hd.le y1;unfold Yw;rw [← hD,h1,h2,jJ a1,jJ a2,sqr_neg m,sqr_neg n,sqr_neg gap];simp only [one_f];have k1:∀ F:Int × Int→(Int × Int) × Int,aP (0,0) (E1,0) F=F E1:=fun F=>rfl;simp only [k1,m1];simp only [w1,w2,d1];have k2:∀ (z:Int × Int) (F:Int × Int→(Int × Int) × Int),aP (0,0) (z,0) F=F z:=fun z F=>rfl;simp only [k2,sqr_neg,y1,y2]
theorem dst4_sym {l a b m c d:Int} (h:Lh l a b) (k:Lh m c d):dstE 4 (lh l a b) (lh m c d) (Fr.of 1) (Fr.of 1)=dstE 4 (lh m c d) (lh l a b) (Fr.of 1) (Fr.of 1):=by
 have p1:=pair_hun h k;have p2:=pair_hun k h;obtain ⟨q,hq,R⟩:=md_sym h k;obtain ⟨hf, -⟩:=ch_in h.a h.b;obtain ⟨hg, -⟩:=ch_in k.a k.b;have l0:=h.l0;have l1:=h.l1;have l2:=k.l0;have l3:=k.l1;have hl:=dN_in (m:=l) (n:=m) zo;unfold dstE;rw [jJ p1,jJ p2];simp only [show ¬ (4:Int)=1 by decide,show ¬ (4:Int)=2 by decide,show ¬ (4:Int)=3 by decide,if_false];obtain ⟨⟨D,x⟩,e⟩:∃ r,mdE (chN a b) (chN c d) (lh l a b) (lh m c d)=r:=⟨_,rfl⟩;obtain ⟨⟨D',x'⟩,e'⟩:∃ r,mdE (chN c d) (chN a b) (lh m c d) (lh l a b)=r:=⟨_,rfl⟩;rw [e,e'] at R;rw [e,e'];obtain ⟨r1,r2,r3⟩:=R;simp only at r1 r2 r3;subst r1
 by_cases hx:x=0
 ·subst hx;obtain ⟨t1,t2,t3,t4⟩:=r3 rfl
  show Yw D.1.1 D.1.2 _ _ _ D _ _=Yw D'.1.1 D'.1.2 _ _ _ D' _ _
  rw [t1,t2,neg_dN l m,neg_dN a c,neg_dN b d];exact ds_sym hf hg hl hq r2 t3 t4
 ·rw [wO hx,wO hx]
end Go.Proofs.differ
namespace Go.Num
theorem ngap {F G p q r s:Int} (hG:0≤G) (h1:F*F≤p*p+q*q) (h2:r*r+s*s≤G*G) (h3:G<F):(F - G)*(F - G)≤(p - r)*(p - r)+(q - s)*(q - s):=by
 refine Int.not_lt.1 fun hl=>?_;have c:=cauchy3 r s 0 (p - r) (q - s) 0;have e0:r*(p - r)+s*(q - s)+0*0=r*(p - r)+s*(q - s):=by omega
 have e1:r*r+s*s+0*0=r*r+s*s:=by omega
 have e2:(p - r)*(p - r)+(q - s)*(q - s)+0*0=(p - r)*(p - r)+(q - s)*(q - s):=by omega
 rw [e0,e1,e2] at c
 have sq:∀ t:Int,0≤t*t:=fun t=>by
  rcases Int.le_total 0 t with h|h
  ·exact Int.mul_nonneg h h
  ·have:=Int.mul_nonneg (show 0≤ -t by omega) (show 0≤ -t by omega)
   rwa [Int.neg_mul_neg] at this
 have m:=mul_sqs (p:=r*r+s*s) (q:=(p - r)*(p - r)+(q - s)*(q - s)) (A:=G) (B:=F - G) (by have:=sq r;have:=sq s;omega) (by have:=sq (p - r);have:=sq (q - s);omega) h2 zo hG zo;have t:=sq_lei (Int.mul_nonneg hG (show 0≤F - G by omega)) (Int.le_trans c m);have i1:p*p+q*q=r*r+s*s+2*(r*(p - r)+s*(q - s))+((p - r)*(p - r)+(q - s)*(q - s)):=by grind
 have i2:F*F=G*G+2*(G*(F - G))+(F - G)*(F - G):=by grind
 omega
end Go.Num
namespace Go.Proofs.differ
open Go Go.RowKit Go.Num Go.Mem Go.Proofs Go.gW Go.Proofs.aQ Go.Proofs.matrix Go.Proofs.lab Go.Proofs.mO Go.Proofs.iq
theorem div_blo {a d q:Int × Int} (ha:a.1≤a.2) (h1:1000000000000≤d.1) (h2:d.1≤d.2) (e:vg a d=(q,0)):Ca q≤Ca a:=by
 have p1:(1:Rat)≤un d.1:=by
  have:=Cq.2 h1
  rwa [un_E1] at this
 have p0:0<un d.1:=by grind
 have iv:0≤(un d.1)⁻¹∧(un d.1)⁻¹≤1:=by
  refine ⟨Rat.le_of_lt (Rat.inv_pos.2 p0),?_⟩;have:=inv_le (x:=1) (y:=un d.1) zd p1
  rwa [show (1:Rat)⁻¹=1 by decide+kernel] at this
 have z0:un 0=0:=by decide+kernel
 rcases Int.le_total 0 a.1 with g|g
 ·have c:=ct_div (ct_lo ha) (ct_lo h2) zo e;have n:=un_nn g;have k1:un q.1≤un a.1:=Rat.le_trans c.1 (by have:=Rat.mul_le_mul_of_nonneg_left iv.2 n;rwa [Rat.mul_one] at this);have k2:un 0≤un q.2:=Rat.le_trans (by rw [z0];exact Rat.mul_nonneg n iv.1) c.2;have k1:=Cq.1 k1;have k2:=Cq.1 k2;unfold Ca;omega
 ·rcases Int.le_total a.2 0 with g2|g2
  ·have c:=ct_div (a:=a) (p:=un a.2) ⟨Cq.2 ha,Rat.le_refl⟩ (ct_lo h2) zo e;have n:un a.2≤0:=by rw [← z0];exact Cq.2 g2
   have k1:un a.2≤un q.2:=Rat.le_trans (by have:=mul_le_nonpos iv.2 n;rw [Rat.one_mul,Rat.mul_comm] at this;exact this) c.2;have k2:un q.1≤un 0:=Rat.le_trans c.1 (by rw [z0];have:=mul_le_nonpos iv.1 n;rw [Rat.zero_mul,Rat.mul_comm] at this;exact this);have k1:=Cq.1 k1;have k2:=Cq.1 k2;unfold Ca;omega
  ·have c:=ct_div (a:=a) (p:=0) ⟨by rw [← z0];exact Cq.2 g,by rw [← z0];exact Cq.2 g2⟩ (ct_lo h2) zo e;rw [Rat.zero_mul,← z0] at c;have k1:=Cq.1 c.1;have k2:=Cq.1 c.2;unfold Ca;omega
theorem sqr_ends {a c:Int × Int} (e:qY a=(c,0)):c.1*1000000000000≤(Ca a:Int)*(Ca a:Int)∧(Bw a:Int)*(Bw a:Int)≤c.2*1000000000000:=by
 rw [sqr_eq (sqr_bok e)] at e;obtain ⟨-, h⟩:=ok_if zd e;rw [made_out h];unfold Ij;have c:((1000000000000:Nat):Int)=1000000000000:=rfl;rw [c,if_neg zd,if_pos rfl];generalize (Ca a:Int)*(Ca a:Int)=x;generalize (Bw a:Int)*(Bw a:Int)=y
 constructor
 ·show x / 1000000000000*1000000000000≤x
  omega
 ·show y≤ -(-y / 1000000000000)*1000000000000
  omega
theorem add_ends {a b c:Int × Int} (e:gU a b=(c,0)):c=(a.1+b.1,a.2+b.2):=by
 unfold gU at e;exact made_out (ok_if zd e).2
theorem sub_ends {a b c:Int × Int} (e:pU a b=(c,0)):c=(a.1 - b.2,a.2 - b.1):=by
 unfold pU at e;exact made_out (ok_if zd e).2
theorem gap_le {a b c d:Int} {gap:Int × Int} (e:pU (chN a b) (chN c d)=(gap,0)):(Ca gap:Int)*(Ca gap:Int)≤((a - c)*10000000000)*((a - c)*10000000000)+((b - d)*10000000000)*((b - d)*10000000000):=by
 have g:=sub_ends e
 have lo:∀ x y:Int,((nlo [(x*10000000000).natAbs,(y*10000000000).natAbs]:Nat):Int)*((nlo [(x*10000000000).natAbs,(y*10000000000).natAbs]:Nat):Int)≤(x*10000000000)*(x*10000000000)+(y*10000000000)*(y*10000000000):=fun x y=>by
  have h:=(nlo_spec [(x*10000000000).natAbs,(y*10000000000).natAbs]).1;rw [sq2,Nat.pow_two,Nat.pow_two,Nat.pow_two] at h;have:=Int.ofNat_le.2 h;simp only [Int.natCast_add,Int.natCast_mul,Int.natAbs_mul_self'] at this;exact this
 have hi:∀ x y:Int,(x*10000000000)*(x*10000000000)+(y*10000000000)*(y*10000000000)≤((nhi [(x*10000000000).natAbs,(y*10000000000).natAbs]:Nat):Int)*((nhi [(x*10000000000).natAbs,(y*10000000000).natAbs]:Nat):Int):=fun x y=>by
  have h:=nhi_spec [(x*10000000000).natAbs,(y*10000000000).natAbs];rw [sq2,Nat.pow_two,Nat.pow_two,Nat.pow_two] at h;have:=Int.ofNat_le.2 h;simp only [Int.natCast_add,Int.natCast_mul,Int.natAbs_mul_self'] at this;exact this
 have sq:∀ t:Int,0≤t*t:=fun t=>by
  rcases Int.le_total 0 t with h|h
  ·exact Int.mul_nonneg h h
  ·have:=Int.mul_nonneg (show 0≤ -t by omega) (show 0≤ -t by omega)
   rwa [Int.neg_mul_neg] at this
 have l1:=lo a b;have l2:=lo c d;have h1:=hi a b;have h2:=hi c d;unfold chN at g;simp only at g;generalize ((nlo [(a*10000000000).natAbs,(b*10000000000).natAbs]:Nat))=f1 at *;generalize ((nhi [(a*10000000000).natAbs,(b*10000000000).natAbs]:Nat))=f2 at *;generalize ((nlo [(c*10000000000).natAbs,(d*10000000000).natAbs]:Nat))=g1 at *;generalize ((nhi [(c*10000000000).natAbs,(d*10000000000).natAbs]:Nat))=g2 at *;rw [show (a - c)*10000000000=a*10000000000 - c*10000000000 by omega,show (b - d)*10000000000=b*10000000000 - d*10000000000 by omega];generalize a*10000000000=A at *;generalize b*10000000000=B at *;generalize c*10000000000=C at *;generalize d*10000000000=D at *;rw [g]
 by_cases k:g2<f1
 ·have:=ngap (F:=f1) (G:=g2) zo l1 h2 zo;have e1:((Ca ((f1:Int) - g2,(f2:Int) - g1):Nat):Int)=max ((f1:Int) - g2) (max (-((f2:Int) - g1)) 0):=by unfold Ca;simp only;omega
  by_cases k2:f2<g1
  ·have t:=ngap (F:=g1) (G:=f2) zo l2 h1 zo;have s1:(C - A)*(C - A)=(A - C)*(A - C):=by grind
   have s2:(D - B)*(D - B)=(B - D)*(B - D):=by grind
   rw [s1,s2] at t;rw [e1]
   rcases Int.le_total ((f1:Int) - g2) (g1 - f2) with o|o
   ·rw [show max ((f1:Int) - g2) (max (-((f2:Int) - g1)) 0)=g1 - f2 by omega];exact t
   ·rw [show max ((f1:Int) - g2) (max (-((f2:Int) - g1)) 0)=f1 - g2 by omega];exact this
  ·rw [e1,show max ((f1:Int) - g2) (max (-((f2:Int) - g1)) 0)=f1 - g2 by omega];exact this
 ·by_cases k2:f2<g1
  ·have t:=ngap (F:=g1) (G:=f2) zo l2 h1 zo;have s1:(C - A)*(C - A)=(A - C)*(A - C):=by grind
   have s2:(D - B)*(D - B)=(B - D)*(B - D):=by grind
   rw [s1,s2] at t;have e1:((Ca ((f1:Int) - g2,(f2:Int) - g1):Nat):Int)=g1 - f2:=by unfold Ca;simp only;omega
   rw [e1];exact t
  ·have e1:((Ca ((f1:Int) - g2,(f2:Int) - g1):Nat):Int)=0:=by unfold Ca;simp only;omega
   rw [e1];have:=sq (A - C);have:=sq (B - D);omega
theorem _root_.Go.Proofs.aQ.Sb.le_bl {a A:Int × Int} (h:Sb a A):Ca a≤Bw a:=h.bl.2.1
theorem max_ends {a c:Int × Int} (e:MV (0,0) a=(c,0)):c=(max 0 a.1,max 0 a.2):=by
 unfold MV at e;obtain ⟨-, h⟩:=ok_if zd e;rw [ch_max] at h;exact (congrArg Prod.fst h).symm
theorem new_old {l a b m c d:Int} (h:Lh l a b) (k:Lh m c d):∃ t,dstE 2 (lh l a b) (lh m c d) (Fr.of 1) (Fr.of 1)=(t,0)∧t.1≤((nhi [((l - m)*10000000000).natAbs,((a - c)*10000000000).natAbs,((b - d)*10000000000).natAbs]:Nat):Int):=by
 obtain ⟨hf, -⟩:=ch_in h.a h.b;obtain ⟨hg, -⟩:=ch_in k.a k.b;have l0:=h.l0;have l1:=h.l1;have l2:=k.l0;have l3:=k.l1;have ha:=h.a;have hb:=h.b;have hc:=k.a;have hd:=k.b;have wl:Sb (dN l m) (-100000000000000,100000000000000):=⟨by show -100000000000000≤(l - m)*10000000000;omega,Int.le_refl _,by show (l - m)*10000000000≤100000000000000;omega⟩;have wa:=dN_in (m:=a) (n:=c) zo;have wb:=dN_in (m:=b) (n:=d) zo;obtain ⟨C,H,ep,hC,hH⟩:=pl_in (g:=chN c d) hf;obtain ⟨gap,a1,w1⟩:=iso_sub hf hg (C:=(-182000000000000,182000000000000)) (by decide+kernel);have gl:=gap_le a1;obtain ⟨mm,a2,w2⟩:=iso_sqr wa (C:=(0,65536000000000000)) (by decide+kernel);obtain ⟨nn,a3,w3⟩:=iso_sqr wb (C:=(0,65536000000000000)) (by decide+kernel);obtain ⟨s,a4,w4⟩:=iso_add w2 w3 (C:=(0,131072000000000000)) (by decide+kernel);obtain ⟨gg,a5,w5⟩:=iso_sqr w1 (C:=(0,33124000000000000)) (by decide+kernel)
 obtain ⟨rest,a6,w6⟩:=iso_sub w4 w5 (C:=(-33124000000000000,131072000000000000)) (by decide+kernel);obtain ⟨hh,a7,w7⟩:=iso_max (Sb.refl (a:=(0,0)) zd) w6 (C:=(0,131072000000000000)) (by decide+kernel);obtain ⟨q,a8,w8⟩:=iso_div wl (Sb.refl (a:=E1) zd) zd (C:=(-100000000000000,100000000000000)) (by decide+kernel);obtain ⟨light,a9,w9⟩:=iso_sqr w8 (C:=(0,10000000000000000)) (by decide+kernel);obtain ⟨dd,a10,w10⟩:=iso_mul hC (Sb.refl (a:=E1) zd) (C:=(1000000000000,9190000000000)) (by decide+kernel);obtain ⟨q2,a11,w11⟩:=iso_div w1 w10 zd (C:=(-182000000000000,182000000000000)) (by decide+kernel);obtain ⟨Ux,a12,w12⟩:=iso_sqr w11 (C:=(0,33124000000000000)) (by decide+kernel);obtain ⟨dh,a13,w13⟩:=iso_sqr hH (C:=(1000000000000,13912900000000)) (by decide+kernel);obtain ⟨turn,a14,w14⟩:=iso_div w7 w13 zd (C:=(0,131072000000000000)) (by decide+kernel)
 obtain ⟨s1,a15,w15⟩:=iso_add w9 w12 (C:=(0,43124000000000000)) (by decide+kernel);obtain ⟨s2,a16,w16⟩:=iso_add w15 w14 (C:=(0,174196000000000000)) (by decide+kernel);obtain ⟨t,a17,w17⟩:=iso_root w16 (C:=(0,417367943186825)) (by decide+kernel);refine ⟨t,?_,?_⟩
 ·unfold dstE;rw [jJ (pair_hun h k),if_neg zd,if_pos rfl]
  show (aP (0,0) (plE (chN a b) (chN c d)) _)=_
  rw [jJ ep]
  show Yw (chN a b) (chN c d) (dN a c) (dN b d) (dN l m) (((chN a b,chN c d),E1,C,H)) (Fr.of 1) (Fr.of 1)=_
  have e6:Tj light Ux turn=(s2,0):=by
   unfold Tj;rw [jJ a15,jJ a16];rfl
  unfold Yw;rw [jJ a1,jJ a2,jJ a3,jJ a4,jJ a5,jJ a6,jJ a7,jJ one_f,jJ (show jo E1 E1=(E1,0) by decide+kernel),jJ a8,jJ a9,jJ one_f,jJ a10,jJ a11,jJ a12,jJ a13,jJ a14,jJ e6,jJ a17];rfl
 ·rw [root_out a17];have b1:=(sqr_ends a2).1;have b2:=(sqr_ends a3).1;have b3:=(sqr_ends a5).2;have b4:=(sqr_ends a9).1;have b5:=(sqr_ends a12).1;have r1:=div_blo (show (dN l m).1≤(dN l m).2 from Int.le_refl _) zd zd a8;have r2:=div_blo w1.le w10.lo w10.le a11;have r3:=div_blo w7.le w13.lo w13.le a14;have sqm:∀ {x y:Nat},x≤y→(x:Int)*x≤(y:Int)*y:=fun hxy=>Int.mul_le_mul zo zo zo zo
  have q1:=sqm r1;have q2':=sqm r2;have q3:=sqm w1.le_bl
  have ends:∀ x y:Int,((Ca (dN x y):Nat):Int)*((Ca (dN x y):Nat):Int)=((x - y)*10000000000)*((x - y)*10000000000):=fun x y=>by
   unfold dN;rw [(bl_pt _).1,Int.natAbs_mul_self']
  rw [ends] at q1 b1 b2;have hs:=add_ends a4;have hr:=sub_ends a6;have hm:=max_ends a7
  have t1:turn.1≤(Ca hh:Int):=by
   have:turn.1≤(Ca turn:Int):=by unfold Ca;omega
   omega
  have t2:(Ca hh:Int)=max 0 rest.1:=by
   rw [hm];have:=w6.le;unfold Ca;simp only;omega
  have hs1:=add_ends a15;have hs2:=add_ends a16;have sp:=nhi_spec [((l - m)*10000000000).natAbs,((a - c)*10000000000).natAbs,((b - d)*10000000000).natAbs];rw [sq3,Nat.pow_two,Nat.pow_two,Nat.pow_two,Nat.pow_two] at sp;have sp:=Int.ofNat_le.2 sp;simp only [Int.natCast_add,Int.natCast_mul,Int.natAbs_mul_self'] at sp
  have key:s2.1*1000000000000≤((nhi [((l - m)*10000000000).natAbs,((a - c)*10000000000).natAbs,((b - d)*10000000000).natAbs]:Nat):Int)*((nhi [((l - m)*10000000000).natAbs,((a - c)*10000000000).natAbs,((b - d)*10000000000).natAbs]:Nat):Int):=by
   refine Int.le_trans ?_ sp;rw [hs2,hs1];rw [hs] at hr;have hr1:rest.1=mm.1+nn.1 - gg.2:=by rw [hr]
   show (light.1+Ux.1+turn.1)*1000000000000≤_
   generalize ((l - m)*10000000000)*((l - m)*10000000000)=ZZ at *;generalize ((a - c)*10000000000)*((a - c)*10000000000)=AA at *;generalize ((b - d)*10000000000)*((b - d)*10000000000)=BB at *;generalize (Ca gap:Int)*(Ca gap:Int)=GG at *;generalize (Bw gap:Int)*(Bw gap:Int)=HH at *;generalize (Ca q:Int)*(Ca q:Int)=QQ at *;generalize (Ca q2:Int)*(Ca q2:Int)=RR at *;omega
  have pl:=(plo_spec (q:=2) zo s2.1.toNat 1).1;have s0:0≤s2.1:=w16.lo;refine sq_lei zo (Int.le_trans ?_ key);rw [Nat.pow_one,Nat.pow_two,show (10:Nat)^(12*1)=1000000000000 from by decide+kernel,show (10:Nat)^(12*2)=1000000000000*1000000000000 from by decide+kernel,← Nat.mul_assoc] at pl;have pl2:=Nat.le_of_mul_le_mul_right pl zd;have pl3:=Int.ofNat_le.2 pl2;simp only [Int.natCast_mul] at pl3
  show ((uS s2.1.toNat 1 2:Nat):Int)*((uS s2.1.toNat 1 2:Nat):Int)≤s2.1*1000000000000
  have e9:((s2.1.toNat:Nat):Int)=s2.1:=Int.toNat_of_nonneg s0;rw [e9] at pl3;exact pl3
end Go.Proofs.differ
namespace Go.Proofs.verdigrislaw27
open Go Go.RowKit Go.Num Go.Mem Go.Proofs Go.gW Go.Proofs.aQ Go.Proofs.mO Go.Proofs.iq Go.Proofs.iR Go.Proofs.differ
theorem lh_of {l a b:Int} (hl:0≤l∧l≤65535) (ha: -32768≤a∧a≤32767) (hb: -32768≤b∧b≤32767):Lh (l.tmod 10001) (a.tmod 12801) (b.tmod 12801):=by
 have l1:=Int.tmod_lt_of_pos l (show 0<10001 by omega);have l2:=Int.tmod_nonneg (10001:Int) hl.1;have m1:=Int.tmod_lt_of_pos a (show 0<12801 by omega);have m2:=Int.lt_tmod_of_pos a (show 0<12801 by omega);have n1:=Int.tmod_lt_of_pos b (show 0<12801 by omega);have n2:=Int.lt_tmod_of_pos b (show 0<12801 by omega);exact ⟨l2,by omega,by omega,by omega⟩
theorem lq_of {l a b:Int} (h:Lh l a b):Vm (qy l) (qy a) (qy b):=by
 obtain ⟨l0,l1,ha,hb⟩:=h
 have low:∀ {n k:Int}, -(k*100)≤n→ -(k:Rat)≤qy n:=fun {n k} h=>by
  have:=Gm (m:= -n) (n:=k) zo;have e:qy (-n)= -qy n:=by unfold qy;rw [Rat.intCast_neg];grind
  rw [e] at this
  grind
 have z:((0:Int):Rat)=0:=rfl;have z1:((128:Int):Rat)=128:=rfl;have p0:=low (n:=l) (k:=0) zo;have a0:=low (n:=a) (k:=128) zo;have b0:=low (n:=b) (k:=128) zo;rw [z] at p0;rw [z1] at a0 b0;exact ⟨Bl zo,Bl ha,Bl hb,by grind,Gm (n:=100) zo,a0,Gm (n:=128) zo,b0,Gm (n:=128) zo⟩
end Go.Proofs.verdigrislaw27
