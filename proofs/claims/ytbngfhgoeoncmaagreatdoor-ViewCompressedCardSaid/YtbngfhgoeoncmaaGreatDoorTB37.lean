/- Lemmas for the proof. No condition. -/
import Derived.Test.YtbngfhgoeoncmaaGreatDoorTB35
import Derived.Test.YtbngfhgoeoncmaaGreatDoorTB36
set_option linter.unusedVariables false
set_option linter.unusedSimpArgs false
set_option maxRecDepth 100000
set_option maxHeartbeats 16000000
open Bool renaming false_eq_true → bK
open Go.Ending renaming returned → ah
open Go.IntKind renaming i64 → I
open Go.Value renaming agg → aB, bool → aC, int → Z, slice → aj, string → O, tuple → aF
open Nat renaming le_trans → ay, mul_le_mul_right → aZ
namespace Go.Proofs.view
open Go Go.RowKit Go.Num Go.Mem Go.Proofs Go.d9 Go.Proofs.dR Go.Proofs.matrix Go.Proofs.dV Go.Proofs.dI
def pt (z:Int):Int × Int:=(z,z)
def Lx (a b:Int × Int):(Int × Int) × Int:=bC (0,0) (lK a b) oC
def NZ (a b c:Int × Int):(Int × Int) × Int:=bC (0,0) (lK a b) fun s=>bC (0,0) (lK s c) oC
def Fb (p:Int):(Int × Int) × Int :=
 bC (0,0) (UC p) fun b =>
 bC (0,0) (Bc b 400 1) fun n =>
 bC (0,0) (oh 2713 100) fun k =>
 bC (0,0) (j6 k) fun k =>
 bC (0,0) (Lx b k) fun s =>
 bC (0,0) (F5 n s) oC
def Gh (b:Int × Int):Int:=if jy b.1 b.2=true then 0 else 30
def Dt (fl x:Int × Int):(Int × Int) × Int :=
 bC (0,0) (nK (Gh fl)) fun _=>bC (0,0) (nK (Gh x)) fun _ =>
 if fl.1<0 then bC (0,0) (nK 2) fun _=>oC (0,0) else if x.1<0 then bC (0,0) (nK 2) fun _=>oC (0,0) else
 bC (0,0) (sO fl x) fun m =>
 bC (0,0) (power.LU m.1 m.2 5 12) fun u =>
 bC (0,0) (Fb u.1) fun r =>
 bC (0,0) (Fb u.2) fun s =>
 bC (0,0) (Wq r.1 s.2) oC
theorem KU {b:Int × Int} (h:jy b.1 b.2=true):nK (Gh b)=((),0):=by unfold nK Gh;rw [if_pos h]
def Oi (p:Int):Int:=400*p*1000000000000 / (p+27130000000000)
def LH (p:Int):Int:= -(-(400*p*1000000000000) / (p+27130000000000))
theorem Xq {n s:Int} (hn:n.natAbs≤1000000000000000000) (hs:0<s) (hs2:s≤1000000000000000000) (hq:n.natAbs*1000000000000≤1000000000000000000*s.natAbs):F5 (pt n) (pt s)=((n*1000000000000 / s, -(-(n*1000000000000) / s)),0):=by
 have hb:okB [pt n,pt s]=true:=Wp (jS (by show -1000000000000000000≤n;omega) (Int.le_refl _) (by show n≤1000000000000000000;omega)) (jS (by show -1000000000000000000≤s;omega) (Int.le_refl _) hs2);rw [MN hb hs (Int.le_refl _)]
 show iP (gZ (un n / un s) [un n / un s,un n / un s,un n / un s]) (dY (un n / un s) [un n / un s,un n / un s,un n / un s])=_
 have g1:∀ q:Rat,gZ q [q,q,q]=q:=fun q=>by unfold gZ gZ gZ gZ;grind
 have g2:∀ q:Rat,dY q [q,q,q]=q:=fun q=>by unfold dY dY dY dY;grind
 rw [g1,g2];have hs':(0:Rat)<(s:Rat):=Rat.intCast_pos.2 hs;have hs0:(s:Rat)≠0:=fun e=>by rw [e] at hs';exact absurd hs' Rat.lt_irrefl
 have e:un n / un s*((1000000000000:Int):Rat)=((n*1000000000000:Int):Rat) / (s:Rat):=by
  unfold un;rw [Rat.intCast_mul];have:=Uu;generalize ((1000000000000:Int):Rat)=E at *
  grind
 unfold iP;rw [e,jV,jV];have f2: -(((n*1000000000000:Int):Rat) / (s:Rat))=((-(n*1000000000000):Int):Rat) / (s:Rat):=by rw [rC,Rat.intCast_neg]
 rw [f2,nG _ hs,nG _ hs];obtain ⟨y,hy⟩:∃ y,n*1000000000000=y:=⟨_,rfl⟩;have by1: -(1000000000000000000*s)≤y∧y≤1000000000000000000*s:=by omega
 rw [hy];have d1: -1000000000000000000≤y / s:=(Int.le_ediv_iff_mul_le hs).2 (by rw [Int.neg_mul];exact by1.1);have d2: -1000000000000000000≤ -y / s:=(Int.le_ediv_iff_mul_le hs).2 (by rw [Int.neg_mul];omega)
 have d3:y / s≤ -(-y / s):=by
  have h1:=Int.ediv_mul_le y (show s≠0 by omega);have h2:=Int.ediv_mul_le (-y) (show s≠0 by omega);have h3:(y / s+ -y / s)*s≤0:=by rw [Int.add_mul];omega
  have h4:y / s+ -y / s≤0:=by
   refine Int.not_lt.1 fun h=>?_;have:=Int.mul_pos h hs;omega
  omega
 unfold iV;rw [if_pos (jS d1 d3 zo)]
theorem V4 {p:Int} (hp:p.natAbs≤1000000000000000):Bc (pt p) 400 1=(pt (400*p),0):=by
 rw [LG (jS (by show -1000000000000000000≤p;omega) (Int.le_refl _) (by show p≤1000000000000000000;omega)) zd]
 have e:un p*(((400:Int):Rat) / ((1:Int):Rat))=un (400*p):=by
  unfold un;rw [Rat.intCast_mul];have h1:((1:Int):Rat)=1:=rfl;rw [h1]
  grind
 show iP (gZ (un p*_) [un p*_,un p*_,un p*_]) (dY (un p*_) [un p*_,un p*_,un p*_])=_
 rw [e];have g1:∀ q:Rat,gZ q [q,q,q]=q:=fun q=>by unfold gZ gZ gZ gZ;grind
 have g2:∀ q:Rat,dY q [q,q,q]=q:=fun q=>by unfold dY dY dY dY;grind
 rw [g1,g2];unfold iP;rw [Bb,jV,jV,← Rat.intCast_neg,Rat.floor_intCast,Rat.floor_intCast,Int.neg_neg];unfold iV pt;rw [if_pos (jS zo (Int.le_refl _) zo)]
theorem Oo {p:Int} (h0:0≤p) (h1:p≤1000000000000000):Fb p=((Oi p,LH p),0):=by
 have e1:UC p=(pt p,0):=by
  unfold UC pt;rw [if_pos (jS zo (Int.le_refl _) zo)]
 have e2:lK (pt p) (pt 27130000000000)=(pt (p+27130000000000),0):=by
  unfold lK iV;rw [if_pos (Wp (jS (by show -1000000000000000000≤p;omega) (Int.le_refl _) (by show p≤1000000000000000000;omega)) zd),if_pos (show jy ((pt p).1+(pt 27130000000000).1) ((pt p).2+(pt 27130000000000).2)=true from jS (by show -1000000000000000000≤p+27130000000000;omega) (Int.le_refl _) (by show p+27130000000000≤1000000000000000000;omega))];rfl
 unfold Fb;rw [iO e1,iO (V4 zo),iO (show oh 2713 100=(Fr.of ((2713:Rat) / 100),0) by decide+kernel),iO (show j6 (Fr.of ((2713:Rat) / 100))=(pt 27130000000000,0) by decide+kernel),iO (show Lx (pt p) (pt 27130000000000)=_ by unfold Lx;rw [iO e2];rfl),iO (Xq zo zo zo zo)];rfl
theorem Oq {a b c d:Int} (hb:0<b) (hd:0<d) (h:a*d≤c*b):a / b≤c / d:=by
 refine (Int.le_ediv_iff_mul_le hd).2 ?_;have h1:=Int.ediv_mul_le a (show b≠0 by omega);refine Int.not_lt.1 fun hl=>?_;have h2:c*b<a / b*d*b:=Int.mul_lt_mul_of_pos_right hl hb;have h3:a / b*b*d≤a*d:=Int.mul_le_mul_of_nonneg_right h1 zo;have h4:a / b*d*b=a / b*b*d:=by grind
 omega
theorem cross {x y:Int} (h0:0≤x) (h:x≤y):400*x*1000000000000*(y+27130000000000)≤400*y*1000000000000*(x+27130000000000):=by
 have e1:400*x*1000000000000*(y+27130000000000)=400000000000000*(x*y)+400000000000000*27130000000000*x:=by grind
 have e2:400*y*1000000000000*(x+27130000000000)=400000000000000*(x*y)+400000000000000*27130000000000*y:=by grind
 omega
theorem vO {x y:Int} (h0:0≤x) (h:x≤y):Oi x≤Oi y:=Oq zo zo (cross h0 h)
theorem Ir {x y:Int} (h0:0≤x) (h:x≤y):LH x≤LH y:=by
 have:=Oq (a:= -(400*y*1000000000000)) (b:=y+27130000000000) (c:= -(400*x*1000000000000)) (d:=x+27130000000000) zo zo (by
  have:=cross h0 h;rw [Int.neg_mul,Int.neg_mul];omega)
 unfold LH;omega
theorem xV {x:Int} (h0:0≤x):Oi x≤LH x:=by
 unfold Oi LH;obtain ⟨y,hy⟩:∃ y,400*x*1000000000000=y:=⟨_,rfl⟩;obtain ⟨s,hs⟩:∃ s,x+27130000000000=s:=⟨_,rfl⟩;rw [hy,hs];have hs0:0<s:=by omega
 have h1:=Int.ediv_mul_le y (show s≠0 by omega);have h2:=Int.ediv_mul_le (-y) (show s≠0 by omega);have h3:(y / s+ -y / s)*s≤0:=by rw [Int.add_mul];omega
 have h4:y / s+ -y / s≤0:=by
  refine Int.not_lt.1 fun h=>?_;have:=Int.mul_pos h hs0;omega
 omega
theorem Oh {x:Int} (h0:0≤x):0≤Oi x:=Int.ediv_nonneg zo zo
theorem JY {x:Int} (h0:0≤x) (h1:x≤100000000000000):LH x<400000000000000:=by
 have:=Ir h0 h1;have e:LH 100000000000000<400000000000000:=by decide+kernel
 omega
theorem ZF {x y P Q:Int} {p q A B:Nat} (hp:P.toNat=p) (hq:Q.toNat=q) (b:jy x y=true) (h0:0≤x) (hk:power.YL P Q=true) (hA:nV x.toNat p q=A) (hB:phi y.toNat p q=B) (c1:A≤1000000000000000000) (c2:nV y.toNat p q≤1000000000000000000) (c3:B≤1000000000000000000) (c4:A≤B):power.LU x y P Q=(((A:Int),(B:Int)),0):=by
 unfold power.LU power.Sk xL;rw [b,if_neg zd,if_neg (by rw [not_or];exact ⟨by rw [hk];decide,by omega⟩)];simp only [hp,hq,hA,hB];have t:(10:Nat)^18=1000000000000000000:=by decide
 rw [t,if_pos c1,if_pos c2];simp only [ne_eq,not_true_eq_false,if_false,if_true,bK];rw [if_pos (jS zo zo zo)]
theorem R6 {x y:Int} (h0:0≤x) (h1:x≤y) (h2:y≤100000000000000):(bC (0,0) (Fb x) fun r=>bC (0,0) (Fb y) fun s=>bC (0,0) (Wq r.1 s.2) oC)=((Oi x,LH y),0):=by
 have l1:=vO h0 h1;have l2:=xV (show 0≤y by omega);have l3:=Oh h0;have l4:=JY (show 0≤y by omega) h2
 have e:Wq (Oi x) (LH y)=((Oi x,LH y),0):=by
  unfold Wq;rw [if_pos (jS zo zo zo)]
 rw [iO (Oo h0 (show x≤1000000000000000 by omega)),iO (Oo (show 0≤y by omega) (show y≤1000000000000000 by omega))]
 show bC (0,0) (Wq (Oi x) (LH y)) oC=_
 rw [iO e];unfold oC;exact Eq.refl _
theorem OZ {F p1 p2 x:Int} {m:Int × Int} (h1:p1≤x) (h2:x≤p2) (e:sO (pt F) (p1,p2)=(m,0)):m.1*1000000000000≤F*x∧F*x≤m.2*1000000000000:=by
 have e0:=e;unfold sO at e0;obtain ⟨k1, -⟩:=UE zd e0;rw [vS k1] at e;have b:Vi (un F*un p1) (un F*un p2) (un F*un p1) (un F*un p2) (un F*un x):=Og Rat.le_refl Rat.le_refl (wG.2 h1) (wG.2 h2);have c:=Tx b e
 have e1:un F*un x*((1000000000000:Int):Rat)*((1000000000000:Int):Rat)=((F*x:Int):Rat):=by
  rw [Rat.intCast_mul,← Bb F,← Bb x]
  grind
 have e2:∀ z:Int,un z*((1000000000000:Int):Rat)*((1000000000000:Int):Rat)=((z*1000000000000:Int):Rat):=fun z=>by rw [Bb,Rat.intCast_mul]
 have mul:∀ {y z:Rat},y≤z→y*((1000000000000:Int):Rat)*((1000000000000:Int):Rat)≤z*((1000000000000:Int):Rat)*((1000000000000:Int):Rat):=fun h=>Rat.mul_le_mul_of_nonneg_right (Rat.mul_le_mul_of_nonneg_right h (Rat.le_of_lt pQ)) (Rat.le_of_lt pQ)
 have k2:=mul c.1;have k3:=mul c.2;rw [e1,e2] at k2 k3;exact ⟨Rat.intCast_le_intCast.1 k2,Rat.intCast_le_intCast.1 k3⟩
theorem ZG {m:Nat} (h:m≤3870000000000000):phi m 5 12≤32000000000000:=by
 have k:3870000000000000^5*10^(12*12)≤32000000000000^12*10^(12*5):=by decide+kernel
 have k2:m^5≤3870000000000000^5:=Nat.pow_le_pow_left h 5;obtain ⟨X,hX⟩:∃ X,3870000000000000^5=X:=⟨_,rfl⟩;rw [hX] at k k2;exact OC zo (ay (aZ _ k2) k)
theorem Ji {F p1 p2:Int} (hF:0≤F) (hF2:F≤4300000000000) (h0:0≤p1) (h1:p1≤p2) (h2:p2≤900000000000000):∃ m,sO (pt F) (p1,p2)=(m,0)∧0≤m.1∧m.1≤m.2∧phi m.2.toNat 5 12≤32000000000000∧nV m.1.toNat 5 12≤phi m.2.toNat 5 12∧Dt (pt F) (p1,p2)=((Oi ((nV m.1.toNat 5 12:Nat):Int),LH ((phi m.2.toNat 5 12:Nat):Int)),0):=by
 have sF:Sb (pt F) (0,4300000000000):=⟨hF,Int.le_refl _,hF2⟩;have sp:Sb (p1,p2) (0,900000000000000):=⟨h0,h1,h2⟩;obtain ⟨m,e1,hm⟩:=CZ sF sp (C:=(0,3870000000000000)) (by decide+kernel);obtain ⟨m0,m1,m2⟩:=hm;simp only at m0 m2;have k1:phi m.2.toNat 5 12≤32000000000000:=ZG zo;have k2:nV m.1.toNat 5 12≤nV m.2.toNat 5 12:=IX zo (ay (uO zo _ _).1 (aZ _ (Nat.pow_le_pow_left (show m.1.toNat≤m.2.toNat by omega) 5)));have k3:=(zu m.2.toNat 5 12).1;refine ⟨m,e1,m0,m1,k1,by omega,?_⟩;have bm:jy m.1 m.2=true:=jS zo m1 zo;have e2:power.LU m.1 m.2 5 12=((((nV m.1.toNat 5 12:Nat):Int),((phi m.2.toNat 5 12:Nat):Int)),0):=ZF (p:=5) (q:=12) rfl rfl bm m0 zd rfl rfl zo zo zo zo;generalize nV m.1.toNat 5 12=A at *;generalize phi m.2.toNat 5 12=B at *;unfold Dt
 rw [iO (KU (show jy (pt F).1 (pt F).2=true from sF.jy zd)),iO (KU (show jy (p1,p2).1 (p1,p2).2=true from sp.jy zd)),if_neg (show ¬ (pt F).1<0 by show ¬ F<0;omega),if_neg (show ¬ (p1,p2).1<0 by show ¬ p1<0;omega),iO e1,iO e2];exact R6 zo zo zo
theorem compressed {F p1 p2 q1 q2:Int} (hF:0≤F) (hF2:F≤4300000000000) (h0:0≤p1) (h1:p1≤p2) (h2:p2≤q1) (h3:q1≤q2) (h4:q2≤900000000000000) :
  ∃ a b c,Dt (pt F) (p1,p2)=(a,0)∧Dt (pt F) (q1,q2)=(b,0)∧Dt (pt F) (p1,q2)=(c,0)∧0≤a.1∧b.2<400000000000000∧a.1≤b.2∧c.1≤a.1∧b.2≤c.2∧c.1≤b.1∧a.2≤c.2∧a.1≤a.2∧b.1≤b.2:=by
 obtain ⟨m,e1,m0,m1,k1,k2,e2⟩:=Ji hF hF2 h0 h1 (show p2≤900000000000000 by omega);obtain ⟨n,f1,n0,n1,l1,l2,f2⟩:=Ji hF hF2 (show 0≤q1 by omega) h3 h4;obtain ⟨o,g1,o0,o1,j1,j2,g2⟩:=Ji hF hF2 h0 (show p1≤q2 by omega) h4;obtain ⟨m',x1,x2⟩:=CZ (a:=pt F) (b:=(p1,p2)) (B:=(p1,q2)) (Sb.refl (Int.le_refl _)) ⟨Int.le_refl _,h1,by show p2≤q2;omega⟩ g1;obtain ⟨n',y1,y2⟩:=CZ (a:=pt F) (b:=(q1,q2)) (B:=(p1,q2)) (Sb.refl (Int.le_refl _)) ⟨by show p1≤q1;omega,h3,Int.le_refl _⟩ g1;rw [e1] at x1;cases x1
 rw [f1] at y1;cases y1
 have ml:∀ {x y:Int},0≤x→x≤y→nV x.toNat 5 12≤nV y.toNat 5 12:=fun {x y} h0 h=>IX zo (ay (uO zo _ _).1 (aZ _ (Nat.pow_le_pow_left (show x.toNat≤y.toNat by omega) 5)))
 have mh:∀ {x y:Int},0≤x→x≤y→phi x.toNat 5 12≤phi y.toNat 5 12:=fun {x y} h0 h=>OC zo (ay (aZ _ (Nat.pow_le_pow_left (show x.toNat≤y.toNat by omega) 5)) (OB zo _ _))
 have s1:=x2.lo;have s2:=x2.hi;have s3:=y2.lo;have s4:=y2.hi;have a1:=ml o0 s1;have a2:=mh (show 0≤m.2 by omega) s2;have a3:=ml o0 s3;have a4:=mh (show 0≤n.2 by omega) s4
 have pn:nV m.1.toNat 5 12≤phi n.2.toNat 5 12:=by
  have t:m.1≤n.2:=by
   have c1:=(show m.1≤n.2 from by
    have u1:=(OZ (Int.le_refl _) h1 e1).1;have u2:=(OZ h3 (Int.le_refl _) f1).2;have u3:F*p1≤F*q2:=Int.mul_le_mul_of_nonneg_left zo hF;omega)
   exact c1
  have:=ml m0 t;have:=(zu n.2.toNat 5 12).1;omega
 refine ⟨_,_,_,e2,f2,g2,Oh zo,JY zo zo,?_,vO zo zo,Ir zo zo,vO zo zo,Ir zo zo,?_,?_⟩
 ·exact Int.le_trans (vO zo (Int.ofNat_le.2 pn)) (xV zo)
 ·exact Int.le_trans (vO zo (Int.ofNat_le.2 k2)) (xV zo)
 ·exact Int.le_trans (vO zo (Int.ofNat_le.2 l2)) (xV zo)
end Go.Proofs.view
namespace Go.Proofs.view
open Go Go.RowKit Go.Num Go.Mem Go.Proofs Go.d9 Go.Proofs.dR
def _root_.Go.Proofs.adapt.Xd (k:Int) (a b:light.gJ) (d:Fr):light.gJ × Int:=(if adapt.nP k a b d=0 then adapt.kJ (adapt.ql k a b d) else adapt.OU,adapt.nP k a b d)
def noT:light.gJ:=⟨Fr.no,Fr.no,Fr.no⟩
def QF (f lo hi:Fr):Bool × Int:=bC false (uE f lo) fun a=>if 0≤a then bC false (uE f hi) fun b=>oC (decide (b≤0)) else oC false
def zn (t:light.gJ):light.gJ × Int:=(adapt.kJ (adapt.jU 4 t),if adapt.j4 (adapt.jU 4 t) then 0 else 6)
def Bp:light.gJ × Int:=bC noT (nK 280) fun _=>oC noT
def jw (W:light.gJ) (la yb:Fr) (s:Int):light.gJ × Int :=
 bC noT (nK (light.qK W)) fun _=>bC noT (nK (Cc la)) fun _=>bC noT (nK (Cc yb)) fun _ =>
 bC noT (zn W) fun r =>
 bC noT (nU r.x) fun a=>if a≤0 then Bp else bC noT (nU r.y) fun a=>if a≤0 then Bp else bC noT (nU r.z) fun a=>if a≤0 then Bp else
 bC noT (oh 1 1) fun lo=>bC noT (oh 2000 1) fun hi=>bC noT (QF la lo hi) fun b=>if b=false then Bp else
 bC noT (nU yb) fun a=>if a≤0 then Bp else bC noT (uE yb W.y) fun b=>if 0<b then Bp else
 if s<1 then Bp else if 3<s then Bp else oC r
def Xt (la f:Fr):Fr × Int :=
 bC Fr.no (oh 1 1) fun one=>bC Fr.no (oh 92 1) fun h=>bC Fr.no (uX la h) fun q=>bC Fr.no (Dz one q) fun n =>
 bC Fr.no (oh 18 1) fun e=>bC Fr.no (vT e n) fun n=>bC Fr.no (oh 5 1) fun v=>bC Fr.no (uX v n) fun n =>
 bC Fr.no (Im one n) fun m=>bC Fr.no (vT f m) oC
def Wy (la:Fr):(Int × Int) × Int :=
 bC (0,0) (oh 1 1) fun one=>bC (0,0) (oh 5 1) fun v=>bC (0,0) (vT v la) fun five =>
 bC (0,0) (Dz five one) fun p=>bC (0,0) (uX one p) fun k=>bC (0,0) (Iz k 4) fun k4 =>
 bC (0,0) (vT k4 la) fun first=>bC (0,0) (Im one k4) fun s=>bC (0,0) (Iz s 2) fun rest =>
 bC (0,0) (oh 1 10) fun t=>bC (0,0) (vT t rest) fun second =>
 bC (0,0) (j6 five) fun a=>bC (0,0) (power.LU a.1 a.2 1 3) fun root =>
 bC (0,0) (j6 first) fun x=>bC (0,0) (j6 second) fun y=>bC (0,0) (sO y root) fun m=>bC (0,0) (Lx x m) oC
def cl {α:Type} (z:α) (r:α × Int):α × Int:=if r.2=0 then r else (z,r.2)
def xP (fl x:Int × Int):(Int × Int) × Int:=cl (0,0) (Dt fl x)
def X0 (Wu r g b:Int × Int):(Int × Int) × Int :=
 bC (0,0) (nK (Gh Wu)) fun _=>bC (0,0) (nK (Gh r)) fun _=>bC (0,0) (nK (Gh g)) fun _=>bC (0,0) (nK (Gh b)) fun _ =>
 bC (0,0) (Bc r 2 1) fun r=>bC (0,0) (Bc b 1 20) fun b=>bC (0,0) (NZ r g b) fun s=>bC (0,0) (sO s Wu) oC
def Jr (Wu r g b:Int × Int):(Int × Int) × Int:=cl (0,0) (X0 Wu r g b)
abbrev Yv:=(Fr × Fr × Fr × Fr × Fr) × (Int × Int) × light.gJ × (Int × Int) × (Int × Int) × (Int × Int)
def zI:Yv:=((Fr.no,Fr.no,Fr.no,Fr.no,Fr.no),(0,0),noT,(0,0),(0,0),(0,0))
def Dy (r g:Fr) (fl:Int × Int):(Int × Int) × Int:=bC (0,0) (vT r g) fun a=>bC (0,0) (j6 a) fun b=>bC (0,0) (xP fl b) oC
def Xw (f nc c num den:Int) (W:light.gJ) (la yb:Fr) (r:light.gJ):Yv × Int :=
 bC zI (oh f 1000) fun F=>bC zI (oh nc 1000) fun N=>bC zI (oh c 1000) fun C=>bC zI (uX yb W.y) fun n =>
 bC zI (Xt la F) fun D=>bC zI (adapt.Xd 4 W ⟨W.y,W.y,W.y⟩ D) fun G=>bC zI (Wy la) fun fl =>
 bC zI (oh 1 1) fun one=>bC zI (uX one n) fun q=>bC zI (j6 q) fun q=>bC zI (power.LU q.1 q.2 1 5) fun root =>
 bC zI (oh 725 1000) fun m=>bC zI (j6 m) fun m=>bC zI (sO m root) fun Wu =>
 bC zI (Dy r.x G.x fl) fun x=>bC zI (Dy r.y G.y fl) fun y=>bC zI (Dy r.z G.z fl) fun z =>
 bC zI (Jr Wu x y z) fun aw=>oC ((F,N,C,n,D),(num,den),G,fl,Wu,aw)
def ZA (s:Int):Int × Int × Int × Int × Int:=if s=1 then (1000,1000,690,4,3) else if s=2 then (900,950,590,7,6) else (800,800,525,1,1)
def kM (W:light.gJ) (la yb:Fr) (s:Int):Yv × Int :=
 bC zI (jw W la yb s) fun r=>bC zI (Xw (ZA s).1 (ZA s).2.1 (ZA s).2.2.1 (ZA s).2.2.2.1 (ZA s).2.2.2.2 W la yb r) oC
def uz (W:light.gJ) (la yb:Fr) (s:Int):Yv × Int:=cl zI (kM W la yb s)
end Go.Proofs.view
namespace Go.Proofs.view
open Go Go.RowKit Go.SW Go.Num Go.Mem Go.Proofs Go.d9 Go.Fx
def thrown (er:Int):Ending:=.panicked [{ v:=.iface 101 (aB #[Z I er]),recovered:=false }]
abbrev Try:=DF thrown
theorem dK (k:Int):∃ c,thrown k= .panicked c:=⟨_,rfl⟩
theorem jf (w:World):Calls Tryz.prog 21 #[Z I 0] w (fun e w'=>e= ah (aF #[])∧w'=w):=by
 go_enter Tryz.func21,Tryz.ntmps21
 go_wp2_with fail
 first|go_end0|refine bodyPost_ret (results_none rfl _ _ _) rfl ?_
 exact ⟨rfl,rfl⟩
theorem gP (er:Int) (h:er≠0) (w:World):Calls Tryz.prog 21 #[Z I er] w (fun e w'=>e=thrown er∧w'=w):=by
 have b1:(er != 0)=true:=by simp [h]
 clear h;go_enter Tryz.func21,Tryz.ntmps21
 go_wp2_with fail
 exact ⟨rfl,rfl,rfl⟩
theorem dF {c k:Int} {u:Unit} (hx:bY (nK c) u k) (w:World):Calls Tryz.prog 21 #[Z I c] w (Try w (aF #[]) k):=by
 obtain rfl:c=k:=hx.1
 by_cases h:c=0
 ·subst h;exact (jf w).mono fun _ _ ⟨e,h⟩=>by subst h;exact ⟨Below.refl _ _,.inl ⟨rfl,e⟩⟩
 ·exact (gP c h w).mono fun _ _ ⟨e,h2⟩=>by subst h2;exact ⟨Below.refl _ _,.inr ⟨h,e⟩⟩
theorem gV {s t:ByteArray} {k:Int} (w:World):Calls Tryz.prog 77 #[aB #[O s,O t],Z I k] w (Try w (aB #[O s,O t]) k):=by
 by_cases h:k=0
 ·subst h;go_enter Tryz.func77,Tryz.ntmps77
  go_wp2_with fail
  refine (jf _).mono ?_;rintro e w1 ⟨rfl,rfl⟩;go_wp2_with fail
  refine iX rfl rfl aY Tryz.underlying38 rfl zk ?_;exact ⟨aO,.inl ⟨rfl,rfl⟩⟩
 ·have H:=zh h;clear h;go_enter Tryz.func77,Tryz.ntmps77
  go_wp2_with fail
  refine (gP k H.out _).mono ?_;rintro e w1 ⟨rfl,rfl⟩;exact ⟨rfl,aO,.inr ⟨H.out,rfl⟩⟩
theorem gN {x y:Int} {k:Int} (w:World):Calls Tryz.prog 23 #[aB #[Z I x,Z I y],Z I k] w (Try w (aB #[Z I x,Z I y]) k):=by
 by_cases h:k=0
 ·subst h;go_enter Tryz.func23,Tryz.ntmps23
  go_wp2_with fail
  refine (jf _).mono ?_;rintro e w1 ⟨rfl,rfl⟩;go_wp2_with fail
  refine iX rfl rfl aY Tryz.underlying26 rfl zk ?_;exact ⟨aO,.inl ⟨rfl,rfl⟩⟩
 ·have H:=zh h;clear h;go_enter Tryz.func23,Tryz.ntmps23
  go_wp2_with fail
  refine (gP k H.out _).mono ?_;rintro e w1 ⟨rfl,rfl⟩;exact ⟨rfl,aO,.inr ⟨H.out,rfl⟩⟩
theorem gu {v k:Int} (w:World):Calls Tryz.prog 74 #[Z I v,Z I k] w (Try w (Z I v) k):=by
 by_cases h:k=0
 ·subst h;go_enter Tryz.func74,Tryz.ntmps74
  go_wp2_with fail
  refine (jf _).mono ?_;rintro e w1 ⟨rfl,rfl⟩;go_wp2_with fail
  go_ret
  exact ⟨Below.refl _ _,.inl ⟨rfl,rfl⟩⟩
 ·have H:=zh h;clear h;go_enter Tryz.func74,Tryz.ntmps74
  go_wp2_with fail
  refine (gP k H.out _).mono ?_;rintro e w1 ⟨rfl,rfl⟩;exact ⟨rfl,Below.refl _ _,.inr ⟨H.out,rfl⟩⟩
theorem SA {a b c d e f:ByteArray} {k:Int} (w:World):Calls Tryz.prog 80 #[aB #[O a,O b,O c,O d,O e,O f],Z I k] w (Try w (aB #[O a,O b,O c,O d,O e,O f]) k):=by
 by_cases h:k=0
 ·subst h;go_enter Tryz.func80,Tryz.ntmps80
  go_wp2_with fail
  refine (jf _).mono ?_;rintro e w1 ⟨rfl,rfl⟩;go_wp2_with fail
  refine iX rfl rfl aY Tryz.underlying39 rfl zk ?_;exact ⟨aO,.inl ⟨rfl,rfl⟩⟩
 ·have H:=zh h;clear h;go_enter Tryz.func80,Tryz.ntmps80
  go_wp2_with fail
  refine (gP k H.out _).mono ?_;rintro e w1 ⟨rfl,rfl⟩;exact ⟨rfl,aO,.inr ⟨H.out,rfl⟩⟩
theorem SB {a:Option Addr} {n c:Nat} {k:Int} (w:World):Calls Tryz.prog 70 #[aj a n c,Z I k] w (Try w (aj a n c) k):=by
 by_cases h:k=0
 ·subst h;go_enter Tryz.func70,Tryz.ntmps70
  go_wp2_with fail
  refine (jf _).mono ?_;rintro e w1 ⟨rfl,rfl⟩;go_wp2_with fail
  go_ret
  exact ⟨Below.refl _ _,.inl ⟨rfl,rfl⟩⟩
 ·have H:=zh h;clear h;go_enter Tryz.func70,Tryz.ntmps70
  go_wp2_with fail
  refine (gP k H.out _).mono ?_;rintro e w1 ⟨rfl,rfl⟩;exact ⟨rfl,Below.refl _ _,.inr ⟨H.out,rfl⟩⟩
theorem SC {a:Option Addr} {n c:Nat} {k:Int} (w:World):Calls Tryz.prog 72 #[aj a n c,Z I k] w (Try w (aj a n c) k):=by
 by_cases h:k=0
 ·subst h;go_enter Tryz.func72,Tryz.ntmps72
  go_wp2_with fail
  refine (jf _).mono ?_;rintro e w1 ⟨rfl,rfl⟩;go_wp2_with fail
  go_ret
  exact ⟨Below.refl _ _,.inl ⟨rfl,rfl⟩⟩
 ·have H:=zh h;clear h;go_enter Tryz.func72,Tryz.ntmps72
  go_wp2_with fail
  refine (gP k H.out _).mono ?_;rintro e w1 ⟨rfl,rfl⟩;exact ⟨rfl,Below.refl _ _,.inr ⟨H.out,rfl⟩⟩
theorem fB {n d:Int} {y y':ByteArray} {k:Int} (hx:bY (oh n d) ⟨y,y'⟩ k) (w:World) (ht:iA.Pow w) (n0: -9223372036854775808≤n:=by omega) (n1:n≤9223372036854775807:=by omega) (d0: -9223372036854775808≤d:=by omega) (d1:d≤9223372036854775807:=by omega):Calls Tryz.prog 61 #[.int .i64 n,.int .i64 d] w (Try w (.agg #[.string y,.string y']) k):=by
 refine Fx.door Tryz.func61 rfl (.nil w []) ?_;have HR:=hx;refine Fx.bH [] 4 38 [] [] fun iK=>?_;obtain ⟨⟨s2,t2⟩,k2,EX,HN⟩:=lQ HR;refine Fx.call [] 7 [] [] (fun W M=>cOf EX _ (ht.later M.below)) ?_;refine Fx.bD dK [] 10 [] [] (fun W M=>gV (s:=s2) (t:=t2) _) HN fun _ HR=>?_;obtain ⟨hk,hv⟩:=HR;cases hk
 exact Fx.mU (cs:=#[.string s2,.string t2]) 0 iK [3] [(0,#[.string s2,.string t2])] (fun W M=>⟨M.below,.inl ⟨rfl,by cases hv rfl;rfl⟩⟩)
theorem lD {s t:ByteArray} {x y k:Int} (hx:bY (dR.j6 ⟨s,t⟩) (x,y) k) (w:World) (ht:iA.Pow w) (he:whole.Er w):Calls Tryz.prog 60 #[aB #[O s,O t]] w (Try w (aB #[Z I x,Z I y]) k):=by
 refine Fx.door Tryz.func60 rfl (.nil w []) ?_;have HR:=hx;refine Fx.new [] 1 #[O s,O t] 38 [] [] fun iK=>?_;refine Fx.bH [] 2 26 [] [] fun mM=>?_;obtain ⟨⟨x3,y3⟩,k3,EX,HN⟩:=lQ HR;refine Fx.call [3] 4 [] [] (fun W M=>TP EX _ (ht.later M.below) (he.later M.below)) ?_;refine Fx.bD dK [] 7 [] [] (fun W M=>gN (x:=x3) (y:=y3) _) HN fun _ HR=>?_;obtain ⟨hk,hv⟩:=HR;cases hk
 exact Fx.mU (cs:=#[Z I x3,Z I y3]) 1 mM [4] [(1,#[Z I x3,Z I y3])] (fun W M=>⟨M.below,.inl ⟨rfl,by cases hv rfl;rfl⟩⟩)
theorem N7 {a b c d x y k:Int} {q:Nat} (hx:bY (Lx (a,b) (c,d)) (x,y) k) (w:World) (hq:aA w q #[Z I c,Z I d] 26):Calls Tryz.prog 44 #[aB #[Z I a,Z I b],aj (some ⟨q,0,none⟩) 1 1] w (Try w (aB #[Z I x,Z I y]) k):=by
 unfold Lx at hx;refine Fx.door Tryz.func44 rfl (.ro hq (.nil w [])) ?_;have HR:=hx;refine Fx.new [] 2 #[Z I a,Z I b] 26 [] [] fun iK=>?_;refine Fx.bH [] 4 26 [] [] fun mM=>?_;refine Fx.bH [1,3] 6 26 [(8,Z I 1),(9,Z I 0),(12,aB #[Z I c,Z I d])] [] fun qO=>?_;obtain ⟨⟨x4,y4⟩,k4,EX,HN⟩:=ak HR;refine Fx.call [6,4,6] 15 [] [(3,#[Z I c,Z I d])] (fun W M=>QB EX _) ?_;refine Fx.bD dK [] 18 [] [] (fun W M=>gN (x:=x4) (y:=y4) _) HN fun _ HR=>?_;obtain ⟨hk,hv⟩:=HR;cases hk
 exact Fx.mU (cs:=#[Z I x4,Z I y4]) 2 mM [4,2,4,5] [(1,#[Z I x4,Z I y4]),(2,#[Z I x4,Z I y4])] (fun W M=>⟨M.below,.inl ⟨rfl,by cases hv rfl;rfl⟩⟩)
theorem VY {a b c d e f x y k:Int} {q:Nat} (hx:bY (NZ (a,b) (c,d) (e,f)) (x,y) k) (w:World) (hq:aA w q #[Z I c,Z I d,Z I e,Z I f] 26):Calls Tryz.prog 44 #[aB #[Z I a,Z I b],aj (some ⟨q,0,none⟩) 2 2] w (Try w (aB #[Z I x,Z I y]) k):=by
 unfold NZ at hx;refine Fx.door Tryz.func44 rfl (.ro hq (.nil w [])) ?_;have HR:=hx;refine Fx.new [] 2 #[Z I a,Z I b] 26 [] [] fun iK=>?_;refine Fx.bH [] 4 26 [] [] fun mM=>?_;refine Fx.bH [1,3] 6 26 [(7,aj (some ⟨q,0,none⟩) 2 2),(8,Z I 2),(9,Z I 0),(12,aB #[Z I c,Z I d])] [] fun qO=>?_;obtain ⟨⟨x4,y4⟩,k4,EX,HN⟩:=ak HR;refine Fx.call [6,4,6] 15 [] [(3,#[Z I c,Z I d])] (fun W M=>QB EX _) ?_;refine Fx.bD dK [] 18 [] [] (fun W M=>gN (x:=x4) (y:=y4) _) HN fun _ HR=>?_;refine Fx.bH [4,1,3] 6 26 [(9,Z I 1),(12,aB #[Z I e,Z I f])] [(1,#[Z I x4,Z I y4])] fun Av=>?_;obtain ⟨⟨x7,y7⟩,k7,EX,HN⟩:=ak HR;refine Fx.call [7,4,7] 15 [] [(4,#[Z I e,Z I f])] (fun W M=>QB EX _) ?_;refine Fx.bD dK [] 18 [] [] (fun W M=>gN (x:=x7) (y:=y7) _) HN fun _ HR=>?_
 obtain ⟨hk,hv⟩:=HR;cases hk
 exact Fx.mU (cs:=#[Z I x7,Z I y7]) 2 mM [4,2,4,5] [(1,#[Z I x7,Z I y7]),(2,#[Z I x7,Z I y7])] (fun W M=>⟨M.below,.inl ⟨rfl,by cases hv rfl;rfl⟩⟩)
theorem sH {s1 s2 l1 l2 h1 h2:ByteArray} {v:Bool} {k:Int} (hx:bY (QF ⟨s1,s2⟩ ⟨l1,l2⟩ ⟨h1,h2⟩) v k) (w:World):Calls Tryz.prog 76 #[aB #[O s1,O s2],aB #[O l1,O l2],aB #[O h1,O h2]] w (Try w (aC v) k):=by
 unfold QF at hx;refine Fx.door Tryz.func76 rfl (.nil w []) ?_;have HR:=hx;refine Fx.new [] 3 #[O s1,O s2] 38 [] [] fun iK=>?_;refine Fx.new [] 4 #[O l1,O l2] 38 [] [] fun mM=>?_;refine Fx.new [] 5 #[O h1,O h2] 38 [] [] fun qO=>?_;obtain ⟨v4,k4,EX,HN⟩:=ak HR;refine Fx.call [3,4] 9 [] [] (fun W M=>M9 EX _) ?_;refine Fx.bD dK [] 12 [] [] (fun W M=>gu (v:=v4) _) HN fun _ HR=>?_;refine Fx.part 1 [] [(13,aC (decide (0≤v4)))] [] ?_;refine Fx.splitB (fun hf1=>?_) (fun hf1=>?_)
 ·skip
  replace HR:=bY.pos HR (of_decide_eq_true hf1);obtain ⟨v6,k6,EX,HN⟩:=ak HR;refine Fx.call [3,5] 17 [(14,aC true)] [] (fun W M=>M9 EX _) ?_;refine Fx.bD dK [] 20 [] [] (fun W M=>gu (v:=v6) _) HN fun _ HR=>?_;obtain ⟨hk,hv⟩:=HR;cases hk
  exact Fx.xE (v:=aC (decide (v6≤0))) [] [] (fun W M=>⟨M.below,.inl ⟨rfl,by cases hv rfl;rfl⟩⟩)
 ·skip
  replace HR:=bY.neg HR (of_decide_eq_false hf1);obtain ⟨hk,hv⟩:=HR;cases hk
  exact Fx.xE (v:=aC false) [0,0,0,0] [] (fun W M=>⟨M.below,.inl ⟨rfl,by cases hv rfl;rfl⟩⟩)
end Go.Proofs.view
