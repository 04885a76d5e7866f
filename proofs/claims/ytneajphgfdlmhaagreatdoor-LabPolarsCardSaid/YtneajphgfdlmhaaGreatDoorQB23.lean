/- Lemmas for the proof. No condition. -/
import Derived.Test.YtneajphgfdlmhaaGreatDoorQB22
import Derived.Deep.Cut
set_option linter.unusedVariables false
set_option linter.unusedSimpArgs false
set_option maxRecDepth 100000
set_option maxHeartbeats 16000000
open Go.Ending renaming returned → aj
open Go.IntKind renaming i64 → I
open Go.Value renaming agg → au, bool → ak, int → Z, slice → ah, string → O, tuple → aG
open List renaming range → dz
open Nat renaming div_add_mod → dF, le_refl → aD, le_trans → ay, mod_lt → fC, pow_le_pow_right → bI
namespace Go.Proofs.aH
open Go Go.RowKit Go.SW Go.Num Go.Mem Go.Proofs Go.Dec Go.Proofs.aC Go.Fx
def Ra (w:World) (v:Value) (q:Rat):Prop:=∃ bn pn ln cn bd pd ld cd,v= au #[ak bn,ah pn ln cn,ak bd,ah pd ld cd]∧Pl w (au #[ak bn,ah pn ln cn]) q.num∧Pl w (au #[ak bd,ah pd ld cd]) q.den
theorem Ra.later {w w':World} {v:Value} {q:Rat} (h:Ra w v q) (hb:Below w.heap.size w w'):Ra w' v q:=by
 obtain ⟨bn,pn,ln,cn,bd,pd,ld,cd,e,h1,h2⟩:=h;exact ⟨bn,pn,ln,cn,bd,pd,ld,cd,e,h1.later hb,h2.later hb⟩
def kS (w:World) (q:Rat) (e:Ending) (w':World):Prop:=∃ v',e= aj v'∧Below w.heap.size w w'∧Ra w' v' q
def aF2 (w:World) (q:Rat) (e:Ending) (w':World):Prop:=∃ b pa l ca b' pa' l' KW,e= aj (au #[ak b,ah pa l ca,ak b',ah pa' l' KW])∧Below w.heap.size w w'∧Ra w' (au #[ak b,ah pa l ca,ak b',ah pa' l' KW]) q
theorem qz {w:World} {q:Rat} {e:Ending} {w':World} (h:kS w q e w'):aF2 w q e w':=by
 obtain ⟨v,rfl,h,hv⟩:=h;obtain ⟨b,pa,l,ca,b',pa',l',KW,rfl, -⟩:=id hv;exact ⟨b,pa,l,ca,b',pa',l',KW,rfl,h,hv⟩
theorem yZ {n d:Int} (hd:0<d):((n:Rat) / (d:Rat)).num=n / (Nat.gcd n.natAbs d.natAbs:Int)∧(((n:Rat) / (d:Rat)).den:Int)=d / (Nat.gcd n.natAbs d.natAbs:Int):=by
 obtain ⟨k,rfl⟩:=Int.eq_ofNat_of_zero_le (Int.le_of_lt hd);have hk:0<k:=by omega
 have e:(n:Rat) / ((k:Int):Rat)=mkRat n k:=by
  rw [Rat.mkRat_eq_div];rfl
 have h:=gD.tY n hk;rw [e,Int.natAbs_natCast];refine ⟨?_,?_⟩
 ·rw [h.1,gD.BM (Nat.gcd_dvd_left _ _)]
 ·rw [h.2,Int.natCast_ediv]
theorem Pl.xH {w:World} {v:Value} {z:Int} (h:Pl w v z) {b:Nat} {cs:Array Value} {T':TypeId} (hx:aA w b cs T') (hT:3≠T') (u0 u1 u2 u3:Value) :
  Pl ((((w.setCell ⟨b,0,none⟩ u0).setCell ⟨b,1,none⟩ u1).setCell ⟨b,2,none⟩ u2).setCell ⟨b,3,none⟩ u3) v z :=
 (h.set2 hx hT 0 1 u0 u1).set2 ((hx.set 0 u0).set 1 u1) hT 2 3 u2 u3
theorem Ra.xH {w:World} {v:Value} {q:Rat} (h:Ra w v q) {b:Nat} {cs:Array Value} {T':TypeId} (hx:aA w b cs T') (hT:3≠T') (u0 u1 u2 u3:Value) :
  Ra ((((w.setCell ⟨b,0,none⟩ u0).setCell ⟨b,1,none⟩ u1).setCell ⟨b,2,none⟩ u2).setCell ⟨b,3,none⟩ u3) v q:=by
 obtain ⟨bn,pn,ln,cn,bd,pd,ld,cd,e,h1,h2⟩:=h;exact ⟨bn,pn,ln,cn,bd,pd,ld,cd,e,Pl.xH h1 hx hT u0 u1 u2 u3,Pl.xH h2 hx hT u0 u1 u2 u3⟩
theorem _root_.Go.Mem.Pl.keep {l:List TypeId} {w w':World} {v:Value} {z:Int} (h:Pl w v z) (k:Kept l w w') (hT:l.contains 3=false:=by kernel_rfl):Pl w' v z:=by
 obtain ⟨pa,n,ca,h1,h2⟩:=h;exact ⟨pa,n,ca,h1,Row.keep h2 k (TI hT)⟩
theorem Ra.keep {l:List TypeId} {w w':World} {v:Value} {q:Rat} (h:Ra w v q) (k:Kept l w w') (hT:l.contains 3=false:=by kernel_rfl):Ra w' v q:=by
 obtain ⟨bn,pn,ln,cn,bd,pd,ld,cd,e,h1,h2⟩:=h;exact ⟨bn,pn,ln,cn,bd,pd,ld,cd,e,h1.keep k hT,h2.keep k hT⟩
def Vr (w:World) (z:Int) (e:Ending) (w':World):Prop:=∃ b pa l ca,e= aj (au #[ak b,ah pa l ca])∧Below w.heap.size w w'∧Pl w' (au #[ak b,ah pa l ca]) z
theorem Qk {w:World} {z:Int} {e:Ending} {w':World} (h:wV w z e w'):Vr w z e w':=by
 obtain ⟨v,rfl,h,hv⟩:=h;obtain ⟨b,pa,l,ca,rfl⟩:=hv.agg;exact ⟨b,pa,l,ca,rfl,h,hv⟩
def as9 (w:World) (x y:Int) (e:Ending) (w':World):Prop:=∃ b pa l ca b' pa' l' KW,e= aj (aG #[au #[ak b,ah pa l ca],au #[ak b',ah pa' l' KW]])∧Below w.heap.size w w'∧Pl w' (au #[ak b,ah pa l ca]) x∧Pl w' (au #[ak b',ah pa' l' KW]) y
theorem Ow {w:World} {x y:Int} {e:Ending} {w':World} (h:sH w x y e w'):as9 w x y e w':=by
 obtain ⟨v,u,rfl,h,hv,hu⟩:=h;obtain ⟨b,pa,l,ca,rfl⟩:=hv.agg;obtain ⟨b',pa',l',KW,rfl⟩:=hu.agg;exact ⟨b,pa,l,ca,b',pa',l',KW,rfl,h,hv,hu⟩
theorem Ns (x y:Value) (n d:Int) (w:World) (hx:Pl w x n) (hy:Pl w y d) (ha:sz 10000 n.natAbs≤274877906944) (hb:sz 10000 d.natAbs≤274877906944) (hd:0<d) :
  Calls Tryz.prog 210 #[x,y] w (kS w ((n:Rat) / (d:Rat))):=by
 obtain ⟨e1,e2⟩:=yZ (n:=n) hd;generalize (n:Rat) / (d:Rat)=q at *;obtain ⟨bA,kg,lA,kN,rfl⟩:=hx.agg;obtain ⟨bB,oq,lB,oz,rfl⟩:=hy.agg;have hbf:bB=false:=by rw [hy.nm.2];simp;omega
 subst hbf;have hg0:0<Nat.gcd n.natAbs d.natAbs:=Nat.gcd_pos_of_pos_right _ zo;have hgd:Nat.gcd n.natAbs d.natAbs≤d.natAbs:=Nat.le_of_dvd zo (Nat.gcd_dvd_right _ _);have dn:((Nat.gcd n.natAbs d.natAbs:Nat):Int) ∣ n:=by rw [← Int.dvd_natAbs,Int.ofNat_dvd];exact Nat.gcd_dvd_left _ _
 have dd:((Nat.gcd n.natAbs d.natAbs:Nat):Int) ∣ d:=by rw [← Int.dvd_natAbs,Int.ofNat_dvd];exact Nat.gcd_dvd_right _ _
 have DV:=fun x y W h k=>(wX x y n d W h k ha hb).mono fun _ _ q=>Qk q;generalize Nat.gcd n.natAbs d.natAbs=g at *;have G0:0<(g:Int):=by omega
 have KG:sz 10000 (g:Int).natAbs≤274877906944:=ay (gu zo (by simpa using hgd)) hb;have P1:=fun v u W h k=>(uH v u (n) g W h k ha KG G0 (.inr dn)).mono fun _ _ q=>Ow q;have P2:=fun v u W h k=>(uH v u (d) g W h k hb KG G0 (.inr dd)).mono fun _ _ q=>Ow q;rw [← e1] at P1;rw [← e2] at P2;refine Fx.door Tryz.func210 rfl (.nil w []) ?_;have B0:=Fx.Dv.nil w;refine Fx.new [] 2 #[ak bA,ah kg lA kN] 161 [] [] fun gM=>?_;refine Fx.new [] 3 #[ak false,ah oq lB oz] 161 [] [] fun gI=>?_;refine Fx.aY [] 4 163 [] [] fun gH=>?_;refine Fx.iR [4,2,3,4] 18 [] [] (fun W M=>DV _ _ _ (hx.later (B0.at M)) (hy.later (B0.at M))) ?_;rintro W w4 e M ⟨b3,p3,l3,c3,rfl,D4,Q3⟩;refine ⟨D4,fun M4=>?_⟩;have B4:=B0.next M4
 refine Fx.aY [] 5 161 [] [] fun Iy=>?_;refine Fx.iR [6,3,6] 22 [] [(3,#[ak b3,ah p3 l3 c3])] (fun W M=>P1 _ _ _ (hx.later (B4.at M)) (Q3.keep (M4.keep M))) ?_;rintro W w6 e M ⟨b4,p4,l4,c4,x4,y4,z4,u4,rfl,D6,Q4, -⟩;refine ⟨D6,fun M6=>?_⟩;replace Q3:=Q3.keep (M4.keep M6);have B6:=B4.next M6
 refine Fx.aY [] 6 161 [(23,au #[ak b4,ah p4 l4 c4]),(24,au #[ak x4,ah y4 z4 u4])] [] fun Ke=>?_;refine Fx.aY [] 7 161 [] [] fun VT=>?_;refine Fx.iR [7,8,4,6] 28 [] [(4,#[ak b4,ah p4 l4 c4]),(5,#[ak x4,ah y4 z4 u4])] (fun W M=>P2 _ _ _ (hy.later (B6.at M)) (Q3.keep (M6.keep M))) ?_;rintro W w9 e M ⟨b5,p5,l5,c5,x5,y5,z5,u5,rfl,D9,Q5, -⟩;refine ⟨D9,fun M9=>?_⟩;replace Q4:=Q4.keep (M6.keep M9);have B9:=B6.next M9
 refine Fx.aY [] 8 161 [(29,au #[ak b5,ah p5 l5 c5]),(30,au #[ak x5,ah y5 z5 u5])] [] fun XW=>?_;refine Fx.aY [] 9 161 [] [] fun ae6=>?_;exact Fx.iC (cs:=#[ak b4,ah p4 l4 c4,ak b5,ah p5 l5 c5]) 2 gH [9,10,7,9,5] [(2,#[ak b4,ah p4 l4 c4,ak b5,ah p5 l5 c5]),(6,#[ak b5,ah p5 l5 c5]),(7,#[ak x5,ah y5 z5 u5])] (fun W M=>by have HB:=(B9.at M);exact ⟨_,rfl,HB,_,_,_,_,_,_,_,_,rfl,(Q4.keep (M9.keep M)),(Q5.keep (M9.keep M))⟩)
theorem Nt (x y:Value) (n d:Int) (w:World) (hx:Pl w x n) (hy:Pl w y d) (ha:sz 10000 n.natAbs≤274877906944) (hb:sz 10000 d.natAbs≤274877906944) (hd:d<0) :
  Calls Tryz.prog 210 #[x,y] w (kS w ((n:Rat) / (d:Rat))):=by
 obtain ⟨e1,e2⟩:=yZ (n:= -n) (d:= -d) zo;rw [show ((-n:Int):Rat) / ((-d:Int):Rat)=(n:Rat) / (d:Rat) by rw [Rat.intCast_neg,Rat.intCast_neg,Rat.div_def,Rat.div_def];grind,Int.natAbs_neg,Int.natAbs_neg] at e1 e2;generalize (n:Rat) / (d:Rat)=q at *;obtain ⟨bA,kg,lA,kN,rfl⟩:=hx.agg;obtain ⟨bB,oq,lB,oz,rfl⟩:=hy.agg;have hbf:bB=true:=by rw [hy.nm.2];simp;omega
 subst hbf;have hg0:0<Nat.gcd n.natAbs d.natAbs:=Nat.gcd_pos_of_pos_right _ zo;have hgd:Nat.gcd n.natAbs d.natAbs≤d.natAbs:=Nat.le_of_dvd zo (Nat.gcd_dvd_right _ _);have dn:((Nat.gcd n.natAbs d.natAbs:Nat):Int) ∣ -n:=by rw [Int.dvd_neg];rw [← Int.dvd_natAbs,Int.ofNat_dvd];exact Nat.gcd_dvd_left _ _
 have dd:((Nat.gcd n.natAbs d.natAbs:Nat):Int) ∣ -d:=by rw [Int.dvd_neg];rw [← Int.dvd_natAbs,Int.ofNat_dvd];exact Nat.gcd_dvd_right _ _
 have ha2:sz 10000 (-n).natAbs≤274877906944:=by rw [Int.natAbs_neg];exact ha
 have hb2:sz 10000 (-d).natAbs≤274877906944:=by rw [Int.natAbs_neg];exact hb
 have DV:=fun x y W h k=>(wX x y (-n) (-d) W h k ha2 hb2).mono fun _ _ q=>Qk q;rw [Int.natAbs_neg,Int.natAbs_neg] at DV;have T:=fun z W v h=>(vw v z W h).mono fun _ _ q=>Qk q;generalize Nat.gcd n.natAbs d.natAbs=g at *;have G0:0<(g:Int):=by omega
 have KG:sz 10000 (g:Int).natAbs≤274877906944:=ay (gu zo (by simpa using hgd)) hb;have P1:=fun v u W h k=>(uH v u (-n) g W h k ha2 KG G0 (.inr dn)).mono fun _ _ q=>Ow q;have P2:=fun v u W h k=>(uH v u (-d) g W h k hb2 KG G0 (.inr dd)).mono fun _ _ q=>Ow q;rw [← e1] at P1;rw [← e2] at P2;refine Fx.door Tryz.func210 rfl (.nil w []) ?_;have B0:=Fx.Dv.nil w;refine Fx.new [] 2 #[ak bA,ah kg lA kN] 161 [] [] fun gM=>?_;refine Fx.new [] 3 #[ak true,ah oq lB oz] 161 [] [] fun gI=>?_;refine Fx.aY [] 4 163 [] [] fun gH=>?_;refine Fx.draw [4,1] [0,2,1,3,4,5] [] [] [] ?_;refine Fx.iR [3,4] 13 [(14,au #[ak true,ah oq lB oz])] [] (fun W M=>T _ _ _ (hx.later (B0.at M))) ?_;rintro W w4 e M ⟨b1,p1,l1,c1,rfl,D4,Q1⟩;refine ⟨D4,fun M4=>?_⟩;have B4:=B0.next M4
 refine Fx.iR [] 15 [] [] (fun W M=>T _ _ _ (hy.later (B4.at M))) ?_;rintro W w5 e M ⟨b2,p2,l2,c2,rfl,D5,Q2⟩;refine ⟨D5,fun M5=>?_⟩;replace Q1:=Q1.keep (M4.keep M5);have B5:=B4.next M5
 refine Fx.iR [3,4,3,4] 18 [] [(0,#[ak b1,ah p1 l1 c1]),(1,#[ak b2,ah p2 l2 c2])] (fun W M=>DV _ _ _ (Q1.keep (M5.keep M)) (Q2.keep (M5.keep M))) ?_;rintro W w6 e M ⟨b3,p3,l3,c3,rfl,D6,Q3⟩;refine ⟨D6,fun M6=>?_⟩;replace Q1:=Q1.keep (M5.keep M6);replace Q2:=Q2.keep (M5.keep M6);have B6:=B5.next M6
 refine Fx.aY [] 5 161 [] [] fun Ke=>?_;refine Fx.iR [6,3,6] 22 [] [(3,#[ak b3,ah p3 l3 c3])] (fun W M=>P1 _ _ _ (Q1.keep (M6.keep M)) (Q3.keep (M6.keep M))) ?_;rintro W w8 e M ⟨b4,p4,l4,c4,x4,y4,z4,u4,rfl,D8,Q4, -⟩;refine ⟨D8,fun M8=>?_⟩;replace Q2:=Q2.keep (M6.keep M8);replace Q3:=Q3.keep (M6.keep M8);have B8:=B6.next M8
 refine Fx.aY [] 6 161 [(23,au #[ak b4,ah p4 l4 c4]),(24,au #[ak x4,ah y4 z4 u4])] [] fun bz9=>?_;refine Fx.aY [] 7 161 [] [] fun XW=>?_;refine Fx.iR [7,8,4,6] 28 [] [(4,#[ak b4,ah p4 l4 c4]),(5,#[ak x4,ah y4 z4 u4])] (fun W M=>P2 _ _ _ (Q2.keep (M8.keep M)) (Q3.keep (M8.keep M))) ?_;rintro W w11 e M ⟨b5,p5,l5,c5,x5,y5,z5,u5,rfl,D11,Q5, -⟩;refine ⟨D11,fun M11=>?_⟩;replace Q4:=Q4.keep (M8.keep M11);have B11:=B8.next M11
 refine Fx.aY [] 8 161 [(29,au #[ak b5,ah p5 l5 c5]),(30,au #[ak x5,ah y5 z5 u5])] [] fun Vd=>?_;refine Fx.aY [] 9 161 [] [] fun ar5=>?_;exact Fx.iC (cs:=#[ak b4,ah p4 l4 c4,ak b5,ah p5 l5 c5]) 2 gH [9,10,7,9,5] [(2,#[ak b4,ah p4 l4 c4,ak b5,ah p5 l5 c5]),(6,#[ak b5,ah p5 l5 c5]),(7,#[ak x5,ah y5 z5 u5])] (fun W M=>by have HB:=(B11.at M);exact ⟨_,rfl,HB,_,_,_,_,_,_,_,_,rfl,(Q4.keep (M11.keep M)),(Q5.keep (M11.keep M))⟩)
theorem vD (x y:Value) (n d:Int) (w:World) (hx:Pl w x n) (hy:Pl w y d) (ha:sz 10000 n.natAbs≤274877906944) (hb:sz 10000 d.natAbs≤274877906944) (hd:d≠0) :
  Calls Tryz.prog 210 #[x,y] w (kS w ((n:Rat) / (d:Rat))):=by
 by_cases h:0<d
 ·exact Ns x y n d w hx hy ha hb h
 ·exact Nt x y n d w hx hy ha hb zo
end Go.Proofs.aH
namespace Go.Proofs.aH
open Go Go.RowKit Go.SW Go.Num Go.Mem Go.Proofs Go.Dec Go.Proofs.aC Go.gD
theorem Ca (z:Int):∃ (s:ByteArray) (k:Int),Tw z= aG #[O s,Z I k]∧((kI z.natAbs=true∧k=0∧s=⟨(Lib.itoa z).toArray⟩)∨(kI z.natAbs=false∧k=6)):=by
 unfold Tw
 by_cases h:kI z.natAbs=true
 ·rw [if_pos h];exact ⟨_,_,rfl,.inl ⟨h,rfl,rfl⟩⟩
 ·rw [if_neg h];exact ⟨_,_,rfl,.inr ⟨by simpa using h,rfl⟩⟩
def qK (w:World) (x:Fr × Int) (e:Ending) (w':World):Prop:=e= aj (Fr.res x)∧Below w.heap.size w w'
theorem uI (x:Value) (q:Rat) (w:World) (hx:Ra w x q) (h1:sz 10000 q.num.natAbs≤1073741824) (h2:sz 10000 q.den≤1073741824) :
  Calls Tryz.prog 133 #[x] w (qK w (wr q)):=by
 obtain ⟨bn,pn,ln,cn,bd,pd,ld,cd,rfl,NN,ND⟩:=hx;obtain ⟨s1,k1,e1,c1⟩:=Ca q.num;obtain ⟨s2,k2,e2,c2⟩:=Ca (q.den:Int);have H1:=zh (fun W (hb:Below w.heap.size w W)=>aC.uI _ q.num W (NN.later hb) h1);have H2:=zh (fun W (hb:Below w.heap.size w W)=>aC.uI _ (q.den:Int) W (ND.later hb) (by simpa using h2));rw [e1] at H1;rw [e2] at H2
 have hw:wr q=if k1=0∧k2=0 then (⟨s1,s2⟩,0) else (Fr.no,6):=by
  unfold wr xO;rw [Int.natAbs_natCast] at c2
  rcases c1 with ⟨a1,a2,a3⟩|⟨a1,a2⟩<;>rcases c2 with ⟨b1,b2,b3⟩|⟨b1,b2⟩<;>subst a2<;>subst b2<;>rw [a1,b1]
  ·subst a3;subst b3;rfl
  ·rfl
  ·rfl
  ·rfl
 rw [hw];have d1:k1=0∨k1=6:=c1.elim (fun h=>.inl h.2.1) (fun h=>.inr h.2);have d2:k2=0∨k2=6:=c2.elim (fun h=>.inl h.2.1) (fun h=>.inr h.2);clear hw e1 e2 c1 c2 h1 h2 NN ND
 rcases d1 with rfl|rfl<;>rcases d2 with rfl|rfl
 ·rw [if_pos ⟨rfl,rfl⟩];go_enter Tryz.func133,Tryz.ntmps133
  go_wp2_with fail
  obtain ⟨lZ,EW,hz,X1,X2⟩:=Dz w #[ak bn,ah pn ln cn,ak bd,ah pd ld cd] 163 #[O ⟨#[]⟩,O ⟨#[]⟩] 32;rw [EW];have hk2:=Bt (Below.refl _ _) hz;clear EW hz;refine (H1.out _ hk2).mono ?_;rintro e oo ⟨rfl,hb3⟩;replace X1:=X1.bl hb3;replace X2:=X2.bl hb3;have hk5:=Bt hk2 hb3;clear hk2;clear hb3;obtain ⟨kZ,kY,ni⟩:=X1.clf;go_wp2_with fail
  clear kZ kY ni;refine (H2.out _ hk5).mono ?_;rintro e vI ⟨rfl,hb6⟩;replace X1:=X1.bl hb6;replace X2:=X2.bl hb6;have JG:=Bt hk5 hb6;clear hk5;clear hb6;obtain ⟨sP,sO,wK⟩:=X2.clf;have hres:=X2.out;have Df:=hres.cell;have CV:=hres.free;go_wp2_with fail
  refine bH rfl rfl bf Tryz.underlying32 rfl zk ?_;exact ⟨rfl,aF⟩
 ·rw [if_neg zo];go_enter Tryz.func133,Tryz.ntmps133
  go_wp2_with fail
  obtain ⟨lZ,EW,hz,X1,X2⟩:=Dz w #[ak bn,ah pn ln cn,ak bd,ah pd ld cd] 163 #[O ⟨#[]⟩,O ⟨#[]⟩] 32;rw [EW];have hk2:=Bt (Below.refl _ _) hz;clear EW hz;refine (H1.out _ hk2).mono ?_;rintro e oo ⟨rfl,hb3⟩;replace X1:=X1.bl hb3;replace X2:=X2.bl hb3;have hk5:=Bt hk2 hb3;clear hk2;clear hb3;obtain ⟨kZ,kY,ni⟩:=X1.clf;go_wp2_with fail
  clear kZ kY ni;refine (H2.out _ hk5).mono ?_;rintro e vI ⟨rfl,hb6⟩;replace X1:=X1.bl hb6;replace X2:=X2.bl hb6;have JG:=Bt hk5 hb6;clear hk5;clear hb6;obtain ⟨sP,sO,wK⟩:=X2.clf;have hres:=X2.out;have Df:=hres.cell;have CV:=hres.free;go_wp2_with fail
  refine bH rfl rfl bf Tryz.underlying32 rfl zk ?_;exact ⟨rfl,aF⟩
 ·rw [if_neg zo];go_enter Tryz.func133,Tryz.ntmps133
  go_wp2_with fail
  obtain ⟨lZ,EW,hz,X1,X2⟩:=Dz w #[ak bn,ah pn ln cn,ak bd,ah pd ld cd] 163 #[O ⟨#[]⟩,O ⟨#[]⟩] 32;rw [EW];have hk2:=Bt (Below.refl _ _) hz;clear EW hz;refine (H1.out _ hk2).mono ?_;rintro e oo ⟨rfl,hb3⟩;replace X1:=X1.bl hb3;replace X2:=X2.bl hb3;have hk5:=Bt hk2 hb3;clear hk2;clear hb3;obtain ⟨kZ,kY,ni⟩:=X1.clf;go_wp2_with fail
  clear kZ kY ni;refine (H2.out _ hk5).mono ?_;rintro e vI ⟨rfl,hb6⟩;replace X1:=X1.bl hb6;replace X2:=X2.bl hb6;have JG:=Bt hk5 hb6;clear hk5;clear hb6;obtain ⟨sP,sO,wK⟩:=X2.clf;have hres:=X2.out;have Df:=hres.cell;have CV:=hres.free;go_wp2_with fail
  refine bH rfl rfl bf Tryz.underlying32 rfl zk ?_;exact ⟨rfl,aF⟩
 ·rw [if_neg zo];go_enter Tryz.func133,Tryz.ntmps133
  go_wp2_with fail
  obtain ⟨lZ,EW,hz,X1,X2⟩:=Dz w #[ak bn,ah pn ln cn,ak bd,ah pd ld cd] 163 #[O ⟨#[]⟩,O ⟨#[]⟩] 32;rw [EW];have hk2:=Bt (Below.refl _ _) hz;clear EW hz;refine (H1.out _ hk2).mono ?_;rintro e oo ⟨rfl,hb3⟩;replace X1:=X1.bl hb3;replace X2:=X2.bl hb3;have hk5:=Bt hk2 hb3;clear hk2;clear hb3;obtain ⟨kZ,kY,ni⟩:=X1.clf;go_wp2_with fail
  clear kZ kY ni;refine (H2.out _ hk5).mono ?_;rintro e vI ⟨rfl,hb6⟩;replace X1:=X1.bl hb6;replace X2:=X2.bl hb6;have JG:=Bt hk5 hb6;clear hk5;clear hb6;obtain ⟨sP,sO,wK⟩:=X2.clf;have hres:=X2.out;have Df:=hres.cell;have CV:=hres.free;go_wp2_with fail
  refine bH rfl rfl bf Tryz.underlying32 rfl zk ?_;exact ⟨rfl,aF⟩
theorem GQ {n d:Int} (hd:d≠0):((n:Rat) / (d:Rat)).num.natAbs≤n.natAbs∧((n:Rat) / (d:Rat)).den≤d.natAbs:=by
 have key:∀ n d:Int,0<d→((n:Rat) / (d:Rat)).num.natAbs≤n.natAbs∧((n:Rat) / (d:Rat)).den≤d.natAbs:=fun n d hd=>by
  obtain ⟨e1,e2⟩:=yZ (n:=n) hd;have g1:=Nat.gcd_dvd_left n.natAbs d.natAbs;have g2:=Nat.gcd_dvd_right n.natAbs d.natAbs;have g0:0<Nat.gcd n.natAbs d.natAbs:=Nat.gcd_pos_of_pos_right _ zo;generalize Nat.gcd n.natAbs d.natAbs=g at *;generalize ((n:Rat) / (d:Rat))=q at *;obtain ⟨a,ha⟩:=g1;obtain ⟨b,hb⟩:=g2
  have h1:n=(g:Int)*(if 0≤n then (a:Int) else -(a:Int)):=by
   have:=congrArg (fun x:Nat=>(x:Int)) ha;simp only [Int.natCast_mul] at this;split
   ·omega
   ·rw [Int.mul_neg];omega
  have h2:d=(g:Int)*(b:Int):=by
   have:=congrArg (fun x:Nat=>(x:Int)) hb;simp only [Int.natCast_mul] at this;omega
  have h3:n / (g:Int)=(if 0≤n then (a:Int) else -(a:Int)):=by
   conv=>lhs;rw [h1]
   exact Int.mul_ediv_cancel_left _ zo
  have h4:d / (g:Int)=(b:Int):=by
   rw [h2];exact Int.mul_ediv_cancel_left _ zo
  rw [h3] at e1;rw [h4] at e2;have k1:a≤g*a:=Nat.le_mul_of_pos_left _ g0;have k2:b≤g*b:=Nat.le_mul_of_pos_left _ g0;refine ⟨?_,?_⟩
  ·rw [e1,ha];split<;>simp<;>exact k1
  ·rw [hb];have:q.den=b:=by exact_mod_cast e2
   omega
 by_cases h:0<d
 ·exact key n d h
 ·have:=key (-n) (-d) zo;rw [show ((-n:Int):Rat) / ((-d:Int):Rat)=(n:Rat) / (d:Rat) by rw [Rat.intCast_neg,Rat.intCast_neg,Rat.div_def,Rat.div_def];grind,Int.natAbs_neg,Int.natAbs_neg] at this;exact this
theorem Gj {n:Int} (h1: -9223372036854775808≤n) (h2:n≤9223372036854775807):sz 10000 n.natAbs≤5 :=
 cO zo 5 _ zo
theorem rz (n d:Int) (h1: -9223372036854775808≤n) (h2:n≤9223372036854775807) (h3: -9223372036854775808≤d) (h4:d≤9223372036854775807) (hd:d≠0) (w:World) :
  Calls Tryz.prog 197 #[Z I n,Z I d] w (kS w ((n:Rat) / (d:Rat))):=by
 have H1:=zh (fun W=>jO n W h1 h2);have H2:=zh (fun W=>jO d W h3 h4);have H3:=zh (fun x y W hx hy=>vD x y n d W hx hy (ay (Gj h1 h2) zo) (ay (Gj h3 h4) zo) hd);generalize (n:Rat) / (d:Rat)=q at *;clear h1 h2 h3 h4 hd;go_enter Tryz.func197,Tryz.ntmps197
 go_wp2_with fail
 obtain ⟨lZ,EW,hz,X1⟩:=wR w #[ak false,ah none 0 0,ak false,ah none 0 0] 163;rw [EW];have hk2:=Bt (Below.refl _ _) hz;clear EW hz;refine (H1.out _).mono ?_;rintro e oo ⟨v,rfl,hb3,hv4⟩;obtain ⟨bA,kg,lA,kN,rfl⟩:=hv4.agg;replace X1:=X1.bl hb3;have hk5:=Bt hk2 hb3;clear hk2;have NA:=zh hv4;clear hb3 hv4;go_wp2_with fail
 refine (H2.out _).mono ?_;rintro e vI ⟨v,rfl,hb6,hv7⟩;obtain ⟨bB,oq,lB,oz,rfl⟩:=hv7.agg;replace X1:=X1.bl hb6;replace NA:=zh (NA.out.later hb6);have JG:=Bt hk5 hb6;clear hk5;have NB:=zh hv7;clear hb6 hv7;go_wp2_with fail
 refine (H3.out _ _ _ NA.out NB.out).mono ?_;rintro e wc9 ⟨_,rfl,sZ,bn,pn,ln,cn,bd,pd,ld,cd,rfl,hn,hd⟩;replace X1:=X1.bl sZ;replace NA:=zh (NA.out.later sZ);replace NB:=zh (NB.out.later sZ);have aO8:=Bt JG sZ;clear JG;have NX:=zh hn;have NY:=zh hd;clear sZ hd hn;obtain ⟨kZ,kY,ni⟩:=X1.clf;have hres:=X1.out;have Df:=hres.cell;have CV:=hres.free;go_wp2_with fail
 refine gF rfl rfl bf Tryz.underlying163 rfl zk ?_;have hx:=Pl.xH NX.out hres zd (ak bn) (ah pn ln cn) (ak bd) (ah pd ld cd);have hy:=Pl.xH NY.out hres zd (ak bn) (ah pn ln cn) (ak bd) (ah pd ld cd);exact ⟨_,rfl,aF,_,_,_,_,_,_,_,_,rfl,hx,hy⟩
end Go.Proofs.aH
namespace Go.Proofs.aH
open Go Go.RowKit Go.SW Go.Num Go.Mem Go.Proofs Go.Dec Go.Proofs.aC Go.gD Go.Fx
theorem BD {n k:Nat} (h:sz 1000000000 n≤k):sz 10000 n≤3*k:=by
 refine cO zo _ _ ?_;have h1:=jg (B:=1000000000) zo n;have h2:(1000000000:Nat)^sz 1000000000 n≤1000000000^k:=bI zo h;have h3:(1000000000:Nat)^k≤(10000^3)^k:=Nat.pow_le_pow_left zd k;rw [Nat.pow_mul];omega
theorem rU (q:Rat):q=(q.num:Rat) / ((q.den:Int):Rat):=by
 have:=Rat.mkRat_self q;rw [Rat.mkRat_eq_div] at this;exact this.symm
theorem Fg (q:Rat):((q.den:Int):Rat)≠0:=fun e=>by
 have h:(q.den:Int)=0:=by exact_mod_cast e
 have:=q.den_pos;omega
theorem Wj (p q:Rat):((p.num*q.num:Int):Rat) / (((p.den:Int)*(q.den:Int):Int):Rat)=p*q:=by
 have h1:=rU p;have h2:=rU q;have d1:=Fg p;have d2:=Fg q;rw [Rat.intCast_mul,Rat.intCast_mul];generalize (p.num:Rat)=a at *;generalize ((p.den:Int):Rat)=b at *;generalize (q.num:Rat)=c at *;generalize ((q.den:Int):Rat)=d at *;subst h1 h2
 grind
theorem ZN (p q:Rat) (hq:q≠0):((p.num*(q.den:Int):Int):Rat) / (((p.den:Int)*q.num:Int):Rat)=p / q:=by
 have h1:=rU p;have h2:=rU q;have d1:=Fg p;have d2:=Fg q;have d3:((q.num:Int):Rat)≠0:=fun e=>hq (by rw [h2,e];grind);rw [Rat.intCast_mul,Rat.intCast_mul];generalize (p.num:Rat)=a at *;generalize ((p.den:Int):Rat)=b at *;generalize (q.num:Rat)=c at *;generalize ((q.den:Int):Rat)=d at *;subst h1 h2
 grind
theorem ZF (p q:Rat):((p.num*(q.den:Int)+q.num*(p.den:Int):Int):Rat) / (((p.den:Int)*(q.den:Int):Int):Rat)=p+q:=by
 have h1:=rU p;have h2:=rU q;have d1:=Fg p;have d2:=Fg q;rw [Rat.intCast_add,Rat.intCast_mul,Rat.intCast_mul,Rat.intCast_mul];generalize (p.num:Rat)=a at *;generalize ((p.den:Int):Rat)=b at *;generalize (q.num:Rat)=c at *;generalize ((q.den:Int):Rat)=d at *;subst h1 h2
 grind
theorem jw.four {k:Nat} {q:Rat} (h:jw k q):sz 10000 q.num.natAbs≤3*k∧sz 10000 (q.den:Int).natAbs≤3*k:=⟨BD h.1,by rw [Int.natAbs_natCast];exact BD h.2⟩
theorem oF {a b:Int} {m n:Nat} (h:sz 10000 a.natAbs≤m) (k:sz 10000 b.natAbs≤n):sz 10000 (a*b).natAbs≤m+n:=by
 rw [Int.natAbs_mul];have:=kR (B:=10000) zo a.natAbs b.natAbs;omega
theorem Wt {a b:Int} {m:Nat} (h:sz 10000 a.natAbs≤m) (k:sz 10000 b.natAbs≤m):sz 10000 (a+b).natAbs≤m+1:=by
 have h1:=gu (B:=10000) zo (Int.natAbs_add_le a b);have h2:=vU (B:=10000) zo a.natAbs b.natAbs;omega
theorem vw (x:Value) (p:Rat) (w:World) (hx:Ra w x p):Calls Tryz.prog 268 #[x] w (kS w (-p)):=by
 obtain ⟨bA,kg,lA,kN,wP,lI,wG,lW,rfl,NA,yM⟩:=id hx;have H:=fun W (h:Pl W (au #[ak bA,ah kg lA kN]) p.num)=>(aC.vw _ _ W h).mono fun _ _ q=>Qk q
 have HQ:∀ w b pa l ca,Pl w (au #[ak b,ah pa l ca]) (-p.num)→Pl w (au #[ak wP,ah lI wG lW]) p.den→Ra w (au #[ak b,ah pa l ca,ak wP,ah lI wG lW]) (-p):=fun w b pa l ca h1 h2=>by
  unfold Ra;rw [Rat.neg_num,Rat.neg_den];exact ⟨_,_,_,_,_,_,_,_,rfl,h1,h2⟩
 refine Fx.door Tryz.func268 rfl (.nil w []) ?_;have B0:=Fx.Dv.nil w;refine Fx.new [] 1 #[ak bA,ah kg lA kN,ak wP,ah lI wG lW] 163 [] [] fun gM=>?_;refine Fx.aY [] 2 163 [] [] fun gI=>?_;refine Fx.draw [] [0,1,3,4,2,5,6] [] [] [] ?_;refine Fx.iR [3,3] 5 [(7,au #[ak wP,ah lI wG lW])] [] (fun W M=>H _ (NA.later (B0.at M))) ?_;rintro W w3 e M ⟨b1,p1,l1,c1,rfl,D3,Q1⟩;refine ⟨D3,fun M3=>?_⟩;have B3:=B0.next M3
 exact Fx.iC (cs:=#[ak b1,ah p1 l1 c1,ak wP,ah lI wG lW]) 1 gI [4] [(1,#[ak b1,ah p1 l1 c1,ak wP,ah lI wG lW])] (fun W M=>by have HB:=(B3.at M);exact ⟨_,rfl,HB,HQ _ _ _ _ _ (Q1.keep (M3.keep M)) (yM.later (B3.at M))⟩)
theorem jm (x y:Value) (p q:Rat) (w:World) (hx:Ra w x p) (hy:Ra w y q) (h1:jw 10000000000 p) (h2:jw 10000000000 q):Calls Tryz.prog 218 #[x,y] w (kS w (p*q)):=by
 obtain ⟨bA,kg,lA,kN,wP,lI,wG,lW,rfl,NA,yM⟩:=id hx;obtain ⟨bB,oq,lB,oz,R3,Av,RU,AO,rfl,NB,Nr⟩:=id hy;obtain ⟨s1,s2⟩:=jw.four h1;obtain ⟨s3,s4⟩:=jw.four h2;have S1:sz 10000 p.num.natAbs≤549755813888:=zo;have S2:sz 10000 (p.den:Int).natAbs≤549755813888:=zo;have S3:sz 10000 q.num.natAbs≤549755813888:=zo;have S4:sz 10000 (q.den:Int).natAbs≤549755813888:=zo;have L1:sz 10000 (p.num*q.num).natAbs≤274877906944:=by have:=oF s1 s3;omega
 have L2:sz 10000 ((p.den:Int)*(q.den:Int)).natAbs≤274877906944:=by have:=oF s2 s4;omega
 have L3:(p.den:Int)*(q.den:Int)≠0:=Int.mul_ne_zero (by have:=p.den_pos;omega) (by have:=q.den_pos;omega);have HL:=fun x y w hx hy=>(vD x y (p.num*q.num) ((p.den:Int)*(q.den:Int)) w hx hy L1 L2 L3).mono fun _ _ q=>qz q;rw [Wj] at HL;refine Fx.door Tryz.func218 rfl (.nil w []) ?_;have B0:=Fx.Dv.nil w;refine Fx.new [] 2 #[ak bA,ah kg lA kN,ak wP,ah lI wG lW] 163 [] [] fun gM=>?_;refine Fx.new [] 3 #[ak bB,ah oq lB oz,ak R3,ah Av RU AO] 163 [] [] fun gI=>?_;refine Fx.aY [] 4 163 [] [] fun gH=>?_;refine Fx.draw [] [0,1,2,3,5,6,7,8,4,9,10,11] [] [] [] ?_;refine Fx.iR [3,4,3,4] 9 [(11,au #[ak wP,ah lI wG lW]),(13,au #[ak R3,ah Av RU AO])] [] (fun W M=>aC.jm _ _ _ _ _ (NA.later (B0.at M)) (NB.later (B0.at M)) S1 S3) ?_;rintro W w4 e M ⟨v1,rfl,D4,Q1⟩;refine ⟨D4,fun M4=>?_⟩
 have B4:=B0.next M4
 refine Fx.iR [] 14 [] [] (fun W M=>aC.jm _ _ _ _ _ (yM.later (B4.at M)) (Nr.later (B4.at M)) S2 S4) ?_;rintro W w5 e M ⟨v2,rfl,D5,Q2⟩;refine ⟨D5,fun M5=>?_⟩;replace Q1:=Q1.keep (M4.keep M5);have B5:=B4.next M5
 refine Fx.iR [] 15 [] [] (fun W M=>HL _ _ _ (Q1.keep (M5.keep M)) (Q2.keep (M5.keep M))) ?_;rintro W w6 e M ⟨n3,p3,l3,c3,m3,q3,j3,d3,rfl,D6,Q3⟩;refine ⟨D6,fun M6=>?_⟩;have B6:=B5.next M6
 exact Fx.iC (cs:=#[ak n3,ah p3 l3 c3,ak m3,ah q3 j3 d3]) 2 gH [5] [(2,#[ak n3,ah p3 l3 c3,ak m3,ah q3 j3 d3])] (fun W M=>by have HB:=(B6.at M);exact ⟨_,rfl,HB,(Q3.keep (M6.keep M))⟩)
theorem Pv (x y:Value) (p q:Rat) (w:World) (hx:Ra w x p) (hy:Ra w y q) (h1:jw 10000000000 p) (h2:jw 10000000000 q) (h0:q≠0):Calls Tryz.prog 134 #[x,y] w (kS w (p / q)):=by
 obtain ⟨bA,kg,lA,kN,wP,lI,wG,lW,rfl,NA,yM⟩:=id hx;obtain ⟨bB,oq,lB,oz,R3,Av,RU,AO,rfl,NB,Nr⟩:=id hy;obtain ⟨s1,s2⟩:=jw.four h1;obtain ⟨s3,s4⟩:=jw.four h2;have S1:sz 10000 p.num.natAbs≤549755813888:=zo;have S2:sz 10000 (p.den:Int).natAbs≤549755813888:=zo;have S3:sz 10000 q.num.natAbs≤549755813888:=zo;have S4:sz 10000 (q.den:Int).natAbs≤549755813888:=zo;have L1:sz 10000 (p.num*(q.den:Int)).natAbs≤274877906944:=by have:=oF s1 s4;omega
 have L2:sz 10000 ((p.den:Int)*q.num).natAbs≤274877906944:=by have:=oF s2 s3;omega
 have L3:(p.den:Int)*q.num≠0:=Int.mul_ne_zero (by have:=p.den_pos;omega) (fun e=>h0 (Rat.num_eq_zero.1 e));have HL:=fun x y w hx hy=>(vD x y (p.num*(q.den:Int)) ((p.den:Int)*q.num) w hx hy L1 L2 L3).mono fun _ _ q=>qz q;rw [ZN p q h0] at HL;refine Fx.door Tryz.func134 rfl (.nil w []) ?_;have B0:=Fx.Dv.nil w;refine Fx.new [] 2 #[ak bA,ah kg lA kN,ak wP,ah lI wG lW] 163 [] [] fun gM=>?_;refine Fx.new [] 3 #[ak bB,ah oq lB oz,ak R3,ah Av RU AO] 163 [] [] fun gI=>?_;refine Fx.aY [] 4 163 [] [] fun gH=>?_;refine Fx.draw [] [0,1,2,3,5,6,7,8,4,9,10,11] [] [] [] ?_;refine Fx.iR [3,4,3,4] 9 [(11,au #[ak wP,ah lI wG lW]),(13,au #[ak bB,ah oq lB oz])] [] (fun W M=>aC.jm _ _ _ _ _ (NA.later (B0.at M)) (Nr.later (B0.at M)) S1 S4) ?_;rintro W w4 e M ⟨v1,rfl,D4,Q1⟩;refine ⟨D4,fun M4=>?_⟩
 have B4:=B0.next M4
 refine Fx.iR [] 14 [] [] (fun W M=>aC.jm _ _ _ _ _ (yM.later (B4.at M)) (NB.later (B4.at M)) S2 S3) ?_;rintro W w5 e M ⟨v2,rfl,D5,Q2⟩;refine ⟨D5,fun M5=>?_⟩;replace Q1:=Q1.keep (M4.keep M5);have B5:=B4.next M5
 refine Fx.iR [] 15 [] [] (fun W M=>HL _ _ _ (Q1.keep (M5.keep M)) (Q2.keep (M5.keep M))) ?_;rintro W w6 e M ⟨n3,p3,l3,c3,m3,q3,j3,d3,rfl,D6,Q3⟩;refine ⟨D6,fun M6=>?_⟩;have B6:=B5.next M6
 exact Fx.iC (cs:=#[ak n3,ah p3 l3 c3,ak m3,ah q3 j3 d3]) 2 gH [5] [(2,#[ak n3,ah p3 l3 c3,ak m3,ah q3 j3 d3])] (fun W M=>by have HB:=(B6.at M);exact ⟨_,rfl,HB,(Q3.keep (M6.keep M))⟩)
theorem qm (x y:Value) (p q:Rat) (w:World) (hx:Ra w x p) (hy:Ra w y q) (h1:jw 10000000000 p) (h2:jw 10000000000 q):Calls Tryz.prog 234 #[x,y] w (kS w (p+q)):=by
 obtain ⟨bA,kg,lA,kN,wP,lI,wG,lW,rfl,hA1,hA2⟩:=id hx;obtain ⟨bB,oq,lB,oz,R3,Av,RU,AO,rfl,hB1,hB2⟩:=id hy;have QA:=zh hx;have NA:=zh hA1;have yM:=zh hA2;have QB:=zh hy;have NB:=zh hB1;have Nr:=zh hB2;obtain ⟨s1,s2⟩:=jw.four h1;obtain ⟨s3,s4⟩:=jw.four h2;have S1:Hid (sz 10000 p.num.natAbs≤549755813888):=zh zo;have S2:Hid (sz 10000 (p.den:Int).natAbs≤549755813888):=zh zo;have S3:Hid (sz 10000 q.num.natAbs≤549755813888):=zh zo;have S4:Hid (sz 10000 (q.den:Int).natAbs≤549755813888):=zh zo;have a1:=oF s1 s4;have a2:=oF s3 s2;have P1:Hid (sz 10000 (p.num*(q.den:Int)).natAbs≤549755813888):=zh zo;have P2:Hid (sz 10000 (q.num*(p.den:Int)).natAbs≤549755813888):=zh zo;have L1:Hid (sz 10000 (p.num*(q.den:Int)+q.num*(p.den:Int)).natAbs≤274877906944):=zh (by have:=Wt a1 a2;omega)
 have L2:Hid (sz 10000 ((p.den:Int)*(q.den:Int)).natAbs≤274877906944):=zh (by have:=oF s2 s4;omega);have L3:Hid ((p.den:Int)*(q.den:Int)≠0):=zh (Int.mul_ne_zero (by have:=p.den_pos;omega) (by have:=q.den_pos;omega));have HL:=zh (fun x y w hx hy=>vD x y (p.num*(q.den:Int)+q.num*(p.den:Int)) ((p.den:Int)*(q.den:Int)) w hx hy L1.out L2.out L3.out);rw [ZF] at HL;clear hx hy hA1 hA2 hB1 hB2 h1 h2 s1 s2 s3 s4 L1 L2 L3 a1 a2;go_enter Tryz.func234,Tryz.ntmps234
 go_wp2_with fail
 obtain ⟨lZ,EW,hz,X1,X2,X3⟩:=MW w #[ak bA,ah kg lA kN,ak wP,ah lI wG lW] 163 #[ak bB,ah oq lB oz,ak R3,ah Av RU AO] 163 #[ak false,ah none 0 0,ak false,ah none 0 0] 163;rw [EW];replace NA:=zh (NA.out.later hz);replace yM:=zh (yM.out.later hz);replace NB:=zh (NB.out.later hz);replace Nr:=zh (Nr.out.later hz);have hk2:=Bt (Below.refl _ _) hz;clear EW hz;obtain ⟨kZ,kY,ni⟩:=X1.clf;obtain ⟨sP,sO,wK⟩:=X2.clf;refine aJ [(.pure,0),(.read,1),(.pure,2),(.read,3),(.pure,5),(.read,6),(.pure,7),(.read,8),(.ext,4),(.ext,9),(.ext,10),(.alloc #[ak false,ah none 0 0] 161,11),(.fin,12)] zk zk zR zP ?_;refine zV ?_;refine aS rfl rfl (fun V7 hb3 J hJ=>?_);go_simp;have hh3:Below lZ.heap.size lZ V7:=aF;clear hb3
 refine (aC.jm _ _ _ _ _ (NA.out.later hh3) (Nr.out.later hh3) S1.out S4.out).mono ?_;rintro e Oc ⟨v,rfl,hb4,hv5⟩;obtain ⟨bC,paC,lC,caC,rfl⟩:=hv5.agg;refine hJ _ _ hb4 ?_;clear hJ J;have OM:=Bt hh3 hb4;have NC:=zh hv5;clear hh3 hb4 hv5;refine zV ?_;refine aS rfl rfl (fun Dy hb6 J hJ=>?_);go_simp;have sW:Below lZ.heap.size lZ Dy:=Bt OM aF;replace NC:=zh (NC.out.later (show Below Oc.heap.size Oc Dy from aF));clear hb6 OM;refine (aC.jm _ _ _ _ _ (NB.out.later sW) (yM.out.later sW) S3.out S2.out).mono ?_;rintro e sJ ⟨v,rfl,jP,qC⟩;obtain ⟨bD,paD,lD,caD,rfl⟩:=qC.agg;refine hJ _ _ jP ?_;clear hJ J;have Ad:=Bt sW jP;replace NC:=zh (NC.out.later jP);have ND:=zh qC;clear sW jP qC;refine zV ?_;refine aS rfl rfl (fun DI sZ J hJ=>?_);go_simp;have nJ:Below lZ.heap.size lZ DI:=Bt Ad aF
 replace NC:=zh (NC.out.later (show Below sJ.heap.size sJ DI from aF));replace ND:=zh (ND.out.later (show Below sJ.heap.size sJ DI from aF));clear sZ Ad;refine (aC.qm _ _ _ _ _ NC.out ND.out P1.out P2.out).mono ?_;rintro e lg ⟨v,rfl,jF,qD⟩;obtain ⟨bF,paF,lF,caF,rfl⟩:=qD.agg;refine hJ _ _ jF ?_;clear hJ J;have pG:=Bt nJ jF;replace NC:=zh (NC.out.later jF);replace ND:=zh (ND.out.later jF);have NF:=zh qD;clear nJ jF qD;refine zV ?_;refine eX rfl (fun jN am0 JF lM yg CK jX=>?_);go_simp;replace jX:aA _ _ _ _:=jX;have CF:w.heap.size≤jN:=(by first|omega|exact ay (Below.size (B:=w.heap.size) aF) lM);refine dA [_] rfl (fun Sc ap3=>?_);replace NC:=zh (NC.out.later (show Below lg.heap.size lg Sc from aF))
 replace ND:=zh (ND.out.later (show Below lg.heap.size lg Sc from aF));replace NF:=zh (NF.out.later (show Below lg.heap.size lg Sc from aF));have Ct:Below lZ.heap.size lZ Sc:=Bt pG aF;have hq0:=jX.later ap3;have U0:=hq0.cell;have UA:=hq0.free;clear jX ap3 pG;clear kZ kY ni sP sO wK;go_wp2_with fail
 obtain ⟨IE,EW⟩:∃ y,((Sc.setCell ⟨jN,0,none⟩ (ak bF)).setCell ⟨jN,1,none⟩ (ah paF lF caF))=y:=⟨_,rfl⟩;have hz:Below lZ.heap.size lZ IE:=by rw [← EW];exact ((Ct.setCell lM _).setCell lM _)
 have X4:Hid (aA IE jN #[ak bF,ah paF lF caF] 161):=zh (by rw [← EW];exact ((hq0.set 0 _).set 1 _));clear NC;clear ND;have t:=((NF.out.setOther hq0 zd 0 (ak bF)).setOther (hq0.set 0 _) zd 1 (ah paF lF caF));rw [EW] at t;replace NF:=zh t;clear t;rw [EW];clear EW hq0 U0 UA Ct;replace NA:=zh (NA.out.later hz);replace yM:=zh (yM.out.later hz);replace NB:=zh (NB.out.later hz);replace Nr:=zh (Nr.out.later hz);replace X1:=X1.bl hz;replace X2:=X2.bl hz;replace X3:=X3.bl hz;have ao7:=Bt hk2 hz;clear hk2;clear hz;clear JF lM yg CK CF;go_wp2_with fail
 obtain ⟨cX4,lX4,fX4⟩:=X4.clf;obtain ⟨kZ,kY,ni⟩:=X1.clf;obtain ⟨sP,sO,wK⟩:=X2.clf;refine aJ [(.read,0),(.pure,1),(.read,2),(.pure,3),(.read,4),(.ext,5),(.ext,6),(.fin,7)] zk zk zR zP ?_;refine zV ?_;refine aS rfl rfl (fun av1 aB2 J hJ=>?_);go_simp;have Xm:Below IE.heap.size IE av1:=aF;clear aB2;refine (aC.jm _ _ _ _ _ (yM.out.later Xm) (Nr.out.later Xm) S2.out S4.out).mono ?_;rintro e al7 ⟨v,rfl,ac1,aa7⟩;obtain ⟨bG,ZM,lG,caG,rfl⟩:=aa7.agg;refine hJ _ _ ac1 ?_;clear hJ J;have Cr:=Bt Xm ac1;have NG:=zh aa7;clear Xm ac1 aa7;refine zV ?_;refine aS rfl rfl (fun al6 aB1 J hJ=>?_);go_simp;have ab3:Below IE.heap.size IE al6:=Bt Cr aF;replace NG:=zh (NG.out.later (show Below al7.heap.size al7 al6 from aF));clear aB1 Cr;refine (HL.out _ _ _ (NF.out.later ab3) NG.out).mono ?_
 rintro e Sd ⟨v,rfl,Cy,Ml⟩;obtain ⟨bE,paE,lE,caE,bEd,aM9,lEd,aR7,rfl,az4,az3⟩:=id Ml;refine hJ _ _ Cy ?_;clear hJ J;have ao9:=Bt ab3 Cy;replace NG:=zh (NG.out.later Cy);have QE:=zh Ml;clear ab3 Cy Ml az4 az3;refine zV ?_;refine dA [_] rfl (fun Zl aA7=>?_);replace NG:=zh (NG.out.later (show Below Sd.heap.size Sd Zl from aF));replace QE:=zh (QE.out.later (show Below Sd.heap.size Sd Zl from aF));have Cq:Below IE.heap.size IE Zl:=Bt ao9 aF;clear aA7 ao9;clear cX4 lX4 fX4 kZ kY ni sP sO wK;replace NA:=zh (NA.out.later Cq);replace yM:=zh (yM.out.later Cq);replace NB:=zh (NB.out.later Cq);replace Nr:=zh (Nr.out.later Cq);replace X1:=X1.bl Cq;replace X2:=X2.bl Cq;replace X3:=X3.bl Cq;replace X4:=X4.bl Cq;replace NF:=zh (NF.out.later Cq);have aO6:=Bt ao7 Cq;clear ao7;clear Cq;clear NG
 obtain ⟨cX3,Z7,fX3⟩:=X3.clf;have hres:=X3.out;have Df:=hres.cell;have CV:=hres.free;go_wp2_with fail
 refine gF rfl rfl bf Tryz.underlying163 rfl zk ?_;exact ⟨_,rfl,aF,Ra.xH QE.out hres zd _ _ _ _⟩
theorem rA (x y:Value) (p q:Rat) (w:World) (hx:Ra w x p) (hy:Ra w y q) (h1:jw 10000000000 p) (h2:jw 10000000000 q):Calls Tryz.prog 215 #[x,y] w (kS w (p - q)):=by
 have HT:=fun W h=>(vw y q W h).mono fun _ _ q=>qz q;have HP:=fun v W h k=>(qm x v p (-q) W h k h1 (uN h2)).mono fun _ _ q=>qz q;rw [← Rat.sub_eq_add_neg] at HP;obtain ⟨bA,kg,lA,kN,wP,lI,wG,lW,rfl,NA,yM⟩:=id hx;obtain ⟨bB,oq,lB,oz,R3,Av,RU,AO,rfl,NB,Nr⟩:=id hy;refine Fx.door Tryz.func215 rfl (.nil w []) ?_;have B0:=Fx.Dv.nil w;refine Fx.new [] 2 #[ak bA,ah kg lA kN,ak wP,ah lI wG lW] 163 [] [] fun gM=>?_;refine Fx.new [] 3 #[ak bB,ah oq lB oz,ak R3,ah Av RU AO] 163 [] [] fun gI=>?_;refine Fx.aY [] 4 163 [] [] fun gH=>?_;refine Fx.draw [] (dz 5) [] [] [] ?_;refine Fx.iR [3,4] 7 [(5,au #[ak bA,ah kg lA kN,ak wP,ah lI wG lW])] [] (fun W M=>HT _ (hy.later (B0.at M))) ?_;rintro W w4 e M ⟨n1,p1,l1,c1,m1,q1,j1,d1,rfl,D4,Q1⟩;refine ⟨D4,fun M4=>?_⟩;have B4:=B0.next M4
 refine Fx.iR [] 8 [] [] (fun W M=>HP _ _ (hx.later (B4.at M)) (Q1.keep (M4.keep M))) ?_;rintro W w5 e M ⟨n3,p3,l3,c3,m3,q3,j3,d3,rfl,D5,Q3⟩;refine ⟨D5,fun M5=>?_⟩;have B5:=B4.next M5
 exact Fx.iC (cs:=#[ak n3,ah p3 l3 c3,ak m3,ah q3 j3 d3]) 2 gH [5] [(2,#[ak n3,ah p3 l3 c3,ak m3,ah q3 j3 d3])] (fun W M=>by have HB:=(B5.at M);exact ⟨_,rfl,HB,(Q3.keep (M5.keep M))⟩)
theorem ad7 (p q:Rat):yE (p.num*(q.den:Int)) (q.num*(p.den:Int))=oK p q:=by
 rw [← BK];unfold yE vE;split
 ·rw [if_neg zo,if_pos zo]
 ·split
  ·rw [if_neg zo,if_neg zo]
  ·rw [if_pos zo]
theorem jS (x y:Value) (p q:Rat) (w:World) (hx:Ra w x p) (hy:Ra w y q) (h1:jw 10000000000 p) (h2:jw 10000000000 q):Calls Tryz.prog 212 #[x,y] w (fun e w'=>e= aj (Z I (oK p q))∧Below w.heap.size w w'):=by
 obtain ⟨bA,kg,lA,kN,wP,lI,wG,lW,rfl,NA,yM⟩:=id hx;obtain ⟨bB,oq,lB,oz,R3,Av,RU,AO,rfl,NB,Nr⟩:=id hy;obtain ⟨s1,s2⟩:=jw.four h1;obtain ⟨s3,s4⟩:=jw.four h2;have S1:sz 10000 p.num.natAbs≤549755813888:=zo;have S2:sz 10000 (p.den:Int).natAbs≤549755813888:=zo;have S3:sz 10000 q.num.natAbs≤549755813888:=zo;have S4:sz 10000 (q.den:Int).natAbs≤549755813888:=zo;have a1:=oF s1 s4;have a2:=oF s3 s2;have P1:sz 10000 (p.num*(q.den:Int)).natAbs≤549755813888:=by omega
 have P2:sz 10000 (q.num*(p.den:Int)).natAbs≤549755813888:=by omega
 have HO:=fun x y W h k=>aC.jS x y (p.num*(q.den:Int)) (q.num*(p.den:Int)) W h k P1 P2;rw [ad7] at HO;generalize oK p q=cc at *;refine Fx.door Tryz.func212 rfl (.nil w []) ?_;have B0:=Fx.Dv.nil w;refine Fx.new [] 2 #[ak bA,ah kg lA kN,ak wP,ah lI wG lW] 163 [] [] fun gM=>?_;refine Fx.new [] 3 #[ak bB,ah oq lB oz,ak R3,ah Av RU AO] 163 [] [] fun gI=>?_;refine Fx.draw [] [0,1,2,3,5,6,7,8,4,9,10,5011] [] [] [] ?_;refine Fx.iR [3,4,4,3] 9 [(11,au #[ak bB,ah oq lB oz]),(13,au #[ak wP,ah lI wG lW])] [] (fun W M=>aC.jm _ _ _ _ _ (NA.later (B0.at M)) (Nr.later (B0.at M)) S1 S4) ?_;rintro W w3 e M ⟨v1,rfl,D3,Q1⟩;refine ⟨D3,fun M3=>?_⟩;have B3:=B0.next M3
 refine Fx.iR [] 14 [] [] (fun W M=>aC.jm _ _ _ _ _ (NB.later (B3.at M)) (yM.later (B3.at M)) S3 S2) ?_;rintro W w4 e M ⟨v2,rfl,D4,Q2⟩;refine ⟨D4,fun M4=>?_⟩;replace Q1:=Q1.keep (M3.keep M4);have B4:=B3.next M4
 refine Fx.call [] 15 [] [] (fun W M=>HO _ _ _ (Q1.keep (M4.keep M)) (Q2.keep (M4.keep M))) ?_;exact Fx.qP (v:=Z I cc) [] [] (fun W M=>by have HB:=(B4.at M);exact ⟨rfl,HB⟩)
end Go.Proofs.aH
namespace Go.Proofs.aC
open Go Go.RowKit Go.SW Go.Num Go.Mem Go.Proofs
theorem Qz {a b:Int} (ha:a<0) (hb:0<b) (h:¬ b ∣ a):iV (a.natAbs / b.natAbs) true= -((a.natAbs / b.natAbs:Nat):Int)∧iV (a.natAbs%b.natAbs) true= -((a.natAbs%b.natAbs:Nat):Int)∧0<a.natAbs%b.natAbs∧a / b= -((a.natAbs / b.natAbs:Nat):Int) - 1∧a%b= -((a.natAbs%b.natAbs:Nat):Int)+b:=by
 obtain ⟨n,rfl⟩:∃ n:Nat,a= -(n:Int):=⟨a.natAbs,by omega⟩;obtain ⟨d,rfl⟩:∃ d:Nat,b=(d:Int):=⟨b.natAbs,by omega⟩;rw [Int.natAbs_neg,Int.natAbs_natCast,Int.natAbs_natCast];have hm:n%d≠0:=fun e=>h (Int.dvd_neg.2 (Int.natCast_dvd_natCast.2 (Nat.dvd_of_mod_eq_zero e)));have hlt:=fC n (show 0<d by omega);have Mx:=dF n d
 have e1: -(n:Int)=(d:Int)*(-((n / d:Nat):Int) - 1)+((d:Int) - ((n%d:Nat):Int)):=by
  have:(n:Int)=(d:Int)*((n / d:Nat):Int)+((n%d:Nat):Int):=by exact_mod_cast Mx.symm
  rw [this];grind
 refine ⟨by unfold iV;simp,by unfold iV;simp,by omega,?_,?_⟩
 ·rw [e1,Int.add_comm,Int.add_mul_ediv_left _ _ zo,Int.ediv_eq_zero_of_lt zo zo];omega
 ·rw [e1,Int.add_comm,Int.add_mul_emod_self_left,Int.emod_eq_of_lt zo zo];omega
def Vr (w:World) (z:Int) (e:Ending) (w':World):Prop:=∃ b pa l ca,e= aj (au #[ak b,ah pa l ca])∧Below w.heap.size w w'∧Pl w' (au #[ak b,ah pa l ca]) z
theorem YZ {w:World} {z:Int} {e:Ending} {w':World} (h:∃ v',e= aj v'∧Below w.heap.size w w'∧Pl w' v' z):Vr w z e w':=by
 obtain ⟨v,rfl,h,hv⟩:=h;obtain ⟨b,pa,l,ca,rfl⟩:=hv.agg;exact ⟨b,pa,l,ca,rfl,h,hv⟩
theorem Yf (x y:Value) (a b:Int) (w:World) (hx:Pl w x a) (hy:Pl w y b) (ha:sz 10000 a.natAbs≤549755813888) (hb:sz 10000 b.natAbs≤549755813888):Calls Tryz.prog 279 #[x,y] w (Vr w (a+b)):=(qm x y a b w hx hy ha hb).mono fun _ _ h=>YZ h
theorem Vt (x y:Value) (a b:Int) (w:World) (hx:Pl w x a) (hy:Pl w y b) (ha:sz 10000 a.natAbs≤549755813888) (hb:sz 10000 b.natAbs≤549755813888):Calls Tryz.prog 301 #[x,y] w (Vr w (a - b)):=(rA x y a b w hx hy ha hb).mono fun _ _ h=>YZ h
theorem Sy {n:Nat} {k:Nat} (h:sz 10000 n≤k):sz 10000 (-(n:Int)).natAbs≤k:=by rwa [Int.natAbs_neg,Int.natAbs_natCast]
theorem Zu:sz 10000 (1:Int).natAbs≤549755813888:=by decide+kernel
theorem Rq (x y:Value) (a b:Int) (w:World) (hx:Pl w x a) (hy:Pl w y b) (ha:sz 10000 a.natAbs≤274877906944) (hb:sz 10000 b.natAbs≤274877906944) (ha0:a<0) (hb0:0<b) (hd:¬ b ∣ a) :
  Calls Tryz.prog 262 #[x,y] w (sH w (a / b) (a%b)):=by
 obtain ⟨bA,kg,lA,kN,rfl⟩:=hx.agg;obtain ⟨bB,oq,lB,oz,rfl⟩:=hy.agg;obtain ⟨nA,eA⟩:=hx.nm;obtain ⟨nB,eB⟩:=hy.nm;have hbf:bB=false:=by rw [eB];simp;omega
 subst hbf;have hbt:bA=true:=by rw [eA];simp;omega
 subst hbt;obtain ⟨s1,s2,s3,s4,s5⟩:=Qz ha0 hb0 hd;have hqz:sz 10000 (a.natAbs / b.natAbs)≤549755813888:=ay (gu zo (Nat.div_le_self _ _)) zo;have hrz:sz 10000 (a.natAbs%b.natAbs)≤549755813888:=ay (gu zo (Nat.mod_le _ _)) zo;have sU:=zh nA;have yL:=zh nB;have NBp:=zh hy;have KA:=zh ha;have KB:=zh hb;have H0:Hid (0<b.natAbs):=zh zo;have HS1:=zh s1;have HS2:=zh s2;have HS3:=zh s3;have HQ:=zh hqz;have HRz:=zh hrz;rw [s4,s5];clear hx hy ha hb hb0 ha0 hd nA nB eA eB s1 s2 s3 s4 s5 hqz hrz;go_enter Tryz.func262,Tryz.ntmps262
 go_wp2_with fail
 obtain ⟨lZ,EW,hz,X1,X2,X3,X4⟩:=al4 w #[ak true,ah kg lA kN] 161 #[ak false,ah oq lB oz] 161 #[ak false,ah none 0 0] 161 #[ak false,ah none 0 0] 161;rw [EW];have hk2:=Bt (Below.refl _ _) hz;clear EW hz;refine (BU _ _ _ _ _ (sU.out.later hk2) (yL.out.later hk2) H0.out KA.out KB.out).mono ?_;rintro e oo ⟨q,r,rfl,hb3,hq,hr⟩;obtain ⟨paQ,lQ,caQ,rfl⟩:=hq.slice;obtain ⟨WK,lR,XP,rfl⟩:=hr.slice;replace X1:=X1.bl hb3;replace X2:=X2.bl hb3;replace X3:=X3.bl hb3;replace X4:=X4.bl hb3;have hk5:=Bt hk2 hb3;clear hk2;have NQ:=zh hq;have NR:=zh hr;clear hb3 hq hr;have HL4:=zh X4.out.lt;go_wp2_with fail
 obtain ⟨kZ,kY,ni⟩:=X1.clf;obtain ⟨sP,sO,wK⟩:=X2.clf;refine aJ [(.pure,0),(.read,1),(.pure,2),(.read,3),(.pure,4),(.pure,5),(.pure,7),(.read,8),(.pure,9),(.ext,6),(.ext,10),(.alloc #[ak false,ah none 0 0] 161,11),(.alloc #[ak false,ah none 0 0] 161,12),(.fin,13),(.fin,14)] zk zk zR zP ?_;refine zV ?_;refine aS rfl rfl (fun Dy hb6 J hJ=>?_);go_simp;have sW:Below oo.heap.size oo Dy:=aF;clear hb6;refine (rW _ _ _ _ _ (NQ.out.later sW) HS1.out).mono ?_;rintro e sJ ⟨v,rfl,jP,qC⟩;obtain ⟨bU,Qs,lU,Q0,rfl⟩:=qC.agg;refine hJ _ _ jP ?_;clear hJ J;have Ad:=Bt sW jP;have NU:=zh qC;clear sW jP qC;refine zV ?_;refine aS rfl rfl (fun DI sZ J hJ=>?_);go_simp;have nJ:Below oo.heap.size oo DI:=Bt Ad aF;replace NU:=zh (NU.out.later (show Below sJ.heap.size sJ DI from aF));clear sZ Ad
 refine (rW _ _ _ _ _ (NR.out.later nJ) HS2.out).mono ?_;rintro e lg ⟨v,rfl,jF,hv⟩;obtain ⟨bV,Qr,lV,QZ,rfl⟩:=hv.agg;have hbv:bV=true:=hv.nm.2.trans (decide_eq_true (by have:=HS3.out;omega));subst hbv;refine hJ _ _ jF ?_;clear hJ J;have pG:=Bt nJ jF;replace NU:=zh (NU.out.later jF);have NV:=zh hv;clear nJ jF hv;refine zV ?_;refine eX rfl (fun jN am0 JF lM yg CK jX=>?_);go_simp;replace jX:aA _ _ _ _:=jX;have CF:w.heap.size≤jN:=(by first|omega|exact ay (Below.size (B:=w.heap.size) aF) lM);refine eX rfl (fun mM av2 JE qE GZ CJ rX=>?_);go_simp;replace rX:aA _ _ _ _:=rX;have MG:w.heap.size≤mM:=(by first|omega|exact ay (Below.size (B:=w.heap.size) aF) qE);replace jX:=aA.later jX JE;have hne:jN≠mM:=fun h=>CJ (by simp [h])
 have hne2:mM≠jN:=fun h=>hne h.symm;refine dA [_,_] rfl (fun wf hf=>?_);replace NU:=zh (NU.out.later (show Below lg.heap.size lg wf from aF));replace NV:=zh (NV.out.later (show Below lg.heap.size lg wf from aF));have QM:Below oo.heap.size oo wf:=Bt pG aF;have hq0:=jX.later hf;have U0:=hq0.cell;have UA:=hq0.free;have hq1:=rX.later hf;have XM:=hq1.cell;have Xx:=hq1.free;have Y2:=X2.out.later QM;have c2:=Y2.cell;have l2:=Y2.lt;have hl2:=X2.out.lt;have hl3:=X3.out.lt;have hl4:=HL4.out;have m1:jN≠w.heap.size+1:=by omega
 have m2:mM≠w.heap.size+1:=by omega
 clear jX rX hf pG kZ kY ni sP sO wK;go_wp2_with fail
 obtain ⟨w4,EW⟩:∃ y,((((wf.setCell ⟨jN,0,none⟩ (ak bU)).setCell ⟨jN,1,none⟩ (ah Qs lU Q0)).setCell ⟨mM,0,none⟩ (ak true)).setCell ⟨mM,1,none⟩ (ah Qr lV QZ))=y:=⟨_,rfl⟩;have hz:Below oo.heap.size oo w4:=by rw [← EW];exact ((((QM.setCell lM _).setCell lM _).setCell qE _).setCell qE _)
 have X5:Hid (aA w4 jN #[ak bU,ah Qs lU Q0] 161):=zh (by rw [← EW];exact ((((hq0.set 0 _).set 1 _).setOther _ hne).setOther _ hne));have X6:Hid (aA w4 mM #[ak true,ah Qr lV QZ] 161):=zh (by rw [← EW];exact ((((hq1.setOther _ hne2).setOther _ hne2).set 0 _).set 1 _));have t:=(NU.out.set2 hq0 zd 0 1 (ak bU) (ah Qs lU Q0)).set2 ((hq1.setOther (a:=⟨jN,0,none⟩) _ hne2).setOther (a:=⟨jN,1,none⟩) _ hne2) zd 0 1 (ak true) (ah Qr lV QZ);rw [EW] at t;replace NU:=zh t;clear t;have t:=(NV.out.set2 hq0 zd 0 1 (ak bU) (ah Qs lU Q0)).set2 ((hq1.setOther (a:=⟨jN,0,none⟩) _ hne2).setOther (a:=⟨jN,1,none⟩) _ hne2) zd 0 1 (ak true) (ah Qr lV QZ);rw [EW] at t;replace NV:=zh t;clear t;rw [EW];have HB:=zh (Bt hk5 hz);replace X2:=X2.bl hz;replace X3:=X3.bl hz;replace X4:=X4.bl hz;have ap2:w.heap.size≤jN:=by omega
 have ap1:w.heap.size≤mM:=by omega
 have n1:mM≠w.heap.size+1+1:=by omega
 have n2:mM≠w.heap.size+1+1+1:=by omega
 have n3:jN≠w.heap.size+1+1:=by omega
 have n4:jN≠w.heap.size+1+1+1:=by omega
 have NBq:=zh (NBp.out.later HB.out);have K1:sz 10000 b.natAbs≤549755813888:=by have:=KB.out;omega
 clear EW hq0 U0 UA hq1 XM Xx QM hz sU yL NBp NQ NR X1 hk5 JF JE CK CJ CF MG lM qE yg GZ Y2 c2 l2 hl2 hl3 hl4 HS1 HS2 HS3 H0 KA KB HL4;refine (Yf _ _ _ _ _ NV.out NBq.out (Sy HRz.out) K1).mono ?_;rintro e w5 ⟨bP,Oy,lP,Pb,rfl,h,hm⟩;replace X2:=X2.bl h;replace X3:=X3.bl h;replace X4:=X4.bl h;replace X5:=X5.bl h;replace X6:=X6.bl h;replace NU:=zh (NU.out.later h);replace HB:=zh (Bt HB.out h);have NP:=zh hm;clear h hm NV NBq K1;have c6:=X6.out.cell;have f6:=X6.out.free;have Y2:=X2.out;have c2:=Y2.cell;have l2:=Y2.lt;have Y5:=X5.out;have c5:=Y5.cell;have l5:=Y5.lt;go_wp2_with fail
 clear c6 f6 c2 l2 c5 l5;obtain ⟨w6,EW⟩:∃ y,((w5.setCell ⟨mM,0,none⟩ (ak bP)).setCell ⟨mM,1,none⟩ (ah Oy lP Pb))=y:=⟨_,rfl⟩;have q6:=X6.out;have q5:=X5.out;have t:=(HB.out.setCell (p:=⟨mM,0,none⟩) ap1 (ak bP)).setCell (p:=⟨mM,1,none⟩) ap1 (ah Oy lP Pb);rw [EW] at t;replace HB:=zh t;clear t;have t:=(q6.set 0 (ak bP)).set 1 (ah Oy lP Pb);rw [EW] at t;replace X6:Hid (aA w6 mM #[ak bP,ah Oy lP Pb] 161):=zh t;clear t;have t:=(q5.setOther (a:=⟨mM,0,none⟩) (ak bP) hne).setOther (a:=⟨mM,1,none⟩) (ah Oy lP Pb) hne;rw [EW] at t;replace X5:=zh t;clear t;have t:=(X3.out.setOther (a:=⟨mM,0,none⟩) (ak bP) (Ne.symm n1)).setOther (a:=⟨mM,1,none⟩) (ah Oy lP Pb) (Ne.symm n1);rw [EW] at t;replace X3:=zh t;clear t
 have t:=(X4.out.setOther (a:=⟨mM,0,none⟩) (ak bP) (Ne.symm n2)).setOther (a:=⟨mM,1,none⟩) (ah Oy lP Pb) (Ne.symm n2);rw [EW] at t;replace X4:=zh t;clear t;have t:=NU.out.set2 q6 zd 0 1 (ak bP) (ah Oy lP Pb);rw [EW] at t;replace NU:=zh t;clear t;have t:=NP.out.set2 q6 zd 0 1 (ak bP) (ah Oy lP Pb);rw [EW] at t;replace NP:=zh t;clear t q5 q6 X2 Y2 Y5;rw [EW];clear EW;have sV:=zh (Below.refl w6.heap.size w6);refine aJ [(.read,0),(.ext,1),(.ext,2),(.fin,3)] zk zk zR zP ?_;refine Wk.out ?_;have cX5:=X5.out.cell;have lX5:=X5.out.lt;refine zS ?_;clear cX5 lX5;refine fM rfl rfl (fun we hbe J hJ=>?_);go_simp;have hx:Below w6.heap.size w6 we:=aF;have Dt:=zh (Bt HB.out hx);refine (jO 1 _ zo zo).mono ?_;rintro e u1 ⟨vi,rfl,h,hm⟩;have hy:=Bt hx h;refine hJ _ _ h ?_;clear hJ J hbe hx h Dt;replace X3:=X3.bl hy;replace X4:=X4.bl hy
 replace X5:=X5.bl hy;replace X6:=X6.bl hy;replace NU:=zh (NU.out.later hy);replace NP:=zh (NP.out.later hy);replace HB:=zh (Bt HB.out hy);replace sV:=zh (Bt sV.out hy);clear hy;have FI:=zh hm;clear hm;have cX5:=X5.out.cell;have lX5:=X5.out.lt;refine zS ?_;clear cX5 lX5;refine fM rfl rfl (fun we hbe J hJ=>?_);go_simp;have hx:Below u1.heap.size u1 we:=aF;have Dt:=zh (Bt HB.out hx);refine (Vt _ _ _ _ _ (NU.out.later hx) (FI.out.later hx) (Sy HQ.out) Zu).mono ?_;rintro e u2 ⟨bX,Qq,lX,QY,rfl,h,hm⟩;have hy:=Bt hx h;refine hJ _ _ h ?_;clear hJ J hbe hx h Dt;replace X3:=X3.bl hy;replace X4:=X4.bl hy;replace X5:=X5.bl hy;replace X6:=X6.bl hy;replace NU:=zh (NU.out.later hy);replace NP:=zh (NP.out.later hy);replace FI:=zh (FI.out.later hy);replace HB:=zh (Bt HB.out hy);replace sV:=zh (Bt sV.out hy);clear hy;have FX:=zh hm;clear hm;have cX5:=X5.out.cell
 have lX5:=X5.out.lt;refine zS ?_;clear cX5 lX5;refine rE [_] rfl (fun u3 hbf=>?_);have hy:Below u2.heap.size u2 u3:=aF;replace X3:=X3.bl hy;replace X4:=X4.bl hy;replace X5:=X5.bl hy;replace X6:=X6.bl hy;replace NU:=zh (NU.out.later hy);replace NP:=zh (NP.out.later hy);replace FI:=zh (FI.out.later hy);replace FX:=zh (FX.out.later hy);replace HB:=zh (Bt HB.out hy);clear hy hbf sV;have q5:=X5.out;have c5:=q5.cell;have f5:=q5.free;clear FI NU;go_wp2_with fail
 clear c5 f5;obtain ⟨w8,EW⟩:∃ y,((u3.setCell ⟨jN,0,none⟩ (ak bX)).setCell ⟨jN,1,none⟩ (ah Qq lX QY))=y:=⟨_,rfl⟩;have t:=(HB.out.setCell (p:=⟨jN,0,none⟩) ap2 (ak bX)).setCell (p:=⟨jN,1,none⟩) ap2 (ah Qq lX QY);rw [EW] at t;replace HB:=zh t;clear t;have t:=(q5.set 0 (ak bX)).set 1 (ah Qq lX QY);rw [EW] at t;replace X5:Hid (aA w8 jN #[ak bX,ah Qq lX QY] 161):=zh t;clear t;have t:=(X6.out.setOther (a:=⟨jN,0,none⟩) (ak bX) hne2).setOther (a:=⟨jN,1,none⟩) (ah Qq lX QY) hne2;rw [EW] at t;replace X6:=zh t;clear t;have t:=(X3.out.setOther (a:=⟨jN,0,none⟩) (ak bX) (Ne.symm n3)).setOther (a:=⟨jN,1,none⟩) (ah Qq lX QY) (Ne.symm n3);rw [EW] at t;have h3:=t;clear t;have t:=(X4.out.setOther (a:=⟨jN,0,none⟩) (ak bX) (Ne.symm n4)).setOther (a:=⟨jN,1,none⟩) (ah Qq lX QY) (Ne.symm n4);rw [EW] at t;have h4:=t;clear t
 have t:=NP.out.set2 q5 zd 0 1 (ak bX) (ah Qq lX QY);rw [EW] at t;replace NP:=zh t;clear t;have t:=FX.out.set2 q5 zd 0 1 (ak bX) (ah Qq lX QY);rw [EW] at t;replace FX:=zh t;clear t q5 X3 X4;rw [EW];clear EW;have c5:=X5.out.cell;have c6:=X6.out.cell;have c3:=h3.cell;have c4:=h4.cell;have f3:=h3.free;have f4:=h4.free;clear X5 X6 hne hne2 HQ HRz;go_region
 go_wp2_with fail
 have h4b:=(h4.setOther (a:=⟨w.heap.size+1+1,0,none⟩) (ak bX) zi).setOther (a:=⟨w.heap.size+1+1,1,none⟩) (ah Qq lX QY) zi;have h3b:=(((h3.set 0 (ak bX)).set 1 (ah Qq lX QY)).setOther (a:=⟨w.heap.size+1+1+1,0,none⟩) (ak bP) zi).setOther (a:=⟨w.heap.size+1+1+1,1,none⟩) (ah Oy lP Pb) zi;have hU:=(FX.out.set2 h3 zd 0 1 (ak bX) (ah Qq lX QY)).set2 h4b zd 0 1 (ak bP) (ah Oy lP Pb);have hV:=(NP.out.set2 h3 zd 0 1 (ak bX) (ah Qq lX QY)).set2 h4b zd 0 1 (ak bP) (ah Oy lP Pb);have hk:=HB.out;refine Tc rfl rfl (aA.drew h3b) Tryz.underlying161 rfl zk rfl (aA.drew ((h4b.set 0 (ak bP)).set 1 (ah Oy lP Pb))) Tryz.underlying161 rfl zk ?_;exact ⟨_,_,rfl,aF,hU.later (Below.drew (Below.refl _ _)),hV.later (Below.drew (Below.refl _ _))⟩
theorem Rs (x y:Value) (a b:Int) (w:World) (hx:Pl w x a) (hy:Pl w y b) (ha:sz 10000 a.natAbs≤274877906944) (hb:sz 10000 b.natAbs≤274877906944) (hb0:0<b):Calls Tryz.prog 262 #[x,y] w (sH w (a / b) (a%b)):=by
 by_cases h:0≤a∨b ∣ a
 ·exact uH x y a b w hx hy ha hb hb0 h
 ·exact Rq x y a b w hx hy ha hb zo hb0 (fun e=>h (.inr e))
end Go.Proofs.aC
namespace Go.Proofs.aH
open Go Go.RowKit Go.SW Go.Num Go.Mem Go.Proofs Go.Dec Go.Proofs.aC Go.gD
def VQ (q:Rat):Int:=q.num / (q.den:Int)
theorem _root_.Go.Mem.Pl.alloc {w:World} {v:Value} {z:Int} (h:Pl w v z) (o:Obj):Pl (w.alloc o) v z:=h.later ((Below.refl _ _).alloc (aD _) _)
theorem PG (x:Value) (p:Rat) (w:World) (hx:Ra w x p) (h1:jw 10000000000 p):Calls Tryz.prog 267 #[x] w (wV w (VQ p)):=by
 obtain ⟨bA,kg,lA,kN,wP,lI,wG,lW,rfl,hA1,hA2⟩:=id hx;have QA:=zh hx;have NA:=zh hA1;have yM:=zh hA2;obtain ⟨s1,s2⟩:=jw.four h1;have S1:Hid (sz 10000 p.num.natAbs≤274877906944):=zh zo;have S2:Hid (sz 10000 (p.den:Int).natAbs≤274877906944):=zh zo;have S3:Hid ((0:Int)<(p.den:Int)):=zh (by have:=p.den_pos;omega);clear hx hA1 hA2 s1 s2 h1;unfold VQ;go_enter Tryz.func267,Tryz.ntmps267
 go_wp2_with fail
 obtain ⟨lZ,EW,hz,X1,X2⟩:=Dz w #[ak bA,ah kg lA kN,ak wP,ah lI wG lW] 163 #[ak false,ah none 0 0] 161;rw [EW];replace NA:=zh (NA.out.later hz);replace yM:=zh (yM.out.later hz);have hk2:=Bt (Below.refl _ _) hz;clear EW hz;refine (aC.Rs _ _ _ _ _ NA.out yM.out S1.out S2.out S3.out).mono ?_;rintro e oo ⟨q,r,rfl,hb3,hq,hr⟩;obtain ⟨bT,paQ,lQ,caQ,rfl⟩:=hq.agg;obtain ⟨bS,WK,lR,XP,rfl⟩:=hr.agg;replace NA:=zh (NA.out.later hb3);replace yM:=zh (yM.out.later hb3);replace X1:=X1.bl hb3;replace X2:=X2.bl hb3;have hk5:=Bt hk2 hb3;clear hk2;have NQ:=zh hq;clear hb3 hq;obtain ⟨sP,sO,wK⟩:=X2.clf;have hres:=((X2.out.alloc (.cells #[ak bT,ah paQ lQ caQ] 161)).alloc (.cells #[ak bS,ah WK lR XP] 161));have Df:=hres.cell;have CV:=hres.free;go_wp2_with fail
 have hQ:=(NQ.out.alloc (.cells #[ak bT,ah paQ lQ caQ] 161)).alloc (.cells #[ak bS,ah WK lR XP] 161);refine gF rfl rfl bf Tryz.underlying161 rfl zk ?_;exact ⟨_,rfl,aF,hQ.set2 hres zd _ _ _ _⟩
end Go.Proofs.aH
