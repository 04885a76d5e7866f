/- Lemmas for the proof. No condition. -/
import Derived.Test.YtneajphgfdlmhaaGreatDoorQB08
import Derived.Test.YtneajphgfdlmhaaGreatDoorQB14
import Derived.Test.YtneajphgfdlmhaaGreatDoorQB23
import Derived.Laws.StructEq
set_option linter.unusedVariables false
set_option linter.unusedSimpArgs false
set_option maxRecDepth 100000
set_option maxHeartbeats 16000000
open Bool renaming and_eq_true → aK
open Go.Ending renaming returned → aj
open Go.IntKind renaming i64 → I
open Go.Value renaming agg → au, bool → ak, int → Z, slice → ah, string → O, tuple → aG
open Nat renaming le_trans → ay, lt_of_lt_of_le → aI
open Prod.mk renaming injEq → gX
namespace Go.Proofs.aC
open Go Go.RowKit Go.SW Go.Num Go.Mem Go.Proofs Go.Dec
def Ep (z:Int):Int × Int:=if -9223372036854775808≤z∧z≤9223372036854775807 then (z,0) else (0,6)
theorem Lg:sz 10000 (-9223372036854775808:Int).natAbs≤549755813888:=by decide+kernel
theorem Sw:sz 10000 (9223372036854775807:Int).natAbs≤549755813888:=by decide+kernel
theorem DK {l:List Nat} {k:Nat} (h:k<l.length):val 10000 (l.drop k)=l.getD k 0+10000*val 10000 (l.drop (k+1)):=by
 rw [List.drop_eq_getElem_cons h];simp [val,h]
theorem GU (x:Value) (z:Int) (w:World) (hx:Pl w x z) (hs:sz 10000 z.natAbs≤549755813888) (hz0:z< -9223372036854775808) :
  Calls Tryz.prog 266 #[x] w (fun e w'=>e= aj (aG #[Z I 0,Z I 6])∧Below w.heap.size w w'):=by
 obtain ⟨bA,kg,lA,kN,rfl⟩:=hx.agg
 have O1:Hid (∀ v v' W,Pl W v z→Pl W v' (-9223372036854775808)→Calls Tryz.prog 264 #[v,v'] W (fun e w'=>e= aj (Z I (-1))∧Below W.heap.size W w')):=zh fun v v' W h h'=>by
  have:=jS v v' z (-9223372036854775808) W h h' hs Lg
  rwa [show yE z (-9223372036854775808)= -1 by unfold yE;rw [if_pos hz0]] at this
 clear hs hz0;have FA:=zh hx;go_enter Tryz.func266,Tryz.ntmps266
 go_wp2_with fail
 obtain ⟨u0,EW,hz,HX⟩:=wR w #[ak bA,ah kg lA kN] 161;rw [EW];replace FA:=zh (FA.out.later hz);have HB:=zh hz;clear EW hz hx;have sV:=zh (Below.refl u0.heap.size u0);refine aJ [(.read,0),(.ext,1),(.ext,2),(.pure,3),(.pure,4),(.read,5),(.ext,6),(.ext,7),(.pure,8),(.pure,9)] zk zk zR zP ?_;refine Wk.out ?_;have wN:=HX.out.cell;have wF:=HX.out.lt;refine zS ?_;clear wN wF;refine fM rfl rfl (fun we hbe J hJ=>?_);go_simp;have hx:Below u0.heap.size u0 we:=aF;have Dt:=zh (Bt HB.out hx);refine (jO _ _ zo zo).mono ?_;rintro e u1 ⟨vi,rfl,h,hm⟩;have hy:=Bt hx h;refine hJ _ _ h ?_;clear hJ J hbe hx h Dt;replace HX:=zh (HX.out.later hy);replace FA:=zh (FA.out.later hy);replace HB:=zh (Bt HB.out hy);replace sV:=zh (Bt sV.out hy);clear hy;have FI:=zh hm;clear hm;have wN:=HX.out.cell;have wF:=HX.out.lt;refine zS ?_;clear wN wF
 refine fM rfl rfl (fun we hbe J hJ=>?_);go_simp;have hx:Below u1.heap.size u1 we:=aF;have Dt:=zh (Bt HB.out hx);refine (O1.out _ _ _ (FA.out.later hx) (FI.out.later hx)).mono ?_;rintro e u2 ⟨rfl,h⟩;have hy:=Bt hx h;refine hJ _ _ h ?_;clear hJ J hbe hx h Dt;replace HX:=zh (HX.out.later hy);replace FA:=zh (FA.out.later hy);replace FI:=zh (FI.out.later hy);replace HB:=zh (Bt HB.out hy);replace sV:=zh (Bt sV.out hy);clear hy;have wN:=HX.out.cell;have wF:=HX.out.lt;refine zS ?_;clear wN wF;refine nD (fun u3 hbf=>?_);have hy:Below u2.heap.size u2 u3:=aF;replace HX:=zh (HX.out.later hy);replace FA:=zh (FA.out.later hy);replace FI:=zh (FI.out.later hy);replace HB:=zh (Bt HB.out hy);clear hy hbf sV;go_wp2_with fail
 go_ret2
 exact ⟨rfl,HB.out⟩
theorem Eo (x:Value) (z:Int) (w:World) (hx:Pl w x z) (hs:sz 10000 z.natAbs≤549755813888) (hz0:9223372036854775807<z) :
  Calls Tryz.prog 266 #[x] w (fun e w'=>e= aj (aG #[Z I 0,Z I 6])∧Below w.heap.size w w'):=by
 obtain ⟨bA,kg,lA,kN,rfl⟩:=hx.agg
 have O1:Hid (∀ v v' W,Pl W v z→Pl W v' (-9223372036854775808)→Calls Tryz.prog 264 #[v,v'] W (fun e w'=>e= aj (Z I 1)∧Below W.heap.size W w')):=zh fun v v' W h h'=>by
  have:=jS v v' z (-9223372036854775808) W h h' hs Lg
  rwa [show yE z (-9223372036854775808)=1 by unfold yE;rw [if_neg zo,if_pos zo]] at this
 have O2:Hid (∀ v v' W,Pl W v z→Pl W v' 9223372036854775807→Calls Tryz.prog 264 #[v,v'] W (fun e w'=>e= aj (Z I 1)∧Below W.heap.size W w')):=zh fun v v' W h h'=>by
  have:=jS v v' z 9223372036854775807 W h h' hs Sw
  rwa [show yE z 9223372036854775807=1 by unfold yE;rw [if_neg zo,if_pos hz0]] at this
 clear hs hz0;have FA:=zh hx;go_enter Tryz.func266,Tryz.ntmps266
 go_wp2_with fail
 obtain ⟨u0,EW,hz,HX⟩:=wR w #[ak bA,ah kg lA kN] 161;rw [EW];replace FA:=zh (FA.out.later hz);have HB:=zh hz;clear EW hz hx;have sV:=zh (Below.refl u0.heap.size u0);refine aJ [(.read,0),(.ext,1),(.ext,2),(.pure,3),(.pure,4),(.read,5),(.ext,6),(.ext,7),(.pure,8),(.pure,9)] zk zk zR zP ?_;refine Wk.out ?_;have wN:=HX.out.cell;have wF:=HX.out.lt;refine zS ?_;clear wN wF;refine fM rfl rfl (fun we hbe J hJ=>?_);go_simp;have hx:Below u0.heap.size u0 we:=aF;have Dt:=zh (Bt HB.out hx);refine (jO _ _ zo zo).mono ?_;rintro e u1 ⟨vi,rfl,h,hm⟩;have hy:=Bt hx h;refine hJ _ _ h ?_;clear hJ J hbe hx h Dt;replace HX:=zh (HX.out.later hy);replace FA:=zh (FA.out.later hy);replace HB:=zh (Bt HB.out hy);replace sV:=zh (Bt sV.out hy);clear hy;have FI:=zh hm;clear hm;have wN:=HX.out.cell;have wF:=HX.out.lt;refine zS ?_;clear wN wF
 refine fM rfl rfl (fun we hbe J hJ=>?_);go_simp;have hx:Below u1.heap.size u1 we:=aF;have Dt:=zh (Bt HB.out hx);refine (O1.out _ _ _ (FA.out.later hx) (FI.out.later hx)).mono ?_;rintro e u2 ⟨rfl,h⟩;have hy:=Bt hx h;refine hJ _ _ h ?_;clear hJ J hbe hx h Dt;replace HX:=zh (HX.out.later hy);replace FA:=zh (FA.out.later hy);replace FI:=zh (FI.out.later hy);replace HB:=zh (Bt HB.out hy);replace sV:=zh (Bt sV.out hy);clear hy;have wN:=HX.out.cell;have wF:=HX.out.lt;refine zS ?_;clear wN wF;refine fM rfl rfl (fun we hbe J hJ=>?_);go_simp;have hx:Below u2.heap.size u2 we:=aF;have Dt:=zh (Bt HB.out hx);refine (jO _ _ zo zo).mono ?_;rintro e u3 ⟨vk,rfl,h,hm⟩;have hy:=Bt hx h;refine hJ _ _ h ?_;clear hJ J hbe hx h Dt;replace HX:=zh (HX.out.later hy);replace FA:=zh (FA.out.later hy);replace FI:=zh (FI.out.later hy);replace HB:=zh (Bt HB.out hy)
 replace sV:=zh (Bt sV.out hy);clear hy;have FK:=zh hm;clear hm;have wN:=HX.out.cell;have wF:=HX.out.lt;refine zS ?_;clear wN wF;refine fM rfl rfl (fun we hbe J hJ=>?_);go_simp;have hx:Below u3.heap.size u3 we:=aF;have Dt:=zh (Bt HB.out hx);refine (O2.out _ _ _ (FA.out.later hx) (FK.out.later hx)).mono ?_;rintro e u4 ⟨rfl,h⟩;have hy:=Bt hx h;refine hJ _ _ h ?_;clear hJ J hbe hx h Dt;replace HX:=zh (HX.out.later hy);replace FA:=zh (FA.out.later hy);replace FI:=zh (FI.out.later hy);replace FK:=zh (FK.out.later hy);replace HB:=zh (Bt HB.out hy);replace sV:=zh (Bt sV.out hy);clear hy;have wN:=HX.out.cell;have wF:=HX.out.lt;refine zS ?_;clear wN wF;refine nD (fun u5 hbf=>?_);have hy:Below u4.heap.size u4 u5:=aF;replace HX:=zh (HX.out.later hy);replace FA:=zh (FA.out.later hy);replace FI:=zh (FI.out.later hy);replace FK:=zh (FK.out.later hy)
 replace HB:=zh (Bt HB.out hy);clear hy hbf sV;go_wp2_with fail
 go_ret2
 exact ⟨rfl,HB.out⟩
theorem JA (x:Value) (z:Int) (w:World) (hx:Pl w x z) (hs:sz 10000 z.natAbs≤549755813888) (hz0: -9223372036854775808≤z∧z≤9223372036854775807) :
  Calls Tryz.prog 266 #[x] w (fun e w'=>e= aj (aG #[Z I z,Z I 0])∧Below w.heap.size w w'):=by
 obtain ⟨bA,kg,lA,kN,rfl⟩:=hx.agg;have O1:Hid (∃ o:Int,0≤o∧∀ v v' W,Pl W v z→Pl W v' (-9223372036854775808)→Calls Tryz.prog 264 #[v,v'] W (fun e w'=>e= aj (Z I o)∧Below W.heap.size W w')):=zh ⟨yE z (-9223372036854775808),by unfold yE;rw [if_neg zo];split<;>omega,fun v v' W h h'=>jS v v' z (-9223372036854775808) W h h' hs Lg⟩;have O2:Hid (∃ o:Int,o≤0∧∀ v v' W,Pl W v z→Pl W v' 9223372036854775807→Calls Tryz.prog 264 #[v,v'] W (fun e w'=>e= aj (Z I o)∧Below W.heap.size W w')):=zh ⟨yE z 9223372036854775807,by unfold yE;split;omega;rw [if_neg zo];omega,fun v v' W h h'=>jS v v' z 9223372036854775807 W h h' hs Sw⟩;obtain ⟨o1,ho1,O1⟩:=O1.out;obtain ⟨o2,ho2,O2⟩:=O2.out;replace O1:=zh O1;replace O2:=zh O2;have q1:decide (o1<0)=false:=decide_eq_false zo;have q2:decide (0<o2)=false:=decide_eq_false zo;obtain ⟨hn,hbz⟩:=hx.nm
 obtain ⟨l,El⟩:∃ l,eF 10000 z.natAbs=l:=⟨_,rfl⟩;obtain ⟨pa',KW,e,k1,k2,k3⟩:=hn.read;simp only [Value.slice.injEq] at e;obtain ⟨rfl,rfl,rfl⟩:=e;rw [El] at k3;have hl:l.length=sz 10000 z.natAbs:=by rw [← El];rfl
 have hvl:val 10000 l=z.natAbs:=by rw [← El];exact bQ zo _
 have hlL:sz 10000 z.natAbs≤549755813888:=hs;obtain ⟨L,EL⟩:∃ L,sz 10000 z.natAbs=L:=⟨_,rfl⟩;rw [EL] at hl k1 k3 hx hlL;have K3:=zh k3;have HL:=zh hl;have Y6:=zh hvl;have HBZ:=zh hbz;have HZ0:=zh hz0;clear hs hz0 ho1 ho2 k3 hl hvl hbz hn El;rw [EL];clear EL;have FA:=zh hx;go_enter Tryz.func266,Tryz.ntmps266
 go_wp2_with fail
 obtain ⟨u0,EW,hz,HX⟩:=wR w #[ak bA,ah kg L kN] 161;rw [EW];replace FA:=zh (FA.out.later hz);have HB:=zh hz;clear EW hz hx;have sV:=zh (Below.refl u0.heap.size u0);refine aJ [(.read,0),(.ext,1),(.ext,2),(.pure,3),(.pure,4),(.read,5),(.ext,6),(.ext,7),(.pure,8),(.pure,9)] zk zk zR zP ?_;refine Wk.out ?_;have wN:=HX.out.cell;have wF:=HX.out.lt;refine zS ?_;clear wN wF;refine fM rfl rfl (fun we hbe J hJ=>?_);go_simp;have hx:Below u0.heap.size u0 we:=aF;have Dt:=zh (Bt HB.out hx);refine (jO _ _ zo zo).mono ?_;rintro e u1 ⟨vi,rfl,h,hm⟩;have hy:=Bt hx h;refine hJ _ _ h ?_;clear hJ J hbe hx h Dt;replace HX:=zh (HX.out.later hy);replace FA:=zh (FA.out.later hy);replace HB:=zh (Bt HB.out hy);replace sV:=zh (Bt sV.out hy);clear hy;have FI:=zh hm;clear hm;have wN:=HX.out.cell;have wF:=HX.out.lt;refine zS ?_;clear wN wF
 refine fM rfl rfl (fun we hbe J hJ=>?_);go_simp;have hx:Below u1.heap.size u1 we:=aF;have Dt:=zh (Bt HB.out hx);refine (O1.out _ _ _ (FA.out.later hx) (FI.out.later hx)).mono ?_;rintro e u2 ⟨rfl,h⟩;have hy:=Bt hx h;refine hJ _ _ h ?_;clear hJ J hbe hx h Dt;replace HX:=zh (HX.out.later hy);replace FA:=zh (FA.out.later hy);replace FI:=zh (FI.out.later hy);replace HB:=zh (Bt HB.out hy);replace sV:=zh (Bt sV.out hy);clear hy;have wN:=HX.out.cell;have wF:=HX.out.lt;refine zS ?_;clear wN wF;refine fM rfl rfl (fun we hbe J hJ=>?_);go_simp;have hx:Below u2.heap.size u2 we:=aF;have Dt:=zh (Bt HB.out hx);refine (jO _ _ zo zo).mono ?_;rintro e u3 ⟨vk,rfl,h,hm⟩;have hy:=Bt hx h;refine hJ _ _ h ?_;clear hJ J hbe hx h Dt;replace HX:=zh (HX.out.later hy);replace FA:=zh (FA.out.later hy);replace FI:=zh (FI.out.later hy);replace HB:=zh (Bt HB.out hy)
 replace sV:=zh (Bt sV.out hy);clear hy;have FK:=zh hm;clear hm;have wN:=HX.out.cell;have wF:=HX.out.lt;refine zS ?_;clear wN wF;refine fM rfl rfl (fun we hbe J hJ=>?_);go_simp;have hx:Below u3.heap.size u3 we:=aF;have Dt:=zh (Bt HB.out hx);refine (O2.out _ _ _ (FA.out.later hx) (FK.out.later hx)).mono ?_;rintro e u4 ⟨rfl,h⟩;have hy:=Bt hx h;refine hJ _ _ h ?_;clear hJ J hbe hx h Dt;replace HX:=zh (HX.out.later hy);replace FA:=zh (FA.out.later hy);replace FI:=zh (FI.out.later hy);replace FK:=zh (FK.out.later hy);replace HB:=zh (Bt HB.out hy);replace sV:=zh (Bt sV.out hy);clear hy;have wN:=HX.out.cell;have wF:=HX.out.lt;refine zS ?_;clear wN wF;refine nD (fun u5 hbf=>?_);have hy:Below u4.heap.size u4 u5:=aF;replace HX:=zh (HX.out.later hy);replace FA:=zh (FA.out.later hy);replace FI:=zh (FI.out.later hy);replace FK:=zh (FK.out.later hy)
 replace HB:=zh (Bt HB.out hy);clear hy hbf sV;obtain ⟨ws,EZ⟩:∃ y,y=u5:=⟨_,rfl⟩;have c0:=HX.out.cell;have l0:=HX.out.lt;rw [← EZ] at HX HB c0 l0 ⊢;clear EZ O1 O2 FA FI FK;go_wp2_with fail
 go_loopw [4,5] (fun nv iv wr=>∃ (q n:Int), -1≤q∧q<L∧iv= Z I q∧nv= Z I n∧Hid (n= -(val 10000 (l.drop (q+1).toNat):Int))∧wr=ws) (fun _ iv _=>(intOf iv+1).toNat)
 case atStart =>
  have e:((L:Int) - 1+1).toNat=l.length:=by have:=HL.out;omega
  exact ⟨(L:Int) - 1,0,by omega,by omega,by go_num,rfl,zh (by rw [e,List.drop_length];rfl),rfl⟩
 case round =>
  obtain ⟨q,n,hq1,hq2,rfl,rfl,HN,rfl⟩:=hrel
  by_cases hq:q<0
  ·obtain rfl:q= -1:=by omega
   have hn:n= -(z.natAbs:Int):=by have:=HN.out;rw [← Y6.out];simpa using this
   clear HN hq hq1 hq2
   rcases (show z<0∨0≤z by omega) with h0|h0
   ·have hb1:bA=true:=HBZ.out.trans (decide_eq_true h0);have hnz:n=z:=by omega
    subst hb1 hnz;go_wp2_with fail
    go_ret2
    exact ⟨rfl,HB.out⟩
   ·have hb1:bA=false:=HBZ.out.trans (decide_eq_false zo);have hnz:n= -z:=by omega
    subst hb1 hnz
    have hw:I.wrap (- -z)=z:=by
     have:=HZ0.out;rw [Int.neg_neg];unfold IntKind.wrap;simp [IntKind.bits,IntKind.signed];omega
    have hw2:wrap64 (z.natAbs:Int)=z:=by have:=HZ0.out;unfold wrap64;omega
    go_wp2_with fail
    go_ret2
    refine ⟨?_,HB.out⟩
    show Ending.returned (aG #[Z I (wrap64 _),Z I 0])=_
    rw [hw2]
  ·obtain ⟨k,rfl⟩:∃ k:Nat,q=(k:Int):=⟨q.toNat,by omega⟩;obtain ⟨b,off,e,h1,h2⟩:=K3.out k zo;have hcl:=(HB.out.cell (p:=⟨b,off+k,none⟩) h1).trans h2;have hst:=DK (l:=l) (k:=k) (by have:=HL.out;omega);have hle:=tH 10000 zo l k;have hv:=Y6.out;have hz0:=HZ0.out;have hn:=HN.out;rw [show ((k:Int)+1).toNat=k+1 by omega] at hn;obtain ⟨d,ed⟩:∃ d,l.getD k 0=d:=⟨_,rfl⟩;obtain ⟨m,em⟩:∃ m,val 10000 (l.drop (k+1))=m:=⟨_,rfl⟩;rw [ed,em] at hst;rw [ed] at hcl;rw [em] at hn;subst hn
   have hw1:I.wrap (-(m:Int)*10000)= -(m:Int)*10000:=by
    unfold IntKind.wrap;simp [IntKind.bits,IntKind.signed];omega
   have hw2:I.wrap (-(m:Int)*10000 - (d:Int))= -((d+10000*m:Nat):Int):=by
    unfold IntKind.wrap;simp [IntKind.bits,IntKind.signed];omega
   have HS:=zh hst;subst e;have hbl:=aI h1 HB.out.size;clear hst hle hv hz0 h1 h2 HN;go_wp2_with fail
   go_roundw
   case rel=>exact ⟨(k:Int) - 1,_,by omega,by omega,by go_num,rfl,zh (by rw [show ((k:Int) - 1+1).toNat=k by omega,HS.out];omega),trivial⟩
   case measure=>simp [intOf]<;>omega
theorem Ao (x:Value) (z:Int) (w:World) (hx:Pl w x z) (hs:sz 10000 z.natAbs≤549755813888) :
  Calls Tryz.prog 266 #[x] w (fun e w'=>e= aj (aG #[Z I (Ep z).1,Z I (Ep z).2])∧Below w.heap.size w w'):=by
 unfold Ep
 by_cases h: -9223372036854775808≤z∧z≤9223372036854775807
 ·rw [if_pos h];exact JA x z w hx hs h
 ·rw [if_neg h]
  by_cases h2:z< -9223372036854775808
  ·exact GU x z w hx hs h2
  ·exact Eo x z w hx hs zo
end Go.Proofs.aC
namespace Go.Proofs.aU
open Go Go.RowKit Go.SW Go.Num Go.Mem Go.Proofs Go.Dec Go.gD Go.Proofs.dH Go.Proofs.aH Go.Proofs.aC
theorem kV (lo hi:Int) (w:World):Calls Tryz.prog 164 #[au #[Z I lo,Z I hi]] w (fun e w'=>e= aj (ak (iG lo hi))∧Below w.heap.size w w'):=by
 unfold iG;cases h1:decide (-1000000000000000000≤lo)<;>cases h2:decide (lo≤hi)<;>cases h3:decide (hi≤1000000000000000000)
 all_goals
  go_enter Tryz.func164,Tryz.ntmps164
  go_wp2_with fail
  go_ret
  exact ⟨rfl,aF⟩
def un (n:Int):Rat:=(n:Rat) / ((1000000000000:Int):Rat)
theorem FP (n:Int) (h1: -9223372036854775808≤n) (h2:n≤9223372036854775807) (w:World):Calls Tryz.prog 216 #[Z I n] w (kS w (un n)):=by
 have H:=zh (fun W=>rz n 1000000000000 h1 h2 zo zo zo W);have e:((n:Rat) / ((1000000000000:Int):Rat))=un n:=rfl;rw [e] at H;generalize un n=q at *;go_enter Tryz.func216,Tryz.ntmps216
 go_wp2_with fail
 obtain ⟨lZ,EW,hz,X1⟩:=wR w #[ak false,ah none 0 0,ak false,ah none 0 0] 163;rw [EW];have hk2:=Bt (Below.refl _ _) hz;clear EW hz;refine (H.out _).mono ?_;rintro e oo ⟨v,rfl,hb3,hv4⟩;obtain ⟨bC,paC,lC,caC,bCd,aw4,lCd,aC2,rfl,hx4,hy4⟩:=id hv4;replace X1:=X1.bl hb3;have hk5:=Bt hk2 hb3;clear hk2;have QC:=zh hv4;clear hb3 hv4 hx4 hy4;obtain ⟨kZ,kY,ni⟩:=X1.clf;have hres:=X1.out;have Df:=hres.cell;have CV:=hres.free;go_wp2_with fail
 refine gF rfl rfl bf Tryz.underlying163 rfl zk ?_;exact ⟨_,rfl,aF,Ra.xH QC.out hres zd _ _ _ _⟩
def nG (a b:Rat):(Int × Int) × Int:=gT (VQ (a*((1000000000000:Int):Rat))) (-(VQ (-(b*((1000000000000:Int):Rat)))))
theorem an1:((1000000000000:Int):Rat) / ((1:Int):Rat)=((1000000000000:Int):Rat):=by decide+kernel
theorem Oh:jw 2 ((1000000000000:Int):Rat):=by constructor<;>decide+kernel
theorem UC {q:Rat} {k:Nat} (h:jw k q) (hk:k≤100000):sz 10000 (VQ q).natAbs≤549755813888:=by
 obtain ⟨s1,s2⟩:=jw.four h;have hd:=q.den_pos
 have h1:(VQ q).natAbs≤q.num.natAbs:=by
  unfold VQ;exact Int.natAbs_ediv_le_natAbs _ _
 exact ay (gu zo h1) zo
theorem Hy {X Y:Int} (h:X< -1000000000000000000∨1000000000000000000<Y∨Y<X):iG X Y=false:=by
 unfold iG
 rcases h with h|h|h
 ·rw [decide_eq_false (show ¬ -1000000000000000000≤X by omega)];rfl
 ·rw [decide_eq_false (show ¬ Y≤1000000000000000000 by omega)];simp
 ·rw [decide_eq_false (show ¬ X≤Y by omega)];simp
theorem Hz {X Y:Int} (h:iG X Y=true): -1000000000000000000≤X∧X≤Y∧Y≤1000000000000000000:=by
 unfold iG at h
 simpa using h
theorem Kw (x y:Value) (a b:Rat) (w:World) (hx:Ra w x a) (hy:Ra w y b) (h1:jw 1000 a) (h2:jw 1000 b) :
  Calls Tryz.prog 214 #[x,y] w (fun e w'=>e= aj (d9 (nG a b))∧Below w.heap.size w w'):=by
 obtain ⟨bA,kg,lA,kN,wP,lI,wG,lW,rfl, -⟩:=id hx;obtain ⟨bB,oq,lB,oz,R3,Av,RU,AO,rfl, -⟩:=id hy;have s1:=rH (h1.mono (show 1000≤1000 by omega)) (Oh.mono (show 2≤1000 by omega));have s2:=rH (h2.mono (show 1000≤1000 by omega)) (Oh.mono (show 2≤1000 by omega));have hQ:=zh (fun W=>(rz 1000000000000 1 zo zo zo zo zo W).mono fun _ _ q=>qz (an1 ▸ q));have T1:=zh (fun v v' W (h:Ra W v a) (h':Ra W v' ((1000000000000:Int):Rat))=>jm v v' a _ W h h' (h1.mono zo) (Oh.mono zo));have T2:=zh (fun v v' W (h:Ra W v b) (h':Ra W v' ((1000000000000:Int):Rat))=>jm v v' b _ W h h' (h2.mono zo) (Oh.mono zo));have D1:=zh (fun v W (h:Ra W v (a*((1000000000000:Int):Rat)))=>PG v _ W h (s1.mono zo));have D2:=zh (fun v W (h:Ra W v (-(b*((1000000000000:Int):Rat))))=>PG v _ W h ((uN s2).mono zo));have z1:=UC s1 zo
 have z2:=UC (uN s2) zo;unfold nG;generalize ((1000000000000:Int):Rat)=E at *;generalize VQ (a*E)=X at *;generalize VQ (-(b*E))=Y at *;have J1:=zh (fun v W (h:Pl W v X)=>Ao v X W h z1);have J2:=zh (fun v W (h:Pl W v Y)=>Ao v Y W h z2);obtain ⟨⟨X',e1⟩,EX⟩:∃ y,Ep X=y:=⟨_,rfl⟩;obtain ⟨⟨Y',e2⟩,EY⟩:∃ y,Ep Y=y:=⟨_,rfl⟩;rw [EX] at J1;rw [EY] at J2;have HEX:=zh EX;have HEY:=zh EY;have QA:=zh hx;have QB:=zh hy;clear hx hy h1 h2 s1 s2 z1 z2 EX EY;go_enter Tryz.func214,Tryz.ntmps214
 go_wp2_with fail
 obtain ⟨u0,EW,hz,HX,HY,HR⟩:=MW w #[ak bA,ah kg lA kN,ak wP,ah lI wG lW] 163 #[ak bB,ah oq lB oz,ak R3,ah Av RU AO] 163 #[Z I 0,Z I 0] 40;rw [EW];replace QA:=zh (QA.out.later hz);replace QB:=zh (QB.out.later hz);have HB:=zh hz;clear EW hz;refine (hQ.out _).mono ?_;rintro e u1 ⟨bO,paO,lO,caO,bOd,Tt,lOd,U6,rfl,h,hm⟩;replace HX:=zh (HX.out.later h);replace HY:=zh (HY.out.later h);replace HR:=zh (HR.out.later h);replace QA:=zh (QA.out.later h);replace QB:=zh (QB.out.later h);replace HB:=zh (Bt HB.out h);clear h;have QO:=zh hm;clear hm;have wN:=HX.out.cell;have wF:=HX.out.lt;go_wp2_with fail
 clear wN wF;obtain ⟨v1,EW,hz,HO⟩:=wR u1 #[ak bO,ah paO lO caO,ak bOd,ah Tt lOd U6] 163;rw [EW];obtain ⟨bq,ebq⟩:∃ y,u1.heap.size=y:=⟨_,rfl⟩;rw [ebq] at HO ⊢;clear EW ebq;replace HX:=zh (HX.out.later hz);replace HY:=zh (HY.out.later hz);replace HR:=zh (HR.out.later hz);replace QA:=zh (QA.out.later hz);replace QB:=zh (QB.out.later hz);replace QO:=zh (QO.out.later hz);replace HB:=zh (Bt HB.out hz);clear hz;refine (T1.out _ _ _ QA.out QO.out).mono ?_;rintro e u2 ⟨vt,rfl,h,hm⟩;replace HX:=zh (HX.out.later h);replace HY:=zh (HY.out.later h);replace HR:=zh (HR.out.later h);replace QA:=zh (QA.out.later h);replace QB:=zh (QB.out.later h);replace QO:=zh (QO.out.later h);replace HO:=zh (HO.out.later h);replace HB:=zh (Bt HB.out h);clear h;have FT:=zh hm;clear hm;go_wp2_with fail
 refine (D1.out _ _ FT.out).mono ?_;rintro e u3 ⟨vd,rfl,h,hm⟩;replace HX:=zh (HX.out.later h);replace HY:=zh (HY.out.later h);replace HR:=zh (HR.out.later h);replace QA:=zh (QA.out.later h);replace QB:=zh (QB.out.later h);replace QO:=zh (QO.out.later h);replace HO:=zh (HO.out.later h);replace FT:=zh (FT.out.later h);replace HB:=zh (Bt HB.out h);clear h;have FD:=zh hm;clear hm;go_wp2_with fail
 refine (J1.out _ _ FD.out).mono ?_;rintro e u4 ⟨rfl,h⟩;replace HX:=zh (HX.out.later h);replace HY:=zh (HY.out.later h);replace HR:=zh (HR.out.later h);replace QA:=zh (QA.out.later h);replace QB:=zh (QB.out.later h);replace QO:=zh (QO.out.later h);replace HO:=zh (HO.out.later h);replace FT:=zh (FT.out.later h);replace FD:=zh (FD.out.later h);replace HB:=zh (Bt HB.out h);clear h;have YX:=HY.out.cell;have YI:=HY.out.lt;have cHO:=HO.out.cell;have lHO:=HO.out.lt;go_wp2_with fail
 clear YX YI;clear cHO lHO;clear FT FD;refine (T2.out _ _ _ QB.out QO.out).mono ?_;rintro e u5 ⟨vt2,rfl,h,hm⟩;replace HX:=zh (HX.out.later h);replace HY:=zh (HY.out.later h);replace HR:=zh (HR.out.later h);replace QA:=zh (QA.out.later h);replace QB:=zh (QB.out.later h);replace QO:=zh (QO.out.later h);replace HO:=zh (HO.out.later h);replace HB:=zh (Bt HB.out h);clear h;have FT:=zh hm;clear hm;go_wp2_with fail
 refine (aH.vw _ _ _ FT.out).mono ?_;rintro e u6 ⟨vu,rfl,h,hm⟩;replace HX:=zh (HX.out.later h);replace HY:=zh (HY.out.later h);replace HR:=zh (HR.out.later h);replace QA:=zh (QA.out.later h);replace QB:=zh (QB.out.later h);replace QO:=zh (QO.out.later h);replace HO:=zh (HO.out.later h);replace FT:=zh (FT.out.later h);replace HB:=zh (Bt HB.out h);clear h;have FU:=zh hm;clear hm;go_wp2_with fail
 refine (D2.out _ _ FU.out).mono ?_;rintro e u7 ⟨vd2,rfl,h,hm⟩;replace HX:=zh (HX.out.later h);replace HY:=zh (HY.out.later h);replace HR:=zh (HR.out.later h);replace QA:=zh (QA.out.later h);replace QB:=zh (QB.out.later h);replace QO:=zh (QO.out.later h);replace HO:=zh (HO.out.later h);replace FT:=zh (FT.out.later h);replace FU:=zh (FU.out.later h);replace HB:=zh (Bt HB.out h);clear h;have FD:=zh hm;clear hm;go_wp2_with fail
 refine (J2.out _ _ FD.out).mono ?_;rintro e u8 ⟨rfl,h⟩;replace HX:=zh (HX.out.later h);replace HY:=zh (HY.out.later h);replace HR:=zh (HR.out.later h);replace QA:=zh (QA.out.later h);replace QB:=zh (QB.out.later h);replace QO:=zh (QO.out.later h);replace HO:=zh (HO.out.later h);replace FT:=zh (FT.out.later h);replace FU:=zh (FU.out.later h);replace FD:=zh (FD.out.later h);replace HB:=zh (Bt HB.out h);clear h;have hr:=HR.out;have cr:=hr.cell;have fr:=hr.free;have hb:=HB.out;have EX:=HEX.out;have EY:=HEY.out;unfold Ep at EX EY;clear HX HY HO QA QB QO FT FU FD HB HR T1 T2 D1 D2 J1 J2 hQ HEX HEY;have bad:iG X (-Y)=false→gT X (-Y)=((0,0),6):=fun h=>by unfold gT;rw [h];rfl
 have UH:∀ {r:(Int × Int) × Int},gT X (-Y)=r→gT X (-Y)=r:=fun h=>h
 by_cases gx: -9223372036854775808≤X∧X≤9223372036854775807
 ·rw [if_pos gx] at EX;simp only [gX] at EX;obtain ⟨rfl,rfl⟩:=EX
  by_cases gy: -9223372036854775808≤Y∧Y≤9223372036854775807
  ·rw [if_pos gy] at EY;simp only [gX] at EY;obtain ⟨rfl,rfl⟩:=EY
   by_cases g0:Y= -9223372036854775808
   ·subst g0;have hm:=bad (Hy zo);clear bad UH gx gy;go_wp2_with fail
    refine bH rfl rfl ((hr.set 0 _).set 1 _) Tryz.underlying40 rfl zk ?_;exact ⟨by rw [hm];rfl,(hb.setCell (p:=⟨w.heap.size+1+1,0,none⟩) (by show w.heap.size≤w.heap.size+1+1;omega) _).setCell (p:=⟨w.heap.size+1+1,1,none⟩) (by show w.heap.size≤w.heap.size+1+1;omega) _⟩
   ·have hy0:(Y == -9223372036854775808)=false:=by simpa using g0
    have hw:wrap64 (-Y)= -Y:=by unfold wrap64;omega
    have RT:=zh (fun W=>kV X (-Y) W);cases hbk:iG X (-Y)
    ·have hm:=bad hbk;rw [hbk] at RT;clear bad UH gx gy hbk;go_wp2_with fail
     refine (RT.out _).mono ?_;rintro e u9 ⟨rfl,h⟩;replace hr:=hr.later h;replace hb:=Bt hb h;clear cr fr h;have cr:=hr.cell;have fr:=hr.free;go_wp2_with fail
     refine bH rfl rfl ((hr.set 0 _).set 1 _) Tryz.underlying40 rfl zk ?_;exact ⟨by rw [hm];rfl,(hb.setCell (p:=⟨w.heap.size+1+1,0,none⟩) (by show w.heap.size≤w.heap.size+1+1;omega) _).setCell (p:=⟨w.heap.size+1+1,1,none⟩) (by show w.heap.size≤w.heap.size+1+1;omega) _⟩
    ·have hm:gT X (-Y)=((X, -Y),0):=by unfold gT;rw [hbk];rfl
     rw [hbk] at RT;clear bad UH gx gy hbk;go_wp2_with fail
     refine (RT.out _).mono ?_;rintro e u9 ⟨rfl,h⟩;replace hr:=hr.later h;replace hb:=Bt hb h;clear cr fr h;have cr:=hr.cell;have fr:=hr.free;go_wp2_with fail
     refine bH rfl rfl ((hr.set 0 _).set 1 _) Tryz.underlying40 rfl zk ?_;exact ⟨by rw [hm];rfl,(hb.setCell (p:=⟨w.heap.size+1+1,0,none⟩) (by show w.heap.size≤w.heap.size+1+1;omega) _).setCell (p:=⟨w.heap.size+1+1,1,none⟩) (by show w.heap.size≤w.heap.size+1+1;omega) _⟩
  ·rw [if_neg gy] at EY;simp only [gX] at EY;obtain ⟨rfl,rfl⟩:=EY;have hm:=bad (Hy zo);clear bad UH gx gy;go_wp2_with fail
   refine bH rfl rfl ((hr.set 0 _).set 1 _) Tryz.underlying40 rfl zk ?_;exact ⟨by rw [hm];rfl,(hb.setCell (p:=⟨w.heap.size+1+1,0,none⟩) (by show w.heap.size≤w.heap.size+1+1;omega) _).setCell (p:=⟨w.heap.size+1+1,1,none⟩) (by show w.heap.size≤w.heap.size+1+1;omega) _⟩
 ·rw [if_neg gx] at EX;simp only [gX] at EX;obtain ⟨rfl,rfl⟩:=EX;have hm:=bad (Hy zo);clear bad UH gx;go_wp2_with fail
  refine bH rfl rfl ((hr.set 0 _).set 1 _) Tryz.underlying40 rfl zk ?_;exact ⟨by rw [hm];rfl,(hb.setCell (p:=⟨w.heap.size+1+1,0,none⟩) (by show w.heap.size≤w.heap.size+1+1;omega) _).setCell (p:=⟨w.heap.size+1+1,1,none⟩) (by show w.heap.size≤w.heap.size+1+1;omega) _⟩
end Go.Proofs.aU
namespace Go.Proofs.aU
open Go Go.Num Go.gD Go.Proofs.dH Go.Proofs.aH
theorem zx (q:Rat):VQ q=q.floor:=(Rat.floor_def q).symm
theorem xQ (a b:Rat): -(a / b)= -a / b:=by rw [Rat.div_def,Rat.div_def,Rat.neg_mul]
theorem uW (n:Int) {d:Int} (hd:0<d):((n:Rat) / (d:Rat)).floor=n / d:=by
 have hd':(0:Rat)<(d:Rat):=by exact_mod_cast hd
 have key:∀ x:Int,x≤((n:Rat) / (d:Rat)).floor↔x≤n / d:=fun x=>by
  rw [Rat.le_floor_iff,Int.le_ediv_iff_mul_le hd];have e:(n:Rat) / (d:Rat)*(d:Rat)=(n:Rat):=Rat.div_mul_cancel (fun h=>by rw [h] at hd';exact absurd hd' zd)
  constructor
  ·intro h;have:=Rat.mul_le_mul_of_nonneg_right h (Rat.le_of_lt hd');rw [e] at this
   exact_mod_cast this
  ·intro h;refine Rat.le_of_mul_le_mul_right (c:=(d:Rat)) ?_ hd';rw [e]
   exact_mod_cast h
 exact Int.le_antisymm ((key _).1 (Int.le_refl _)) ((key _).2 (Int.le_refl _))
theorem PE:(0:Rat)<((1000000000000:Int):Rat):=by decide+kernel
theorem au6:((1000000000000:Int):Rat)≠0:=by decide+kernel
theorem PY (n:Int):un n*((1000000000000:Int):Rat)=(n:Rat):=by
 have:=au6;unfold un;generalize ((1000000000000:Int):Rat)=E at *
 grind
theorem xu (q:Rat):nG q q=gT (Gr (q.num*1000000000000) q.den false) (Gr (q.num*1000000000000) q.den true):=by
 have hd:(0:Int)<(q.den:Int):=by have:=q.den_pos;omega
 have hd0:((q.den:Int):Rat)≠0:=by
  have:(q.den:Int)≠0:=by omega
  exact_mod_cast this
 have e:q*((1000000000000:Int):Rat)=((q.num*1000000000000:Int):Rat) / ((q.den:Int):Rat):=by
  rw [Rat.intCast_mul];have h:=rU q;generalize ((1000000000000:Int):Rat)=E at *;generalize (q.num:Rat)=n at *;generalize ((q.den:Int):Rat)=d at *;rw [h]
  grind
 have e2: -(q*((1000000000000:Int):Rat))=((-(q.num*1000000000000):Int):Rat) / ((q.den:Int):Rat):=by
  rw [e,Rat.intCast_neg,xQ]
 unfold nG;rw [zx,zx,e2,e,uW _ hd,uW _ hd];rfl
def j6 (m:Rat):List Rat→Rat
 | []=>m
 | x::l=>j6 (if x<m then x else m) l
def iE (m:Rat):List Rat→Rat
 | []=>m
 | x::l=>iE (if m<x then x else m) l
theorem az0 (p q r s:Rat):(j6 p [q,r,s]=p∨j6 p [q,r,s]=q∨j6 p [q,r,s]=r∨j6 p [q,r,s]=s)∧j6 p [q,r,s]≤p∧j6 p [q,r,s]≤q∧j6 p [q,r,s]≤r∧j6 p [q,r,s]≤s:=by
 unfold j6 j6 j6 j6
 grind
theorem ao8 (p q r s:Rat):(iE p [q,r,s]=p∨iE p [q,r,s]=q∨iE p [q,r,s]=r∨iE p [q,r,s]=s)∧p≤iE p [q,r,s]∧q≤iE p [q,r,s]∧r≤iE p [q,r,s]∧s≤iE p [q,r,s]:=by
 unfold iE iE iE iE
 grind
theorem Ii {a b:Rat} (h:a≤b):(a*((1000000000000:Int):Rat)).floor≤(b*((1000000000000:Int):Rat)).floor:=Rat.floor_monotone (Rat.mul_le_mul_of_nonneg_right h (Rat.le_of_lt PE))
theorem Ij {a b:Rat} (h:a≤b): -((-(a*((1000000000000:Int):Rat))).floor)≤ -((-(b*((1000000000000:Int):Rat))).floor):=by
 have h2:=Rat.floor_monotone (Rat.neg_le_neg (Rat.mul_le_mul_of_nonneg_right h (Rat.le_of_lt PE)));omega
end Go.Proofs.aU
namespace Go.Proofs.aH
open Go Go.RowKit Go.SW Go.Num Go.Mem Go.Proofs Go.Dec Go.Proofs.aC Go.gD
theorem yJ {s:ByteArray} {b:Bool} (h:(whole s.data.toList).isSome=b) (hs:s.size≤4611686018427387904) (W:World) :
  Calls Tryz.prog 205 #[O s] W (fun e w'=>e= aj (ak b)∧Below W.heap.size W w') :=
 (aC.q9 s W hs).mono fun _ _ h'=>⟨h ▸ h'.1,h'.2 ▸ Below.refl _ _⟩
def Fits (a:Fr):Prop:=a.n.size≤4611686018427387904∧a.d.size≤4611686018427387904
theorem Qf {s t:ByteArray} (h:whole s.data.toList=none):rd ⟨s,t⟩=none:=by unfold rd;simp only [h]
theorem Qg {s t:ByteArray} (h:whole t.data.toList=none):rd ⟨s,t⟩=none:=by
 unfold rd;simp only [h];cases whole s.data.toList<;>rfl
theorem ZB {s t:ByteArray} {n d:Int} (h1:whole s.data.toList=some n) (h2:whole t.data.toList=some d):(rd ⟨s,t⟩).isSome=(decide (0<d)&&(Nat.gcd n.natAbs d.natAbs == 1)):=by
 unfold rd;simp only [h1,h2]
 by_cases h:0<d∧n.natAbs.Coprime d.natAbs
 ·rw [dif_pos h];rw [decide_eq_true h.1,show Nat.gcd n.natAbs d.natAbs=1 from h.2];rfl
 ·rw [dif_neg h];refine (Bool.eq_false_iff.2 fun e=>h ?_).symm;rw [aK,decide_eq_true_iff,beq_iff_eq] at e;exact e
theorem Bp {bs:List UInt8} {z:Int} (h:whole bs=some z):sz 10000 z.natAbs≤201:=by
 have h1:=kH (fK.2 (nE h).2);have:=BD h1;omega
theorem Jo:(Lib.itoa ((1:Nat):Int)).toArray=#[49]:=by decide+kernel
theorem toList_inj {a b:ByteArray} (h:a.toList=b.toList):a=b:=by
 rw [ByteArray.toList_eq,ByteArray.toList_eq] at h;exact Dk h
theorem WZ {g:Nat} (h:g≠1):((⟨(Lib.itoa (g:Int)).toArray⟩:ByteArray) == ⟨#[49]⟩)=false:=by
 rw [beq_toListBytes,beq_eq_false_iff_ne];intro e;have e:=toList_inj e;simp only [ByteArray.mk.injEq] at e;rw [← Jo] at e;have:=xV (List.toArray_inj e);omega
theorem aa0:((⟨(Lib.itoa ((1:Nat):Int)).toArray⟩:ByteArray) == ⟨#[49]⟩)=true:=by rw [Jo,beq_toListBytes];exact beq_self_eq_true _
theorem q9 (s t:ByteArray) (w:World) (h1:s.size≤4611686018427387904) (h2:t.size≤4611686018427387904) :
  Calls Tryz.prog 132 #[au #[O s,O t]] w (fun e w'=>e= aj (ak (rd ⟨s,t⟩).isSome)∧Below w.heap.size w w'):=by
 cases e1:whole s.data.toList with
 | none =>
  rw [Qf e1];have R1:=zh (fun W=>yJ (b:=false) (by rw [e1];rfl) h1 W);clear e1 h1 h2;go_enter Tryz.func132,Tryz.ntmps132
  go_wp2_with fail
  refine (R1.out _).mono ?_;rintro e w1 ⟨rfl,hb⟩;go_wp2_with fail
  go_ret
  exact ⟨rfl,Bt aF hb⟩
 | some n =>
  have R1:=zh (fun W=>yJ (b:=true) (by rw [e1];rfl) h1 W);cases e2:whole t.data.toList with
  | none =>
   rw [Qg e2];have R2:=zh (fun W=>yJ (b:=false) (by rw [e2];rfl) h2 W);have h0:Below w.heap.size w (w.alloc (.cells #[O s,O t] 32)):=aF;have hx:=aA.new w #[O s,O t] 32;clear e1 h1 h2 e2;go_enter Tryz.func132,Tryz.ntmps132
   go_wp2_with fail
   refine (R1.out _).mono ?_;rintro e w1 ⟨rfl,hb⟩;have cx:=(hx.later hb).cell;have lx:=(hx.later hb).lt;go_wp2_with fail
   refine (R2.out _).mono ?_;rintro e w2 ⟨rfl,hb2⟩;go_wp2_with fail
   go_ret
   exact ⟨rfl,Bt (Bt h0 hb) hb2⟩
  | some d =>
   have R2:=zh (fun W=>yJ (b:=true) (by rw [e2];rfl) h2 W);rw [ZB e1 e2];have I1:=zh (fun W=>aC.FW s n W e1);have I2:=zh (fun W=>aC.FW t d W e2);have K1:=zh (ay (Bp e1) (show 201≤274877906944 by omega));have K2:=zh (ay (Bp e2) (show 201≤274877906944 by omega))
   have hg:0<d→sz 10000 ((Nat.gcd n.natAbs d.natAbs:Nat):Int).natAbs≤1073741824:=fun h=>by
    rw [Int.natAbs_natCast];have h3:=gu (B:=10000) zo (Nat.le_of_dvd (by omega:0<d.natAbs) (Nat.gcd_dvd_right n.natAbs d.natAbs));have h4:=Bp e2;omega
   have DV:=zh (fun x y W hx hy=>wX x y n d W hx hy K1.out K2.out);generalize Nat.gcd n.natAbs d.natAbs=g at *
   rcases Int.lt_trichotomy d 0 with hd|hd|hd
   ·have HD:=zh hd;rw [decide_eq_false (show ¬ 0<d by omega),Bool.false_and];clear e1 e2 h1 h2 hg hd;go_enter Tryz.func132,Tryz.ntmps132
    go_wp2_with fail
    obtain ⟨lZ,EW,hz,X1⟩:=wR w #[O s,O t] 32;rw [EW];have hk2:=Bt (Below.refl _ _) hz;clear EW hz;refine (R1.out _).mono ?_;rintro e oo ⟨rfl,hb3⟩;replace X1:=X1.bl hb3;have hk5:=Bt hk2 hb3;clear hk2;clear hb3;obtain ⟨kZ,kY,ni⟩:=X1.clf;go_wp2_with fail
    clear kZ kY ni;refine (R2.out _).mono ?_;rintro e vI ⟨rfl,hb6⟩;replace X1:=X1.bl hb6;have JG:=Bt hk5 hb6;clear hk5;clear hb6;go_wp2_with fail
    obtain ⟨kZ,kY,ni⟩:=X1.clf;refine aJ [(.pure,0),(.read,1),(.pure,3),(.read,4),(.ext,2),(.ext,5),(.alloc #[ak false,ah none 0 0] 161,6),(.alloc #[ak false,ah none 0 0] 161,7),(.fin,8),(.fin,9)] zk zk zR zP ?_;refine zV ?_;refine aS rfl rfl (fun DI sZ J hJ=>?_);go_simp;have nJ:Below vI.heap.size vI DI:=aF;clear sZ;refine (I1.out _).mono ?_;rintro e lg ⟨v,rfl,jF,qD⟩;obtain ⟨bA,kg,lA,kN,rfl⟩:=qD.agg;refine hJ _ _ jF ?_;clear hJ J;have pG:=Bt nJ jF;clear nJ jF qD;refine zV ?_;refine aS rfl rfl (fun PU Uu J hJ=>?_);go_simp;have hh12:Below vI.heap.size vI PU:=Bt pG aF;clear Uu pG;refine (I2.out _).mono ?_;rintro e PV ⟨v,rfl,Ay,hv⟩;obtain ⟨bB,oq,lB,oz,rfl⟩:=hv.agg;have hb1:bB=true:=hv.nm.2.trans (decide_eq_true HD.out);subst hb1;refine hJ _ _ Ay ?_;clear hJ J;have Ct:=Bt hh12 Ay
    clear hh12 Ay hv;refine zV ?_;refine eX rfl (fun sQ al9 JD kL yc CG jE=>?_);go_simp;replace jE:aA _ _ _ _:=jE;have CB:w.heap.size≤sQ:=(by first|omega|exact ay (Below.size (B:=w.heap.size) aF) kL);refine eX rfl (fun qZ al8 Ac kK xZ uq mU=>?_);go_simp;replace mU:aA _ _ _ _:=mU;have Cz:w.heap.size≤qZ:=(by first|omega|exact ay (Below.size (B:=w.heap.size) aF) kK);replace jE:=aA.later jE Ac;have hne:sQ≠qZ:=fun h=>uq (by simp [h]);have hne2:qZ≠sQ:=fun h=>hne h.symm;refine dA [_,_] rfl (fun DF Cu=>?_);have Cr:Below vI.heap.size vI DF:=Bt Ct aF;have hq0:=jE.later Cu;have U0:=hq0.cell;have UA:=hq0.free;have hq1:=mU.later Cu;have XM:=hq1.cell;have Xx:=hq1.free;clear jE mU Cu Ct;clear kZ kY ni
    go_wp2_with fail
    obtain ⟨Ga,EW⟩:∃ y,((((DF.setCell ⟨sQ,0,none⟩ (ak bA)).setCell ⟨sQ,1,none⟩ (ah kg lA kN)).setCell ⟨qZ,0,none⟩ (ak true)).setCell ⟨qZ,1,none⟩ (ah oq lB oz))=y:=⟨_,rfl⟩;have hz:Below vI.heap.size vI Ga:=by rw [← EW];exact ((((Cr.setCell kL _).setCell kL _).setCell kK _).setCell kK _)
    have X3:Hid (aA Ga qZ #[ak true,ah oq lB oz] 161):=zh (by rw [← EW];exact ((((hq1.setOther _ (by first|exact hne|exact hne2)).setOther _ (by first|exact hne|exact hne2)).set 0 _).set 1 _));rw [EW];clear EW hq0 U0 UA hq1 XM Xx Cr;replace X1:=X1.bl hz;have QK:=Bt JG hz;clear JG;clear hz;clear JD CG uq CB Cz Ac;have Uq:=kL;have Uo:=kK;clear kL kK yc xZ;go_wp2_with fail
    go_ret
    exact ⟨rfl,QK⟩
   ·have HD:=zh hd;rw [decide_eq_false (show ¬ 0<d by omega),Bool.false_and];clear e1 e2 h1 h2 hg hd;go_enter Tryz.func132,Tryz.ntmps132
    go_wp2_with fail
    obtain ⟨lZ,EW,hz,X1⟩:=wR w #[O s,O t] 32;rw [EW];have hk2:=Bt (Below.refl _ _) hz;clear EW hz;refine (R1.out _).mono ?_;rintro e oo ⟨rfl,hb3⟩;replace X1:=X1.bl hb3;have hk5:=Bt hk2 hb3;clear hk2;clear hb3;obtain ⟨kZ,kY,ni⟩:=X1.clf;go_wp2_with fail
    clear kZ kY ni;refine (R2.out _).mono ?_;rintro e vI ⟨rfl,hb6⟩;replace X1:=X1.bl hb6;have JG:=Bt hk5 hb6;clear hk5;clear hb6;go_wp2_with fail
    obtain ⟨kZ,kY,ni⟩:=X1.clf;refine aJ [(.pure,0),(.read,1),(.pure,3),(.read,4),(.ext,2),(.ext,5),(.alloc #[ak false,ah none 0 0] 161,6),(.alloc #[ak false,ah none 0 0] 161,7),(.fin,8),(.fin,9)] zk zk zR zP ?_;refine zV ?_;refine aS rfl rfl (fun DI sZ J hJ=>?_);go_simp;have nJ:Below vI.heap.size vI DI:=aF;clear sZ;refine (I1.out _).mono ?_;rintro e lg ⟨v,rfl,jF,qD⟩;obtain ⟨bA,kg,lA,kN,rfl⟩:=qD.agg;refine hJ _ _ jF ?_;clear hJ J;have pG:=Bt nJ jF;clear nJ jF qD;refine zV ?_;refine aS rfl rfl (fun PU Uu J hJ=>?_);go_simp;have hh12:Below vI.heap.size vI PU:=Bt pG aF;clear Uu pG;refine (I2.out _).mono ?_;rintro e PV ⟨v,rfl,Ay,hv⟩;obtain ⟨bB,oq,lB,oz,rfl⟩:=hv.agg;have hb1:bB=false:=hv.nm.2.trans (decide_eq_false (by have:=HD.out;omega));subst hb1;have hl0:lB=0:=hv.nm.1.ZY (by have:=HD.out;omega)
    subst hl0;refine hJ _ _ Ay ?_;clear hJ J;have Ct:=Bt hh12 Ay;clear hh12 Ay hv;refine zV ?_;refine eX rfl (fun sQ al9 JD kL yc CG jE=>?_);go_simp;replace jE:aA _ _ _ _:=jE;have CB:w.heap.size≤sQ:=(by first|omega|exact ay (Below.size (B:=w.heap.size) aF) kL);refine eX rfl (fun qZ al8 Ac kK xZ uq mU=>?_);go_simp;replace mU:aA _ _ _ _:=mU;have Cz:w.heap.size≤qZ:=(by first|omega|exact ay (Below.size (B:=w.heap.size) aF) kK);replace jE:=aA.later jE Ac;have hne:sQ≠qZ:=fun h=>uq (by simp [h]);have hne2:qZ≠sQ:=fun h=>hne h.symm;refine dA [_,_] rfl (fun DF Cu=>?_);have Cr:Below vI.heap.size vI DF:=Bt Ct aF;have hq0:=jE.later Cu;have U0:=hq0.cell;have UA:=hq0.free
    have hq1:=mU.later Cu;have XM:=hq1.cell;have Xx:=hq1.free;clear jE mU Cu Ct;clear kZ kY ni;go_wp2_with fail
    obtain ⟨Ga,EW⟩:∃ y,((((DF.setCell ⟨sQ,0,none⟩ (ak bA)).setCell ⟨sQ,1,none⟩ (ah kg lA kN)).setCell ⟨qZ,0,none⟩ (ak false)).setCell ⟨qZ,1,none⟩ (ah oq 0 oz))=y:=⟨_,rfl⟩;have hz:Below vI.heap.size vI Ga:=by rw [← EW];exact ((((Cr.setCell kL _).setCell kL _).setCell kK _).setCell kK _)
    have X3:Hid (aA Ga qZ #[ak false,ah oq 0 oz] 161):=zh (by rw [← EW];exact ((((hq1.setOther _ (by first|exact hne|exact hne2)).setOther _ (by first|exact hne|exact hne2)).set 0 _).set 1 _));rw [EW];clear EW hq0 U0 UA hq1 XM Xx Cr;replace X1:=X1.bl hz;have QK:=Bt JG hz;clear JG;clear hz;clear JD CG uq CB Cz Ac;have Uq:=kL;have Uo:=kK;clear kL kK yc xZ;go_wp2_with fail
    go_ret
    exact ⟨rfl,QK⟩
   ·have HD:=zh hd;have HG:=zh (hg hd);have TX:=zh (fun x W hx=>Po x (g:Int) W hx HG.out);obtain ⟨b,hb⟩:∃ b,(decide (0<d)&&(g == 1))=b:=⟨_,rfl⟩
    have hT:((⟨(Lib.itoa (g:Int)).toArray⟩:ByteArray) == ⟨#[49]⟩)=b:=by
     rw [← hb,decide_eq_true hd,Bool.true_and]
     by_cases h:g=1
     ·rw [h];exact aa0
     ·rw [WZ h];exact (beq_eq_false_iff_ne.2 h).symm
    rw [hb];rw [beq_toListBytes,ByteArray.toList_eq (⟨#[49]⟩:ByteArray)] at hT;replace hT:((⟨(Lib.itoa (g:Int)).toArray⟩:ByteArray).toList == [49])=b:=hT;generalize (⟨(Lib.itoa (g:Int)).toArray⟩:ByteArray)=T at *;clear e1 e2 h1 h2 hg hd hb;go_enter Tryz.func132,Tryz.ntmps132
    go_wp2_with fail
    obtain ⟨lZ,EW,hz,X1⟩:=wR w #[O s,O t] 32;rw [EW];have hk2:=Bt (Below.refl _ _) hz;clear EW hz;refine (R1.out _).mono ?_;rintro e oo ⟨rfl,hb3⟩;replace X1:=X1.bl hb3;have hk5:=Bt hk2 hb3;clear hk2;clear hb3;obtain ⟨kZ,kY,ni⟩:=X1.clf;go_wp2_with fail
    clear kZ kY ni;refine (R2.out _).mono ?_;rintro e vI ⟨rfl,hb6⟩;replace X1:=X1.bl hb6;have JG:=Bt hk5 hb6;clear hk5;clear hb6;go_wp2_with fail
    obtain ⟨kZ,kY,ni⟩:=X1.clf;refine aJ [(.pure,0),(.read,1),(.pure,3),(.read,4),(.ext,2),(.ext,5),(.alloc #[ak false,ah none 0 0] 161,6),(.alloc #[ak false,ah none 0 0] 161,7),(.fin,8),(.fin,9)] zk zk zR zP ?_;refine zV ?_;refine aS rfl rfl (fun DI sZ J hJ=>?_);go_simp;have nJ:Below vI.heap.size vI DI:=aF;clear sZ;refine (I1.out _).mono ?_;rintro e lg ⟨v,rfl,jF,qD⟩;obtain ⟨bA,kg,lA,kN,rfl⟩:=qD.agg;refine hJ _ _ jF ?_;clear hJ J;have pG:=Bt nJ jF;have NA:=zh qD;clear nJ jF qD;refine zV ?_;refine aS rfl rfl (fun PU Uu J hJ=>?_);go_simp;have hh12:Below vI.heap.size vI PU:=Bt pG aF;replace NA:=zh (NA.out.later (show Below lg.heap.size lg PU from aF));clear Uu pG;refine (I2.out _).mono ?_;rintro e PV ⟨v,rfl,Ay,hv⟩;obtain ⟨bB,oq,lB,oz,rfl⟩:=hv.agg
    have hb1:bB=false:=hv.nm.2.trans (decide_eq_false (by have:=HD.out;omega));subst hb1;have hl0:0<lB:=hv.nm.1.ZX (by have:=HD.out;omega);refine hJ _ _ Ay ?_;clear hJ J;have Ct:=Bt hh12 Ay;replace NA:=zh (NA.out.later Ay);have NB:=zh hv;clear hh12 Ay hv;refine zV ?_;refine eX rfl (fun sQ al9 JD kL yc CG jE=>?_);go_simp;replace jE:aA _ _ _ _:=jE;have CB:w.heap.size≤sQ:=(by first|omega|exact ay (Below.size (B:=w.heap.size) aF) kL);refine eX rfl (fun qZ al8 Ac kK xZ uq mU=>?_);go_simp;replace mU:aA _ _ _ _:=mU;have Cz:w.heap.size≤qZ:=(by first|omega|exact ay (Below.size (B:=w.heap.size) aF) kK);replace jE:=aA.later jE Ac;have hne:sQ≠qZ:=fun h=>uq (by simp [h]);have hne2:qZ≠sQ:=fun h=>hne h.symm
    refine dA [_,_] rfl (fun DF Cu=>?_);replace NA:=zh (NA.out.later (show Below PV.heap.size PV DF from aF));replace NB:=zh (NB.out.later (show Below PV.heap.size PV DF from aF));have Cr:Below vI.heap.size vI DF:=Bt Ct aF;have hq0:=jE.later Cu;have U0:=hq0.cell;have UA:=hq0.free;have hq1:=mU.later Cu;have XM:=hq1.cell;have Xx:=hq1.free;clear jE mU Cu Ct;clear kZ kY ni;go_wp2_with fail
    obtain ⟨Ga,EW⟩:∃ y,((((DF.setCell ⟨sQ,0,none⟩ (ak bA)).setCell ⟨sQ,1,none⟩ (ah kg lA kN)).setCell ⟨qZ,0,none⟩ (ak false)).setCell ⟨qZ,1,none⟩ (ah oq lB oz))=y:=⟨_,rfl⟩;have hz:Below vI.heap.size vI Ga:=by rw [← EW];exact ((((Cr.setCell kL _).setCell kL _).setCell kK _).setCell kK _)
    have X2:Hid (aA Ga sQ #[ak bA,ah kg lA kN] 161):=zh (by rw [← EW];exact ((((hq0.set 0 _).set 1 _).setOther _ (by first|exact hne|exact hne2)).setOther _ (by first|exact hne|exact hne2)));have X3:Hid (aA Ga qZ #[ak false,ah oq lB oz] 161):=zh (by rw [← EW];exact ((((hq1.setOther _ (by first|exact hne|exact hne2)).setOther _ (by first|exact hne|exact hne2)).set 0 _).set 1 _));have t:=((((NA.out.setOther hq0 zd 0 (ak bA)).setOther (hq0.set 0 _) zd 1 (ah kg lA kN)).setOther ((hq1.setOther _ (by first|exact hne|exact hne2)).setOther _ (by first|exact hne|exact hne2)) zd 0 (ak false)).setOther (((hq1.setOther _ (by first|exact hne|exact hne2)).setOther _ (by first|exact hne|exact hne2)).set 0 _) zd 1 (ah oq lB oz));rw [EW] at t;replace NA:=zh t;clear t
    have t:=((((NB.out.setOther hq0 zd 0 (ak bA)).setOther (hq0.set 0 _) zd 1 (ah kg lA kN)).setOther ((hq1.setOther _ (by first|exact hne|exact hne2)).setOther _ (by first|exact hne|exact hne2)) zd 0 (ak false)).setOther (((hq1.setOther _ (by first|exact hne|exact hne2)).setOther _ (by first|exact hne|exact hne2)).set 0 _) zd 1 (ah oq lB oz));rw [EW] at t;replace NB:=zh t;clear t;rw [EW];clear EW hq0 U0 UA hq1 XM Xx Cr;replace X1:=X1.bl hz;have QK:=Bt JG hz;clear JG;clear hz;clear JD CG uq CB Cz Ac;have Uq:=kL;have Uo:=kK;clear kL kK yc xZ;go_wp2_with fail
    refine (DV.out _ _ _ NA.out NB.out).mono ?_;rintro e Sd ⟨v,rfl,Cy,Ml⟩;obtain ⟨bC,paC,lC,caC,rfl⟩:=Ml.agg;clear X1;replace X2:=X2.bl Cy;replace X3:=X3.bl Cy;replace NA:=zh (NA.out.later Cy);replace NB:=zh (NB.out.later Cy);have ao6:=Bt QK Cy;clear QK;have NC:=zh Ml;clear Cy Ml;go_wp2_with fail
    refine (TX.out _ _ NC.out).mono ?_;rintro e aK3 ⟨rfl,Cw⟩;replace X2:=X2.bl Cw;replace X3:=X3.bl Cw;replace NA:=zh (NA.out.later Cw);replace NB:=zh (NB.out.later Cw);replace NC:=zh (NC.out.later Cw);have aA4:=Bt ao6 Cw;clear ao6;clear Cw;go_wp2_with fail
    go_ret
    exact ⟨rfl,aA4⟩
theorem je {a:Fr} {b:Bool} (h:(rd a).isSome=b) (hf:Fits a) (W:World):Calls Tryz.prog 132 #[a.v] W (fun e w'=>e= aj (ak b)∧Below W.heap.size W w') :=
 h ▸ q9 a.n a.d W hf.1 hf.2
theorem iT (a:Fr) (w:World) (hf:Fits a):Calls Tryz.prog 169 #[a.v] w (fun e w'=>e= aj (Z I (Ak a))∧Below w.heap.size w w'):=by
 unfold Ak;cases h:(rd a).isSome with
 | true =>
  have R:=fun W=>je h hf W;refine Fx.door Tryz.func169 rfl (.nil w []) ?_;refine Fx.new [] 1 #[O a.n,O a.d] 32 [] [] fun gM=>?_;refine Fx.dD [3] 4 [] [] R ?_;exact Fx.qP [2] [] (fun W M=>⟨rfl,M.below⟩)
 | false =>
  have R:=fun W=>je h hf W;refine Fx.door Tryz.func169 rfl (.nil w []) ?_;refine Fx.new [] 1 #[O a.n,O a.d] 32 [] [] fun gM=>?_;refine Fx.dD [3] 4 [] [] R ?_;exact Fx.qP [1] [] (fun W M=>⟨rfl,M.below⟩)
theorem Te {s t:ByteArray} {q:Rat} (h:rd ⟨s,t⟩=some q):whole s.data.toList=some q.num∧whole t.data.toList=some (q.den:Int):=by
 unfold rd at h;split at h
 ·rename_i n d e1 e2;split at h
  ·rename_i hk;simp only [Option.some.injEq] at h;subst h;refine ⟨e1,e2.trans ?_⟩
   congr 1
   have:=hk.1
   show d=((d.natAbs:Nat):Int)
   omega
  ·cases h
 ·cases h
theorem FW (s t:ByteArray) (q:Rat) (w:World) (h:rd ⟨s,t⟩=some q):Calls Tryz.prog 135 #[au #[O s,O t]] w (kS w q):=by
 obtain ⟨e1,e2⟩:=Te h;have I1:=fun W=>(aC.FW s q.num W e1).mono fun _ _ q=>Qk q;have I2:=fun W=>(aC.FW t (q.den:Int) W e2).mono fun _ _ q=>Qk q;refine Fx.door Tryz.func135 rfl (.nil w []) ?_;have B0:=Fx.Dv.nil w;refine Fx.new [] 1 #[O s,O t] 32 [] [] fun gM=>?_;refine Fx.aY [] 2 163 [] [] fun gI=>?_;refine Fx.draw [] [0,1,3,4,2,5,6,7] [] [] [] ?_;refine Fx.iR [3,3] 5 [(7,O t)] [] (fun W M=>I1 _) ?_;rintro W w3 e M ⟨b1,p1,l1,c1,rfl,D3,Q1⟩;refine ⟨D3,fun M3=>?_⟩;have B3:=B0.next M3
 refine Fx.iR [] 8 [] [] (fun W M=>I2 _) ?_;rintro W w4 e M ⟨b2,p2,l2,c2,rfl,D4,Q2⟩;refine ⟨D4,fun M4=>?_⟩;replace Q1:=Q1.keep (M3.keep M4);have B4:=B3.next M4
 exact Fx.iC (cs:=#[ak b1,ah p1 l1 c1,ak b2,ah p2 l2 c2]) 1 gI [4] [(1,#[ak b1,ah p1 l1 c1,ak b2,ah p2 l2 c2])] (fun W M=>by have HB:=(B4.at M);exact ⟨_,rfl,HB,_,_,_,_,_,_,_,_,rfl,(Q1.keep (M4.keep M)),(Q2.keep (M4.keep M))⟩)
end Go.Proofs.aH
