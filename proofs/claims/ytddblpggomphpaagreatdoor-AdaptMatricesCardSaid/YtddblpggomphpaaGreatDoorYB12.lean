/- Lemmas for the proof. No condition. -/
import Derived.Test.YtddblpggomphpaaGreatDoorYB01
import Derived.Test.YtddblpggomphpaaGreatDoorYB07
import Derived.Test.YtddblpggomphpaaGreatDoorYB09
import Derived.Test.YtddblpggomphpaaGreatDoorYB11
import Derived.Laws.StructEq
set_option linter.unusedVariables false
set_option linter.unusedSimpArgs false
set_option maxRecDepth 100000
set_option maxHeartbeats 16000000
namespace Go.Proofs.aH
open Go Go.RowKit Go.SW Go.Num Go.Mem Go.Proofs Go.Dec Go.Proofs.aF Go.dx
theorem xA {s:ByteArray} {b:Bool} (h:(whole s.data.toList).isSome=b) (hs:s.size≤4611686018427387904) (W:World) :
  Calls Tryz.prog 196 #[.string s] W (fun e w'=>e= .returned (.bool b)∧Below W.heap.size W w') :=
 (aF.oG s W hs).mono fun _ _ h'=>⟨h ▸ h'.1,h'.2 ▸ Below.refl _ _⟩
def Fits (a:Fr):Prop:=a.n.size≤4611686018427387904∧a.d.size≤4611686018427387904
theorem Oy {s t:ByteArray} (h:whole s.data.toList=none):rd ⟨s,t⟩=none:=by unfold rd;simp only [h]
theorem Oz {s t:ByteArray} (h:whole t.data.toList=none):rd ⟨s,t⟩=none:=by
 unfold rd
 simp only [h]
 cases whole s.data.toList<;>rfl
theorem YN {s t:ByteArray} {n d:Int} (h1:whole s.data.toList=some n) (h2:whole t.data.toList=some d):(rd ⟨s,t⟩).isSome=(decide (0<d)&&(Nat.gcd n.natAbs d.natAbs == 1)):=by
 unfold rd
 simp only [h1,h2]
 by_cases h:0<d∧n.natAbs.Coprime d.natAbs
 ·rw [dif_pos h]
  rw [decide_eq_true h.1,show Nat.gcd n.natAbs d.natAbs=1 from h.2]
  rfl
 ·rw [dif_neg h]
  refine (Bool.eq_false_iff.2 fun e=>h ?_).symm
  rw [Bool.and_eq_true,decide_eq_true_iff,beq_iff_eq] at e
  exact e
theorem Ac {bs:List UInt8} {z:Int} (h:whole bs=some z):sz 10000 z.natAbs≤201:=by
 have h1:=vI (eX.2 (nV h).2)
 have:=vw h1
 omega
theorem Ie:(Lib.itoa ((1:Nat):Int)).toArray=#[49]:=by decide+kernel
theorem toList_inj {a b:ByteArray} (h:a.toList=b.toList):a=b:=by
 rw [ByteArray.toList_eq,ByteArray.toList_eq] at h
 exact BI h
theorem Vs {g:Nat} (h:g≠1):((⟨(Lib.itoa (g:Int)).toArray⟩:ByteArray) == ⟨#[49]⟩)=false:=by
 rw [beq_toListBytes,beq_eq_false_iff_ne]
 intro e
 have e:=toList_inj e
 simp only [ByteArray.mk.injEq] at e
 rw [← Ie] at e
 have:=Iq (List.toArray_inj e)
 omega
theorem Zn:((⟨(Lib.itoa ((1:Nat):Int)).toArray⟩:ByteArray) == ⟨#[49]⟩)=true:=by rw [Ie,beq_toListBytes];exact beq_self_eq_true _
theorem oG (s t:ByteArray) (w:World) (h1:s.size≤4611686018427387904) (h2:t.size≤4611686018427387904) :
  Calls Tryz.prog 149 #[.agg #[.string s,.string t]] w (fun e w'=>e= .returned (.bool (rd ⟨s,t⟩).isSome)∧Below w.heap.size w w'):=by
 cases e1:whole s.data.toList with
 | none =>
  rw [Oy e1]
  have R1:=zh (fun W=>xA (b:=false) (by rw [e1];rfl) h1 W)
  clear e1 h1 h2
  go_enter Tryz.func149,Tryz.ntmps149
  go_wp2_with fail
  refine (R1.out _).mono ?_
  rintro e w1 ⟨rfl,hb⟩
  go_wp2_with fail
  go_ret
  exact ⟨rfl,Bt aA hb⟩
 | some n =>
  have R1:=zh (fun W=>xA (b:=true) (by rw [e1];rfl) h1 W)
  cases e2:whole t.data.toList with
  | none =>
   rw [Oz e2]
   have R2:=zh (fun W=>xA (b:=false) (by rw [e2];rfl) h2 W)
   have h0:Below w.heap.size w (w.alloc (.cells #[.string s,.string t] 36)):=aA
   have hx:=au.new w #[.string s,.string t] 36
   clear e1 h1 h2 e2
   go_enter Tryz.func149,Tryz.ntmps149
   go_wp2_with fail
   refine (R1.out _).mono ?_
   rintro e w1 ⟨rfl,hb⟩
   have cx:=(hx.later hb).cell
   have lx:=(hx.later hb).lt
   go_wp2_with fail
   refine (R2.out _).mono ?_
   rintro e w2 ⟨rfl,hb2⟩
   go_wp2_with fail
   go_ret
   exact ⟨rfl,Bt (Bt h0 hb) hb2⟩
  | some d =>
   have R2:=zh (fun W=>xA (b:=true) (by rw [e2];rfl) h2 W)
   rw [YN e1 e2]
   have I1:=zh (fun W=>aF.tV s n W e1)
   have I2:=zh (fun W=>aF.tV t d W e2)
   have K1:=zh (Nat.le_trans (Ac e1) (show 201≤274877906944 by omega))
   have K2:=zh (Nat.le_trans (Ac e2) (show 201≤274877906944 by omega))
   have hg:0<d→sz 10000 ((Nat.gcd n.natAbs d.natAbs:Nat):Int).natAbs≤1073741824:=fun h=>by
    rw [Int.natAbs_natCast]
    have h3:=iH (B:=10000) zo (Nat.le_of_dvd (by omega:0<d.natAbs) (Nat.gcd_dvd_right n.natAbs d.natAbs))
    have h4:=Ac e2
    omega
   have DV:=zh (fun x y W hx hy=>vV x y n d W hx hy K1.out K2.out)
   generalize Nat.gcd n.natAbs d.natAbs=g at *
   rcases Int.lt_trichotomy d 0 with hd|hd|hd
   ·have HD:=zh hd
    rw [decide_eq_false (show ¬ 0<d by omega),Bool.false_and]
    clear e1 e2 h1 h2 hg hd
    go_enter Tryz.func149,Tryz.ntmps149
    go_wp2_with fail
    have hz:Below w.heap.size w (w.alloc (.cells #[.string s,.string t] 36)):=aA
    obtain ⟨aO,EW⟩:∃ y,(w.alloc (.cells #[.string s,.string t] 36))=y:=⟨_,rfl⟩
    have X1:Hid (au aO (w.heap.size) #[.string s,.string t] 36):=zh (by rw [← EW];exact au.new _ _ _)
    rw [EW] at hz ⊢
    have hk2:=Bt (Below.refl _ _) hz
    clear EW hz
    refine (R1.out _).mono ?_
    rintro e fM ⟨rfl,hb3⟩
    replace X1:=zh (X1.out.later hb3)
    have hk5:=Bt hk2 hb3
    clear hk2
    clear hb3
    have eP:=X1.out.cell;have eO:=X1.out.lt;have fU:=X1.out.free
    go_wp2_with fail
    clear eP eO fU
    refine (R2.out _).mono ?_
    rintro e iC ⟨rfl,hb6⟩
    replace X1:=zh (X1.out.later hb6)
    have oI:=Bt hk5 hb6
    clear hk5
    clear hb6
    go_wp2_with fail
    have eP:=X1.out.cell;have eO:=X1.out.lt;have fU:=X1.out.free
    refine aC [(.pure,0),(.read,1),(.pure,3),(.read,4),(.ext,2),(.ext,5),(.alloc #[.bool false,.slice none 0 0] 150,6),(.alloc #[.bool false,.slice none 0 0] 150,7),(.fin,8),(.fin,9)] zk zk zR zP ?_
    repeat (first|(refine ah rfl rfl fun J h=>?_;go_simp;refine h _ ?_;clear h J)|(refine aB rfl rfl rfl rfl fun J h=>?_;go_simp;refine h _ ?_;clear h J;try go_simp))
    refine aD rfl rfl (fun pW gX J hJ=>?_);go_simp
    have gH:Below iC.heap.size iC pW:=aA
    clear gX
    refine (I1.out _).mono ?_
    rintro e dO ⟨v,rfl,dh,fJ⟩
    obtain ⟨bA,gG,lA,gK,rfl⟩:=fJ.agg
    refine hJ _ _ dh ?_
    clear hJ J
    have fE:=Bt gH dh
    clear gH dh fJ
    repeat (first|(refine ah rfl rfl fun J h=>?_;go_simp;refine h _ ?_;clear h J)|(refine aB rfl rfl rfl rfl fun J h=>?_;go_simp;refine h _ ?_;clear h J;try go_simp))
    refine aD rfl rfl (fun qb iE J hJ=>?_);go_simp
    have hh12:Below iC.heap.size iC qb:=Bt fE aA
    clear iE fE
    refine (I2.out _).mono ?_
    rintro e gY ⟨v,rfl,fF,hv⟩
    obtain ⟨bB,iK,lB,iP,rfl⟩:=hv.agg
    have hb1:bB=true:=hv.nm.2.trans (decide_eq_true HD.out)
    subst hb1
    refine hJ _ _ fF ?_
    clear hJ J
    have lN:=Bt hh12 fF
    clear hh12 fF hv
    repeat (first|(refine ah rfl rfl fun J h=>?_;go_simp;refine h _ ?_;clear h J)|(refine aB rfl rfl rfl rfl fun J h=>?_;go_simp;refine h _ ?_;clear h J;try go_simp))
    refine aR rfl (fun rV am5 Iu jy wS Bp iM=>?_);go_simp;replace iM:au _ _ _ _:=iM;have Bn:w.heap.size≤rV:=(by first|omega|exact Nat.le_trans (Below.size (B:=w.heap.size) aA) jy)
    refine aR rfl (fun qC am4 yU jw wR tF kL=>?_);go_simp;replace kL:au _ _ _ _:=kL;have Bl:w.heap.size≤qC:=(by first|omega|exact Nat.le_trans (Below.size (B:=w.heap.size) aA) jw)
    replace iM:=au.later iM yU
    have hne:rV≠qC:=fun h=>tF (by simp [h])
    have hne2:qC≠rV:=fun h=>hne h.symm
    refine aI [_,_] rfl (fun Cm Bf=>?_)
    have sP:Below iC.heap.size iC Cm:=Bt lN aA
    have hq0:=iM.later Bf;have Tv:=hq0.cell;have Ta:=hq0.free
    have hq1:=kL.later Bf;have cq1:=hq1.cell;have fq1:=hq1.free
    clear iM kL Bf lN
    clear eP eO fU
    go_wp2_with fail
    obtain ⟨Ej,EW⟩:∃ y,((((Cm.setCell ⟨rV,0,none⟩ (.bool bA)).setCell ⟨rV,1,none⟩ (.slice gG lA gK)).setCell ⟨qC,0,none⟩ (.bool true)).setCell ⟨qC,1,none⟩ (.slice iK lB iP))=y:=⟨_,rfl⟩
    have hz:Below iC.heap.size iC Ej:=by rw [← EW];exact ((((sP.setCell jy _).setCell jy _).setCell jw _).setCell jw _)
    have X3:Hid (au Ej qC #[.bool true,.slice iK lB iP] 150):=zh (by rw [← EW];exact ((((hq1.setOther _ (by first|exact hne|exact hne2)).setOther _ (by first|exact hne|exact hne2)).set 0 _).set 1 _))
    rw [EW]
    clear EW hq0 Tv Ta hq1 cq1 fq1 sP
    replace X1:=zh (X1.out.later hz)
    have FT:=Bt oI hz
    clear oI
    clear hz
    clear Iu Bp tF Bn Bl yU
    have R9:=jy;have R8:=jw;clear jy jw wS wR
    go_wp2_with fail
    go_ret
    exact ⟨rfl,FT⟩
   ·have HD:=zh hd
    rw [decide_eq_false (show ¬ 0<d by omega),Bool.false_and]
    clear e1 e2 h1 h2 hg hd
    go_enter Tryz.func149,Tryz.ntmps149
    go_wp2_with fail
    have hz:Below w.heap.size w (w.alloc (.cells #[.string s,.string t] 36)):=aA
    obtain ⟨aO,EW⟩:∃ y,(w.alloc (.cells #[.string s,.string t] 36))=y:=⟨_,rfl⟩
    have X1:Hid (au aO (w.heap.size) #[.string s,.string t] 36):=zh (by rw [← EW];exact au.new _ _ _)
    rw [EW] at hz ⊢
    have hk2:=Bt (Below.refl _ _) hz
    clear EW hz
    refine (R1.out _).mono ?_
    rintro e fM ⟨rfl,hb3⟩
    replace X1:=zh (X1.out.later hb3)
    have hk5:=Bt hk2 hb3
    clear hk2
    clear hb3
    have eP:=X1.out.cell;have eO:=X1.out.lt;have fU:=X1.out.free
    go_wp2_with fail
    clear eP eO fU
    refine (R2.out _).mono ?_
    rintro e iC ⟨rfl,hb6⟩
    replace X1:=zh (X1.out.later hb6)
    have oI:=Bt hk5 hb6
    clear hk5
    clear hb6
    go_wp2_with fail
    have eP:=X1.out.cell;have eO:=X1.out.lt;have fU:=X1.out.free
    refine aC [(.pure,0),(.read,1),(.pure,3),(.read,4),(.ext,2),(.ext,5),(.alloc #[.bool false,.slice none 0 0] 150,6),(.alloc #[.bool false,.slice none 0 0] 150,7),(.fin,8),(.fin,9)] zk zk zR zP ?_
    repeat (first|(refine ah rfl rfl fun J h=>?_;go_simp;refine h _ ?_;clear h J)|(refine aB rfl rfl rfl rfl fun J h=>?_;go_simp;refine h _ ?_;clear h J;try go_simp))
    refine aD rfl rfl (fun pW gX J hJ=>?_);go_simp
    have gH:Below iC.heap.size iC pW:=aA
    clear gX
    refine (I1.out _).mono ?_
    rintro e dO ⟨v,rfl,dh,fJ⟩
    obtain ⟨bA,gG,lA,gK,rfl⟩:=fJ.agg
    refine hJ _ _ dh ?_
    clear hJ J
    have fE:=Bt gH dh
    clear gH dh fJ
    repeat (first|(refine ah rfl rfl fun J h=>?_;go_simp;refine h _ ?_;clear h J)|(refine aB rfl rfl rfl rfl fun J h=>?_;go_simp;refine h _ ?_;clear h J;try go_simp))
    refine aD rfl rfl (fun qb iE J hJ=>?_);go_simp
    have hh12:Below iC.heap.size iC qb:=Bt fE aA
    clear iE fE
    refine (I2.out _).mono ?_
    rintro e gY ⟨v,rfl,fF,hv⟩
    obtain ⟨bB,iK,lB,iP,rfl⟩:=hv.agg
    have hb1:bB=false:=hv.nm.2.trans (decide_eq_false (by have:=HD.out;omega))
    subst hb1
    have hl0:lB=0:=hv.nm.1.Zi (by have:=HD.out;omega)
    subst hl0
    refine hJ _ _ fF ?_
    clear hJ J
    have lN:=Bt hh12 fF
    clear hh12 fF hv
    repeat (first|(refine ah rfl rfl fun J h=>?_;go_simp;refine h _ ?_;clear h J)|(refine aB rfl rfl rfl rfl fun J h=>?_;go_simp;refine h _ ?_;clear h J;try go_simp))
    refine aR rfl (fun rV am5 Iu jy wS Bp iM=>?_);go_simp;replace iM:au _ _ _ _:=iM;have Bn:w.heap.size≤rV:=(by first|omega|exact Nat.le_trans (Below.size (B:=w.heap.size) aA) jy)
    refine aR rfl (fun qC am4 yU jw wR tF kL=>?_);go_simp;replace kL:au _ _ _ _:=kL;have Bl:w.heap.size≤qC:=(by first|omega|exact Nat.le_trans (Below.size (B:=w.heap.size) aA) jw)
    replace iM:=au.later iM yU
    have hne:rV≠qC:=fun h=>tF (by simp [h])
    have hne2:qC≠rV:=fun h=>hne h.symm
    refine aI [_,_] rfl (fun Cm Bf=>?_)
    have sP:Below iC.heap.size iC Cm:=Bt lN aA
    have hq0:=iM.later Bf;have Tv:=hq0.cell;have Ta:=hq0.free
    have hq1:=kL.later Bf;have cq1:=hq1.cell;have fq1:=hq1.free
    clear iM kL Bf lN
    clear eP eO fU
    go_wp2_with fail
    obtain ⟨Ej,EW⟩:∃ y,((((Cm.setCell ⟨rV,0,none⟩ (.bool bA)).setCell ⟨rV,1,none⟩ (.slice gG lA gK)).setCell ⟨qC,0,none⟩ (.bool false)).setCell ⟨qC,1,none⟩ (.slice iK 0 iP))=y:=⟨_,rfl⟩
    have hz:Below iC.heap.size iC Ej:=by rw [← EW];exact ((((sP.setCell jy _).setCell jy _).setCell jw _).setCell jw _)
    have X3:Hid (au Ej qC #[.bool false,.slice iK 0 iP] 150):=zh (by rw [← EW];exact ((((hq1.setOther _ (by first|exact hne|exact hne2)).setOther _ (by first|exact hne|exact hne2)).set 0 _).set 1 _))
    rw [EW]
    clear EW hq0 Tv Ta hq1 cq1 fq1 sP
    replace X1:=zh (X1.out.later hz)
    have FT:=Bt oI hz
    clear oI
    clear hz
    clear Iu Bp tF Bn Bl yU
    have R9:=jy;have R8:=jw;clear jy jw wS wR
    go_wp2_with fail
    go_ret
    exact ⟨rfl,FT⟩
   ·have HD:=zh hd
    have HG:=zh (hg hd)
    have TX:=zh (fun x W hx=>Nu x (g:Int) W hx HG.out)
    obtain ⟨b,hb⟩:∃ b,(decide (0<d)&&(g == 1))=b:=⟨_,rfl⟩
    have hT:((⟨(Lib.itoa (g:Int)).toArray⟩:ByteArray) == ⟨#[49]⟩)=b:=by
     rw [← hb,decide_eq_true hd,Bool.true_and]
     by_cases h:g=1
     ·rw [h];exact Zn
     ·rw [Vs h];exact (beq_eq_false_iff_ne.2 h).symm
    rw [hb]
    rw [beq_toListBytes,ByteArray.toList_eq (⟨#[49]⟩:ByteArray)] at hT
    replace hT:((⟨(Lib.itoa (g:Int)).toArray⟩:ByteArray).toList == [49])=b:=hT
    generalize (⟨(Lib.itoa (g:Int)).toArray⟩:ByteArray)=T at *
    clear e1 e2 h1 h2 hg hd hb
    go_enter Tryz.func149,Tryz.ntmps149
    go_wp2_with fail
    have hz:Below w.heap.size w (w.alloc (.cells #[.string s,.string t] 36)):=aA
    obtain ⟨aO,EW⟩:∃ y,(w.alloc (.cells #[.string s,.string t] 36))=y:=⟨_,rfl⟩
    have X1:Hid (au aO (w.heap.size) #[.string s,.string t] 36):=zh (by rw [← EW];exact au.new _ _ _)
    rw [EW] at hz ⊢
    have hk2:=Bt (Below.refl _ _) hz
    clear EW hz
    refine (R1.out _).mono ?_
    rintro e fM ⟨rfl,hb3⟩
    replace X1:=zh (X1.out.later hb3)
    have hk5:=Bt hk2 hb3
    clear hk2
    clear hb3
    have eP:=X1.out.cell;have eO:=X1.out.lt;have fU:=X1.out.free
    go_wp2_with fail
    clear eP eO fU
    refine (R2.out _).mono ?_
    rintro e iC ⟨rfl,hb6⟩
    replace X1:=zh (X1.out.later hb6)
    have oI:=Bt hk5 hb6
    clear hk5
    clear hb6
    go_wp2_with fail
    have eP:=X1.out.cell;have eO:=X1.out.lt;have fU:=X1.out.free
    refine aC [(.pure,0),(.read,1),(.pure,3),(.read,4),(.ext,2),(.ext,5),(.alloc #[.bool false,.slice none 0 0] 150,6),(.alloc #[.bool false,.slice none 0 0] 150,7),(.fin,8),(.fin,9)] zk zk zR zP ?_
    repeat (first|(refine ah rfl rfl fun J h=>?_;go_simp;refine h _ ?_;clear h J)|(refine aB rfl rfl rfl rfl fun J h=>?_;go_simp;refine h _ ?_;clear h J;try go_simp))
    refine aD rfl rfl (fun pW gX J hJ=>?_);go_simp
    have gH:Below iC.heap.size iC pW:=aA
    clear gX
    refine (I1.out _).mono ?_
    rintro e dO ⟨v,rfl,dh,fJ⟩
    obtain ⟨bA,gG,lA,gK,rfl⟩:=fJ.agg
    refine hJ _ _ dh ?_
    clear hJ J
    have fE:=Bt gH dh
    have NA:=zh fJ
    clear gH dh fJ
    repeat (first|(refine ah rfl rfl fun J h=>?_;go_simp;refine h _ ?_;clear h J)|(refine aB rfl rfl rfl rfl fun J h=>?_;go_simp;refine h _ ?_;clear h J;try go_simp))
    refine aD rfl rfl (fun qb iE J hJ=>?_);go_simp
    have hh12:Below iC.heap.size iC qb:=Bt fE aA
    replace NA:=zh (NA.out.later (show Below dO.heap.size dO qb from aA))
    clear iE fE
    refine (I2.out _).mono ?_
    rintro e gY ⟨v,rfl,fF,hv⟩
    obtain ⟨bB,iK,lB,iP,rfl⟩:=hv.agg
    have hb1:bB=false:=hv.nm.2.trans (decide_eq_false (by have:=HD.out;omega))
    subst hb1
    have hl0:0<lB:=hv.nm.1.Vx (by have:=HD.out;omega)
    refine hJ _ _ fF ?_
    clear hJ J
    have lN:=Bt hh12 fF
    replace NA:=zh (NA.out.later fF)
    have NB:=zh hv
    clear hh12 fF hv
    repeat (first|(refine ah rfl rfl fun J h=>?_;go_simp;refine h _ ?_;clear h J)|(refine aB rfl rfl rfl rfl fun J h=>?_;go_simp;refine h _ ?_;clear h J;try go_simp))
    refine aR rfl (fun rV am5 Iu jy wS Bp iM=>?_);go_simp;replace iM:au _ _ _ _:=iM;have Bn:w.heap.size≤rV:=(by first|omega|exact Nat.le_trans (Below.size (B:=w.heap.size) aA) jy)
    refine aR rfl (fun qC am4 yU jw wR tF kL=>?_);go_simp;replace kL:au _ _ _ _:=kL;have Bl:w.heap.size≤qC:=(by first|omega|exact Nat.le_trans (Below.size (B:=w.heap.size) aA) jw)
    replace iM:=au.later iM yU
    have hne:rV≠qC:=fun h=>tF (by simp [h])
    have hne2:qC≠rV:=fun h=>hne h.symm
    refine aI [_,_] rfl (fun Cm Bf=>?_)
    replace NA:=zh (NA.out.later (show Below gY.heap.size gY Cm from aA))
    replace NB:=zh (NB.out.later (show Below gY.heap.size gY Cm from aA))
    have sP:Below iC.heap.size iC Cm:=Bt lN aA
    have hq0:=iM.later Bf;have Tv:=hq0.cell;have Ta:=hq0.free
    have hq1:=kL.later Bf;have cq1:=hq1.cell;have fq1:=hq1.free
    clear iM kL Bf lN
    clear eP eO fU
    go_wp2_with fail
    obtain ⟨Ej,EW⟩:∃ y,((((Cm.setCell ⟨rV,0,none⟩ (.bool bA)).setCell ⟨rV,1,none⟩ (.slice gG lA gK)).setCell ⟨qC,0,none⟩ (.bool false)).setCell ⟨qC,1,none⟩ (.slice iK lB iP))=y:=⟨_,rfl⟩
    have hz:Below iC.heap.size iC Ej:=by rw [← EW];exact ((((sP.setCell jy _).setCell jy _).setCell jw _).setCell jw _)
    have X2:Hid (au Ej rV #[.bool bA,.slice gG lA gK] 150):=zh (by rw [← EW];exact ((((hq0.set 0 _).set 1 _).setOther _ (by first|exact hne|exact hne2)).setOther _ (by first|exact hne|exact hne2)))
    have X3:Hid (au Ej qC #[.bool false,.slice iK lB iP] 150):=zh (by rw [← EW];exact ((((hq1.setOther _ (by first|exact hne|exact hne2)).setOther _ (by first|exact hne|exact hne2)).set 0 _).set 1 _))
    have t:=((((NA.out.setOther hq0 zd 0 (.bool bA)).setOther (hq0.set 0 _) zd 1 (.slice gG lA gK)).setOther ((hq1.setOther _ (by first|exact hne|exact hne2)).setOther _ (by first|exact hne|exact hne2)) zd 0 (.bool false)).setOther (((hq1.setOther _ (by first|exact hne|exact hne2)).setOther _ (by first|exact hne|exact hne2)).set 0 _) zd 1 (.slice iK lB iP))
    rw [EW] at t
    replace NA:=zh t
    clear t
    have t:=((((NB.out.setOther hq0 zd 0 (.bool bA)).setOther (hq0.set 0 _) zd 1 (.slice gG lA gK)).setOther ((hq1.setOther _ (by first|exact hne|exact hne2)).setOther _ (by first|exact hne|exact hne2)) zd 0 (.bool false)).setOther (((hq1.setOther _ (by first|exact hne|exact hne2)).setOther _ (by first|exact hne|exact hne2)).set 0 _) zd 1 (.slice iK lB iP))
    rw [EW] at t
    replace NB:=zh t
    clear t
    rw [EW]
    clear EW hq0 Tv Ta hq1 cq1 fq1 sP
    replace X1:=zh (X1.out.later hz)
    have FT:=Bt oI hz
    clear oI
    clear hz
    clear Iu Bp tF Bn Bl yU
    have R9:=jy;have R8:=jw;clear jy jw wS wR
    go_wp2_with fail
    refine (DV.out _ _ _ NA.out NB.out).mono ?_
    rintro e Qw ⟨v,rfl,sU,KJ⟩
    obtain ⟨bC,Ch,lC,Cj,rfl⟩:=KJ.agg
    clear X1
    replace X2:=zh (X2.out.later sU)
    replace X3:=zh (X3.out.later sU)
    replace NA:=zh (NA.out.later sU)
    replace NB:=zh (NB.out.later sU)
    have O9:=Bt FT sU
    clear FT
    have NC:=zh KJ
    clear sU KJ
    go_wp2_with fail
    refine (TX.out _ _ NC.out).mono ?_
    rintro e aN1 ⟨rfl,Bj⟩
    replace X2:=zh (X2.out.later Bj)
    replace X3:=zh (X3.out.later Bj)
    replace NA:=zh (NA.out.later Bj)
    replace NB:=zh (NB.out.later Bj)
    replace NC:=zh (NC.out.later Bj)
    have aE0:=Bt O9 Bj
    clear O9
    clear Bj
    go_wp2_with fail
    go_ret
    exact ⟨rfl,aE0⟩
theorem iq {a:Fr} {b:Bool} (h:(rd a).isSome=b) (hf:Fits a) (W:World):Calls Tryz.prog 149 #[a.v] W (fun e w'=>e= .returned (.bool b)∧Below W.heap.size W w') :=
 h ▸ oG a.n a.d W hf.1 hf.2
theorem gW (a:Fr) (w:World) (hf:Fits a):Calls Tryz.prog 92 #[a.v] w (fun e w'=>e= .returned (.int .i64 (za a))∧Below w.heap.size w w'):=by
 unfold za
 cases h:(rd a).isSome with
 | true =>
  have R:=zh (fun W=>iq h hf W)
  obtain ⟨s,t⟩:=a
  unfold Fr.v at *
  clear h hf
  go_enter Tryz.func92,Tryz.ntmps92
  go_wp2_with fail
  have hz:Below w.heap.size w (w.alloc (.cells #[.string s,.string t] 36)):=aA
  obtain ⟨aO,EW⟩:∃ y,(w.alloc (.cells #[.string s,.string t] 36))=y:=⟨_,rfl⟩
  have X1:Hid (au aO (w.heap.size) #[.string s,.string t] 36):=zh (by rw [← EW];exact au.new _ _ _)
  rw [EW] at hz ⊢
  have hk2:=Bt (Below.refl _ _) hz
  clear EW hz
  refine (R.out _).mono ?_
  rintro e fM ⟨rfl,hb3⟩
  replace X1:=zh (X1.out.later hb3)
  have hk5:=Bt hk2 hb3
  clear hk2
  clear hb3
  go_wp2_with fail
  go_ret
  exact ⟨rfl,hk5⟩
 | false =>
  have R:=zh (fun W=>iq h hf W)
  obtain ⟨s,t⟩:=a
  unfold Fr.v at *
  clear h hf
  go_enter Tryz.func92,Tryz.ntmps92
  go_wp2_with fail
  have hz:Below w.heap.size w (w.alloc (.cells #[.string s,.string t] 36)):=aA
  obtain ⟨aO,EW⟩:∃ y,(w.alloc (.cells #[.string s,.string t] 36))=y:=⟨_,rfl⟩
  have X1:Hid (au aO (w.heap.size) #[.string s,.string t] 36):=zh (by rw [← EW];exact au.new _ _ _)
  rw [EW] at hz ⊢
  have hk2:=Bt (Below.refl _ _) hz
  clear EW hz
  refine (R.out _).mono ?_
  rintro e fM ⟨rfl,hb3⟩
  replace X1:=zh (X1.out.later hb3)
  have hk5:=Bt hk2 hb3
  clear hk2
  clear hb3
  go_wp2_with fail
  go_ret
  exact ⟨rfl,hk5⟩
theorem QW {s t:ByteArray} {q:Rat} (h:rd ⟨s,t⟩=some q):whole s.data.toList=some q.num∧whole t.data.toList=some (q.den:Int):=by
 unfold rd at h
 split at h
 ·rename_i n d e1 e2
  split at h
  ·rename_i hk
   simp only [Option.some.injEq] at h
   subst h
   refine ⟨e1,e2.trans ?_⟩
   congr 1
   have:=hk.1
   show d=((d.natAbs:Nat):Int)
   omega
  ·cases h
 ·cases h
theorem tV (s t:ByteArray) (q:Rat) (w:World) (h:rd ⟨s,t⟩=some q):Calls Tryz.prog 166 #[.agg #[.string s,.string t]] w (dD w q):=by
 obtain ⟨e1,e2⟩:=QW h
 have I1:=zh (fun W=>aF.tV s q.num W e1)
 have I2:=zh (fun W=>aF.tV t (q.den:Int) W e2)
 clear h e1 e2
 go_enter Tryz.func166,Tryz.ntmps166
 go_wp2_with fail
 have hz:Below w.heap.size w ((w.alloc (.cells #[.string s,.string t] 36)).alloc (.cells #[.bool false,.slice none 0 0,.bool false,.slice none 0 0] 152)):=aA
 obtain ⟨aO,EW⟩:∃ y,((w.alloc (.cells #[.string s,.string t] 36)).alloc (.cells #[.bool false,.slice none 0 0,.bool false,.slice none 0 0] 152))=y:=⟨_,rfl⟩
 have X1:Hid (au aO (w.heap.size) #[.string s,.string t] 36):=zh (by rw [← EW];exact au.alloc (au.new _ _ _) _)
 have X2:Hid (au aO (w.heap.size+1) #[.bool false,.slice none 0 0,.bool false,.slice none 0 0] 152):=zh (by rw [← EW];exact au.fZ _ _ _ _)
 rw [EW] at hz ⊢
 have hk2:=Bt (Below.refl _ _) hz
 clear EW hz
 have eP:=X1.out.cell;have eO:=X1.out.lt;have fU:=X1.out.free
 refine aC [(.pure,0),(.read,1),(.pure,3),(.read,4),(.ext,2),(.ext,5),(.pure,6),(.fin,7)] zk zk zR zP ?_
 repeat (first|(refine ah rfl rfl fun J h=>?_;go_simp;refine h _ ?_;clear h J)|(refine aB rfl rfl rfl rfl fun J h=>?_;go_simp;refine h _ ?_;clear h J;try go_simp))
 refine aD rfl rfl (fun uZ hb3 J hJ=>?_);go_simp
 have hh3:Below aO.heap.size aO uZ:=aA
 clear hb3
 refine (I1.out _).mono ?_
 rintro e rP ⟨v,rfl,hb4,hv5⟩
 obtain ⟨bA,gG,lA,gK,rfl⟩:=hv5.agg
 refine hJ _ _ hb4 ?_
 clear hJ J
 have ow:=Bt hh3 hb4
 have NA:=zh hv5
 clear hh3 hb4 hv5
 repeat (first|(refine ah rfl rfl fun J h=>?_;go_simp;refine h _ ?_;clear h J)|(refine aB rfl rfl rfl rfl fun J h=>?_;go_simp;refine h _ ?_;clear h J;try go_simp))
 refine aD rfl rfl (fun qL hb6 J hJ=>?_);go_simp
 have iD:Below aO.heap.size aO qL:=Bt ow aA
 replace NA:=zh (NA.out.later (show Below rP.heap.size rP qL from aA))
 clear hb6 ow
 refine (I2.out _).mono ?_
 rintro e ku ⟨v,rfl,dQ,kC⟩
 obtain ⟨bB,iK,lB,iP,rfl⟩:=kC.agg
 refine hJ _ _ dQ ?_
 clear hJ J
 have oU:=Bt iD dQ
 replace NA:=zh (NA.out.later dQ)
 have NB:=zh kC
 clear iD dQ kC
 repeat (first|(refine ah rfl rfl fun J h=>?_;go_simp;refine h _ ?_;clear h J)|(refine aB rfl rfl rfl rfl fun J h=>?_;go_simp;refine h _ ?_;clear h J;try go_simp))
 refine aI [_] rfl (fun zq Si=>?_)
 replace NA:=zh (NA.out.later (show Below ku.heap.size ku zq from aA))
 replace NB:=zh (NB.out.later (show Below ku.heap.size ku zq from aA))
 have gH:Below aO.heap.size aO zq:=Bt oU aA
 clear Si oU
 clear eP eO fU
 replace X1:=zh (X1.out.later gH)
 replace X2:=zh (X2.out.later gH)
 have hk10:=Bt hk2 gH
 clear hk2
 clear gH
 have dY:=X2.out.cell;have dW:=X2.out.lt;have gN:=X2.out.free
 have hres:=X2.out
 have iU:=hres.cell
 have iT:=hres.free
 go_wp2_with fail
 refine bO rfl rfl aJ Tryz.underlying152 rfl zk ?_
 exact ⟨_,rfl,aA,_,_,_,_,_,_,_,_,rfl,Pl.kH NA.out hres zd _ _ _ _,Pl.kH NB.out hres zd _ _ _ _⟩
theorem qV {a:Fr} {q:Rat} (h:rd a=some q):dZ 67 q:=gy (jI h).2
theorem dZ.M7 {q:Rat} (h:dZ 1000 q):sz 10000 q.num.natAbs≤1073741824∧sz 10000 q.den≤1073741824:=by
 have h1:=vw h.1
 have h2:=vw h.2
 exact ⟨by omega,by omega⟩
theorem U7 {k:Nat} {p q:Rat} (h:dZ k p) (i:dZ k q):dZ (2*k+1) (p - q):=by
 rw [Rat.sub_eq_add_neg]
 exact uf h (qM i)
theorem uW {a:Fr} {q:Rat} (h:rd a=some q) (W:World):Calls Tryz.prog 166 #[a.v] W (dD W q):=tV a.n a.d q W h
theorem Qr:((0:Int):Rat) / ((1:Int):Rat)=0:=by decide+kernel
theorem jW (a:Fr) (w:World) (hf:Fits a):Calls Tryz.prog 152 #[a.v] w (fun e w'=>e= .returned (.tuple #[.int .i64 (fG a).1,.int .i64 (fG a).2])∧Below w.heap.size w w'):=by
 unfold fG
 cases h:rd a with
 | none =>
  have R:=zh (fun W=>iq (b:=false) (by rw [h];rfl) hf W)
  obtain ⟨s,t⟩:=a
  unfold Fr.v at *
  clear h hf
  go_enter Tryz.func152,Tryz.ntmps152
  go_wp2_with fail
  have hz:Below w.heap.size w (w.alloc (.cells #[.string s,.string t] 36)):=aA
  obtain ⟨aO,EW⟩:∃ y,(w.alloc (.cells #[.string s,.string t] 36))=y:=⟨_,rfl⟩
  have X1:Hid (au aO (w.heap.size) #[.string s,.string t] 36):=zh (by rw [← EW];exact au.new _ _ _)
  rw [EW] at hz ⊢
  have hk2:=Bt (Below.refl _ _) hz
  clear EW hz
  refine (R.out _).mono ?_
  rintro e fM ⟨rfl,hb3⟩
  replace X1:=zh (X1.out.later hb3)
  have hk5:=Bt hk2 hb3
  clear hk2
  clear hb3
  go_wp2_with fail
  go_ret2
  exact ⟨rfl,hk5⟩
 | some q =>
  have R:=zh (fun W=>iq (b:=true) (by rw [h];rfl) hf W)
  have I:=zh (fun W=>uW h W)
  have Z:=zh (fun W=>xE 0 1 zo zo zo zo zo W)
  rw [Qr] at Z
  have hq:=(qV h).mono (show 67≤10000000000 by omega)
  have O:=zh (fun x y W hx hy=>BS x y q 0 W hx hy hq ⟨by decide+kernel,by decide+kernel⟩)
  dsimp only
  generalize gV q 0=cc at *
  obtain ⟨s,t⟩:=a
  unfold Fr.v at *
  clear h hf hq
  go_enter Tryz.func152,Tryz.ntmps152
  go_wp2_with fail
  have hz:Below w.heap.size w (w.alloc (.cells #[.string s,.string t] 36)):=aA
  obtain ⟨aO,EW⟩:∃ y,(w.alloc (.cells #[.string s,.string t] 36))=y:=⟨_,rfl⟩
  have X1:Hid (au aO (w.heap.size) #[.string s,.string t] 36):=zh (by rw [← EW];exact au.new _ _ _)
  rw [EW] at hz ⊢
  have hk2:=Bt (Below.refl _ _) hz
  clear EW hz
  refine (R.out _).mono ?_
  rintro e fM ⟨rfl,hb3⟩
  replace X1:=zh (X1.out.later hb3)
  have hk5:=Bt hk2 hb3
  clear hk2
  clear hb3
  have eP:=X1.out.cell;have eO:=X1.out.lt;have fU:=X1.out.free
  go_wp2_with fail
  clear eP eO fU
  refine (I.out _).mono ?_
  rintro e iC ⟨v,rfl,hb6,hv7⟩
  obtain ⟨bA,gG,lA,gK,xL,kW,xK,kX,rfl,hx7,hy7⟩:=id hv7
  replace X1:=zh (X1.out.later hb6)
  have oI:=Bt hk5 hb6
  clear hk5
  have QA:=zh hv7
  clear hb6 hv7 hx7 hy7
  go_wp2_with fail
  refine (Z.out _).mono ?_
  rintro e wc9 ⟨v,rfl,gX,Zx⟩
  obtain ⟨bB,iK,lB,iP,zT,nG,zK,nP,rfl,aD0,aC8⟩:=id Zx
  replace X1:=zh (X1.out.later gX)
  replace QA:=zh (QA.out.later gX)
  have CF:=Bt oI gX
  clear oI
  have QB:=zh Zx
  clear gX Zx aD0 aC8
  go_wp2_with fail
  refine (O.out _ _ _ QA.out QB.out).mono ?_
  rintro e vg ⟨rfl,iE⟩
  replace X1:=zh (X1.out.later iE)
  replace QA:=zh (QA.out.later iE)
  replace QB:=zh (QB.out.later iE)
  have KU:=Bt CF iE
  clear CF
  clear iE
  go_wp2_with fail
  go_ret2
  exact ⟨rfl,KU⟩
theorem Oa {b:Fr} {q:Rat} (h:rd b=some q):(b.n.toList == [48])=decide (q=0):=by
 have e:b.n=⟨(Lib.itoa q.num).toArray⟩:=by rw [(jI h).1];rfl
 have z0:Lib.itoa 0=[48]:=by decide+kernel
 rw [e,ByteArray.toList_mk]
 by_cases h0:q=0
 ·rw [decide_eq_true h0,h0];show (Lib.itoa 0 == [48])=true;rw [z0];rfl
 ·rw [decide_eq_false h0,beq_eq_false_iff_ne]
  intro e
  rw [← z0] at e
  exact h0 (Rat.num_eq_zero.1 (Iq e))
theorem Cg (a b:Fr) (w:World) (ha:Fits a) (hb:Fits b):Calls Tryz.prog 153 #[a.v,b.v] w (oH w (Jv a b)):=by
 unfold oH
 cases h:rd a with
 | none =>
  rw [show Jv a b=(Fr.no,20) from o7 h]
  have R:=zh (fun W=>iq (b:=false) (by rw [h];rfl) ha W)
  obtain ⟨s,t⟩:=a
  obtain ⟨s',t'⟩:=b
  show Calls _ _ #[.agg #[.string s,.string t],.agg #[.string s',.string t']] _ _
  replace R:Hid (∀ W,Calls Tryz.prog 149 #[.agg #[.string s,.string t]] W (fun e w'=>e= .returned (.bool false)∧Below W.heap.size W w')):=R
  clear h ha hb
  have h0:Below w.heap.size w (((w.alloc (.cells #[.string s,.string t] 36)).alloc (.cells #[.string s',.string t'] 36)).alloc (.cells #[.string ⟨#[]⟩,.string ⟨#[]⟩] 36)):=aA
  have hx:=au.at2 w (.cells #[.string s,.string t] 36) (.cells #[.string s',.string t'] 36) #[.string ⟨#[]⟩,.string ⟨#[]⟩] 36
  go_enter Tryz.func153,Tryz.ntmps153
  go_wp2_with fail
  refine (R.out _).mono ?_
  rintro e w1 ⟨rfl,hb⟩
  have hr:=hx.later hb
  have cr:=hr.cell
  have fr:=hr.free
  have lr:=hr.lt
  go_wp2_with fail
  refine aP rfl rfl aJ Tryz.underlying36 rfl zk ?_
  exact ⟨rfl,aA⟩
 | some p =>
  have R:=zh (fun W=>iq (b:=true) (by rw [h];rfl) ha W)
  cases k:rd b with
  | none =>
   rw [show Jv a b=(Fr.no,20) from oZ k]
   have R2:=zh (fun W=>iq (b:=false) (by rw [k];rfl) hb W)
   obtain ⟨s,t⟩:=a
   obtain ⟨s',t'⟩:=b
   show Calls _ _ #[.agg #[.string s,.string t],.agg #[.string s',.string t']] _ _
   replace R:Hid (∀ W,Calls Tryz.prog 149 #[.agg #[.string s,.string t]] W (fun e w'=>e= .returned (.bool true)∧Below W.heap.size W w')):=R
   replace R2:Hid (∀ W,Calls Tryz.prog 149 #[.agg #[.string s',.string t']] W (fun e w'=>e= .returned (.bool false)∧Below W.heap.size W w')):=R2
   clear h ha hb k
   go_enter Tryz.func153,Tryz.ntmps153
   go_wp2_with fail
   have hz:Below w.heap.size w (((w.alloc (.cells #[.string s,.string t] 36)).alloc (.cells #[.string s',.string t'] 36)).alloc (.cells #[.string ⟨#[]⟩,.string ⟨#[]⟩] 36)):=aA
   obtain ⟨aO,EW⟩:∃ y,(((w.alloc (.cells #[.string s,.string t] 36)).alloc (.cells #[.string s',.string t'] 36)).alloc (.cells #[.string ⟨#[]⟩,.string ⟨#[]⟩] 36))=y:=⟨_,rfl⟩
   have X1:Hid (au aO (w.heap.size) #[.string s,.string t] 36):=zh (by rw [← EW];exact au.alloc (au.alloc (au.new _ _ _) _) _)
   have X2:Hid (au aO (w.heap.size+1) #[.string s',.string t'] 36):=zh (by rw [← EW];exact au.alloc (au.fZ _ _ _ _) _)
   have X3:Hid (au aO (w.heap.size+1+1) #[.string ⟨#[]⟩,.string ⟨#[]⟩] 36):=zh (by rw [← EW];exact au.at2 _ _ _ _ _)
   rw [EW] at hz ⊢
   have hk2:=Bt (Below.refl _ _) hz
   clear EW hz
   refine (R.out _).mono ?_
   rintro e fM ⟨rfl,hb3⟩
   replace X1:=zh (X1.out.later hb3)
   replace X2:=zh (X2.out.later hb3)
   replace X3:=zh (X3.out.later hb3)
   have hk5:=Bt hk2 hb3
   clear hk2
   clear hb3
   have dY:=X2.out.cell;have dW:=X2.out.lt;have gN:=X2.out.free
   go_wp2_with fail
   clear dY dW gN
   refine (R2.out _).mono ?_
   rintro e iC ⟨rfl,hb6⟩
   replace X1:=zh (X1.out.later hb6)
   replace X2:=zh (X2.out.later hb6)
   replace X3:=zh (X3.out.later hb6)
   have oI:=Bt hk5 hb6
   clear hk5
   clear hb6
   have mo:=X3.out.cell;have mg:=X3.out.lt;have pX:=X3.out.free
   have hres:=X3.out
   have iU:=hres.cell
   have iT:=hres.free
   go_wp2_with fail
   refine aP rfl rfl aJ Tryz.underlying36 rfl zk ?_
   exact ⟨rfl,aA⟩
  | some q =>
   rw [show Jv a b=wr (p+q) from iQ h k]
   have R2:=zh (fun W=>iq (b:=true) (by rw [k];rfl) hb W)
   have I1:=zh (fun W=>uW h W)
   have I2:=zh (fun W=>uW k W)
   have hp:=qV h
   have hq:=qV k
   have OP:=zh (fun x y W hx hy=>rE x y p q W hx hy (hp.mono zo) (hq.mono zo))
   have hs:dZ 1000 (p+q):=(uf hp hq).mono zo
   obtain ⟨f1,f2⟩:=dZ.M7 hs
   have OU:=zh (fun x W hx=>rF x (p+q) W hx f1 f2)
   clear f1 f2 hp hq hs
   generalize p+q=r at *
   obtain ⟨⟨⟨s1,s2⟩,k1⟩,E⟩:∃ y,wr r=y:=⟨_,rfl⟩
   rw [E] at OU ⊢
   obtain ⟨s,t⟩:=a
   obtain ⟨s',t'⟩:=b
   show Calls _ _ #[.agg #[.string s,.string t],.agg #[.string s',.string t']] _ _
   replace R:Hid (∀ W,Calls Tryz.prog 149 #[.agg #[.string s,.string t]] W (fun e w'=>e= .returned (.bool true)∧Below W.heap.size W w')):=R
   replace R2:Hid (∀ W,Calls Tryz.prog 149 #[.agg #[.string s',.string t']] W (fun e w'=>e= .returned (.bool true)∧Below W.heap.size W w')):=R2
   replace I1:Hid (∀ W,Calls Tryz.prog 166 #[.agg #[.string s,.string t]] W (dD W p)):=I1
   replace I2:Hid (∀ W,Calls Tryz.prog 166 #[.agg #[.string s',.string t']] W (dD W q)):=I2
   replace OU:Hid (∀ x W,Ra W x r→Calls Tryz.prog 109 #[x] W (fun e w'=>e= .returned (.tuple #[.agg #[.string s1,.string s2],.int .i64 k1])∧Below W.heap.size W w')):=OU
   clear h ha hb k E
   go_enter Tryz.func153,Tryz.ntmps153
   go_wp2_with fail
   have hz:Below w.heap.size w (((w.alloc (.cells #[.string s,.string t] 36)).alloc (.cells #[.string s',.string t'] 36)).alloc (.cells #[.string ⟨#[]⟩,.string ⟨#[]⟩] 36)):=aA
   obtain ⟨aO,EW⟩:∃ y,(((w.alloc (.cells #[.string s,.string t] 36)).alloc (.cells #[.string s',.string t'] 36)).alloc (.cells #[.string ⟨#[]⟩,.string ⟨#[]⟩] 36))=y:=⟨_,rfl⟩
   have X1:Hid (au aO (w.heap.size) #[.string s,.string t] 36):=zh (by rw [← EW];exact au.alloc (au.alloc (au.new _ _ _) _) _)
   have X2:Hid (au aO (w.heap.size+1) #[.string s',.string t'] 36):=zh (by rw [← EW];exact au.alloc (au.fZ _ _ _ _) _)
   have X3:Hid (au aO (w.heap.size+1+1) #[.string ⟨#[]⟩,.string ⟨#[]⟩] 36):=zh (by rw [← EW];exact au.at2 _ _ _ _ _)
   rw [EW] at hz ⊢
   have hk2:=Bt (Below.refl _ _) hz
   clear EW hz
   refine (R.out _).mono ?_
   rintro e fM ⟨rfl,hb3⟩
   replace X1:=zh (X1.out.later hb3)
   replace X2:=zh (X2.out.later hb3)
   replace X3:=zh (X3.out.later hb3)
   have hk5:=Bt hk2 hb3
   clear hk2
   clear hb3
   have dY:=X2.out.cell;have dW:=X2.out.lt;have gN:=X2.out.free
   go_wp2_with fail
   clear dY dW gN
   refine (R2.out _).mono ?_
   rintro e iC ⟨rfl,hb6⟩
   replace X1:=zh (X1.out.later hb6)
   replace X2:=zh (X2.out.later hb6)
   replace X3:=zh (X3.out.later hb6)
   have oI:=Bt hk5 hb6
   clear hk5
   clear hb6
   go_wp2_with fail
   have eP:=X1.out.cell;have eO:=X1.out.lt;have fU:=X1.out.free
   have dY:=X2.out.cell;have dW:=X2.out.lt;have gN:=X2.out.free
   refine aC [(.read,0),(.read,2),(.ext,1),(.ext,3),(.ext,4),(.ext,5),(.pure,6),(.pure,7),(.fin,8),(.fin,9)] zk zk zR zP ?_
   repeat (first|(refine ah rfl rfl fun J h=>?_;go_simp;refine h _ ?_;clear h J)|(refine aB rfl rfl rfl rfl fun J h=>?_;go_simp;refine h _ ?_;clear h J;try go_simp))
   refine aD rfl rfl (fun pW gX J hJ=>?_);go_simp
   have gH:Below iC.heap.size iC pW:=aA
   clear gX
   refine (I1.out _).mono ?_
   rintro e dO ⟨v,rfl,dh,fJ⟩
   obtain ⟨bA,gG,lA,gK,xL,kW,xK,kX,rfl,Bb,Ba⟩:=id fJ
   refine hJ _ _ dh ?_
   clear hJ J
   have fE:=Bt gH dh
   have QA:=zh fJ
   clear gH dh fJ Bb Ba
   repeat (first|(refine ah rfl rfl fun J h=>?_;go_simp;refine h _ ?_;clear h J)|(refine aB rfl rfl rfl rfl fun J h=>?_;go_simp;refine h _ ?_;clear h J;try go_simp))
   refine aD rfl rfl (fun qb iE J hJ=>?_);go_simp
   have hh12:Below iC.heap.size iC qb:=Bt fE aA
   replace QA:=zh (QA.out.later (show Below dO.heap.size dO qb from aA))
   clear iE fE
   refine (I2.out _).mono ?_
   rintro e gY ⟨v,rfl,fF,vL⟩
   obtain ⟨bB,iK,lB,iP,zT,nG,zK,nP,rfl,vJ,KH⟩:=id vL
   refine hJ _ _ fF ?_
   clear hJ J
   have lN:=Bt hh12 fF
   replace QA:=zh (QA.out.later fF)
   have QB:=zh vL
   clear hh12 fF vL vJ KH
   repeat (first|(refine ah rfl rfl fun J h=>?_;go_simp;refine h _ ?_;clear h J)|(refine aB rfl rfl rfl rfl fun J h=>?_;go_simp;refine h _ ?_;clear h J;try go_simp))
   refine aD rfl rfl (fun sj wU J hJ=>?_);go_simp
   have vM:Below iC.heap.size iC sj:=Bt lN aA
   replace QA:=zh (QA.out.later (show Below gY.heap.size gY sj from aA))
   replace QB:=zh (QB.out.later (show Below gY.heap.size gY sj from aA))
   clear wU lN
   refine (OP.out _ _ _ QA.out QB.out).mono ?_
   rintro e kV ⟨v,rfl,jF,vK⟩
   obtain ⟨bC,Ch,lC,Cj,bCd,Vi,lCd,WC,rfl,qY,KF⟩:=id vK
   refine hJ _ _ jF ?_
   clear hJ J
   have nH:=Bt vM jF
   replace QA:=zh (QA.out.later jF)
   replace QB:=zh (QB.out.later jF)
   have QC:=zh vK
   clear vM jF vK qY KF
   repeat (first|(refine ah rfl rfl fun J h=>?_;go_simp;refine h _ ?_;clear h J)|(refine aB rfl rfl rfl rfl fun J h=>?_;go_simp;refine h _ ?_;clear h J;try go_simp))
   refine aD rfl rfl (fun pG nI J hJ=>?_);go_simp
   have rT:Below iC.heap.size iC pG:=Bt nH aA
   replace QA:=zh (QA.out.later (show Below kV.heap.size kV pG from aA))
   replace QB:=zh (QB.out.later (show Below kV.heap.size kV pG from aA))
   replace QC:=zh (QC.out.later (show Below kV.heap.size kV pG from aA))
   clear nI nH
   refine (OU.out _ _ QC.out).mono ?_
   rintro e kU ⟨rfl,jk⟩
   refine hJ _ _ jk ?_
   clear hJ J
   have rR:=Bt rT jk
   replace QA:=zh (QA.out.later jk)
   replace QB:=zh (QB.out.later jk)
   replace QC:=zh (QC.out.later jk)
   clear rT jk
   repeat (first|(refine ah rfl rfl fun J h=>?_;go_simp;refine h _ ?_;clear h J)|(refine aB rfl rfl rfl rfl fun J h=>?_;go_simp;refine h _ ?_;clear h J;try go_simp))
   refine aI [_,_] rfl (fun oJ CW=>?_)
   replace QA:=zh (QA.out.later (show Below kU.heap.size kU oJ from aA))
   replace QB:=zh (QB.out.later (show Below kU.heap.size kU oJ from aA))
   replace QC:=zh (QC.out.later (show Below kU.heap.size kU oJ from aA))
   have kM:Below iC.heap.size iC oJ:=Bt rR aA
   clear CW rR
   clear eP eO fU dY dW gN
   replace X1:=zh (X1.out.later kM)
   replace X2:=zh (X2.out.later kM)
   replace X3:=zh (X3.out.later kM)
   have O9:=Bt oI kM
   clear oI
   clear kM
   clear QA
   clear QB
   clear QC
   have mo:=X3.out.cell;have mg:=X3.out.lt;have pX:=X3.out.free
   have hres:=X3.out
   have iU:=hres.cell
   have iT:=hres.free
   go_wp2_with fail
   refine aP rfl rfl aJ Tryz.underlying36 rfl zk ?_
   exact ⟨rfl,aA⟩
theorem BP (a b:Fr) (w:World) (ha:Fits a) (hb:Fits b):Calls Tryz.prog 150 #[a.v,b.v] w (oH w (EY a b)):=by
 unfold oH
 cases h:rd a with
 | none =>
  rw [show EY a b=(Fr.no,20) from o7 h]
  have R:=zh (fun W=>iq (b:=false) (by rw [h];rfl) ha W)
  obtain ⟨s,t⟩:=a
  obtain ⟨s',t'⟩:=b
  show Calls _ _ #[.agg #[.string s,.string t],.agg #[.string s',.string t']] _ _
  replace R:Hid (∀ W,Calls Tryz.prog 149 #[.agg #[.string s,.string t]] W (fun e w'=>e= .returned (.bool false)∧Below W.heap.size W w')):=R
  clear h ha hb
  have h0:Below w.heap.size w (((w.alloc (.cells #[.string s,.string t] 36)).alloc (.cells #[.string s',.string t'] 36)).alloc (.cells #[.string ⟨#[]⟩,.string ⟨#[]⟩] 36)):=aA
  have hx:=au.at2 w (.cells #[.string s,.string t] 36) (.cells #[.string s',.string t'] 36) #[.string ⟨#[]⟩,.string ⟨#[]⟩] 36
  go_enter Tryz.func150,Tryz.ntmps150
  go_wp2_with fail
  refine (R.out _).mono ?_
  rintro e w1 ⟨rfl,hb⟩
  have hr:=hx.later hb
  have cr:=hr.cell
  have fr:=hr.free
  have lr:=hr.lt
  go_wp2_with fail
  refine aP rfl rfl aJ Tryz.underlying36 rfl zk ?_
  exact ⟨rfl,aA⟩
 | some p =>
  have R:=zh (fun W=>iq (b:=true) (by rw [h];rfl) ha W)
  cases k:rd b with
  | none =>
   rw [show EY a b=(Fr.no,20) from oZ k]
   have R2:=zh (fun W=>iq (b:=false) (by rw [k];rfl) hb W)
   obtain ⟨s,t⟩:=a
   obtain ⟨s',t'⟩:=b
   show Calls _ _ #[.agg #[.string s,.string t],.agg #[.string s',.string t']] _ _
   replace R:Hid (∀ W,Calls Tryz.prog 149 #[.agg #[.string s,.string t]] W (fun e w'=>e= .returned (.bool true)∧Below W.heap.size W w')):=R
   replace R2:Hid (∀ W,Calls Tryz.prog 149 #[.agg #[.string s',.string t']] W (fun e w'=>e= .returned (.bool false)∧Below W.heap.size W w')):=R2
   clear h ha hb k
   go_enter Tryz.func150,Tryz.ntmps150
   go_wp2_with fail
   have hz:Below w.heap.size w (((w.alloc (.cells #[.string s,.string t] 36)).alloc (.cells #[.string s',.string t'] 36)).alloc (.cells #[.string ⟨#[]⟩,.string ⟨#[]⟩] 36)):=aA
   obtain ⟨aO,EW⟩:∃ y,(((w.alloc (.cells #[.string s,.string t] 36)).alloc (.cells #[.string s',.string t'] 36)).alloc (.cells #[.string ⟨#[]⟩,.string ⟨#[]⟩] 36))=y:=⟨_,rfl⟩
   have X1:Hid (au aO (w.heap.size) #[.string s,.string t] 36):=zh (by rw [← EW];exact au.alloc (au.alloc (au.new _ _ _) _) _)
   have X2:Hid (au aO (w.heap.size+1) #[.string s',.string t'] 36):=zh (by rw [← EW];exact au.alloc (au.fZ _ _ _ _) _)
   have X3:Hid (au aO (w.heap.size+1+1) #[.string ⟨#[]⟩,.string ⟨#[]⟩] 36):=zh (by rw [← EW];exact au.at2 _ _ _ _ _)
   rw [EW] at hz ⊢
   have hk2:=Bt (Below.refl _ _) hz
   clear EW hz
   refine (R.out _).mono ?_
   rintro e fM ⟨rfl,hb3⟩
   replace X1:=zh (X1.out.later hb3)
   replace X2:=zh (X2.out.later hb3)
   replace X3:=zh (X3.out.later hb3)
   have hk5:=Bt hk2 hb3
   clear hk2
   clear hb3
   have dY:=X2.out.cell;have dW:=X2.out.lt;have gN:=X2.out.free
   go_wp2_with fail
   clear dY dW gN
   refine (R2.out _).mono ?_
   rintro e iC ⟨rfl,hb6⟩
   replace X1:=zh (X1.out.later hb6)
   replace X2:=zh (X2.out.later hb6)
   replace X3:=zh (X3.out.later hb6)
   have oI:=Bt hk5 hb6
   clear hk5
   clear hb6
   have mo:=X3.out.cell;have mg:=X3.out.lt;have pX:=X3.out.free
   have hres:=X3.out
   have iU:=hres.cell
   have iT:=hres.free
   go_wp2_with fail
   refine aP rfl rfl aJ Tryz.underlying36 rfl zk ?_
   exact ⟨rfl,aA⟩
  | some q =>
   rw [show EY a b=wr (p - q) from iQ h k]
   have R2:=zh (fun W=>iq (b:=true) (by rw [k];rfl) hb W)
   have I1:=zh (fun W=>uW h W)
   have I2:=zh (fun W=>uW k W)
   have hp:=qV h
   have hq:=qV k
   have OP:=zh (fun x y W hx hy=>tT x y p q W hx hy (hp.mono zo) (hq.mono zo))
   have hs:dZ 1000 (p - q):=(U7 hp hq).mono zo
   obtain ⟨f1,f2⟩:=dZ.M7 hs
   have OU:=zh (fun x W hx=>rF x (p - q) W hx f1 f2)
   clear f1 f2 hp hq hs
   generalize p - q=r at *
   obtain ⟨⟨⟨s1,s2⟩,k1⟩,E⟩:∃ y,wr r=y:=⟨_,rfl⟩
   rw [E] at OU ⊢
   obtain ⟨s,t⟩:=a
   obtain ⟨s',t'⟩:=b
   show Calls _ _ #[.agg #[.string s,.string t],.agg #[.string s',.string t']] _ _
   replace R:Hid (∀ W,Calls Tryz.prog 149 #[.agg #[.string s,.string t]] W (fun e w'=>e= .returned (.bool true)∧Below W.heap.size W w')):=R
   replace R2:Hid (∀ W,Calls Tryz.prog 149 #[.agg #[.string s',.string t']] W (fun e w'=>e= .returned (.bool true)∧Below W.heap.size W w')):=R2
   replace I1:Hid (∀ W,Calls Tryz.prog 166 #[.agg #[.string s,.string t]] W (dD W p)):=I1
   replace I2:Hid (∀ W,Calls Tryz.prog 166 #[.agg #[.string s',.string t']] W (dD W q)):=I2
   replace OU:Hid (∀ x W,Ra W x r→Calls Tryz.prog 109 #[x] W (fun e w'=>e= .returned (.tuple #[.agg #[.string s1,.string s2],.int .i64 k1])∧Below W.heap.size W w')):=OU
   clear h ha hb k E
   go_enter Tryz.func150,Tryz.ntmps150
   go_wp2_with fail
   have hz:Below w.heap.size w (((w.alloc (.cells #[.string s,.string t] 36)).alloc (.cells #[.string s',.string t'] 36)).alloc (.cells #[.string ⟨#[]⟩,.string ⟨#[]⟩] 36)):=aA
   obtain ⟨aO,EW⟩:∃ y,(((w.alloc (.cells #[.string s,.string t] 36)).alloc (.cells #[.string s',.string t'] 36)).alloc (.cells #[.string ⟨#[]⟩,.string ⟨#[]⟩] 36))=y:=⟨_,rfl⟩
   have X1:Hid (au aO (w.heap.size) #[.string s,.string t] 36):=zh (by rw [← EW];exact au.alloc (au.alloc (au.new _ _ _) _) _)
   have X2:Hid (au aO (w.heap.size+1) #[.string s',.string t'] 36):=zh (by rw [← EW];exact au.alloc (au.fZ _ _ _ _) _)
   have X3:Hid (au aO (w.heap.size+1+1) #[.string ⟨#[]⟩,.string ⟨#[]⟩] 36):=zh (by rw [← EW];exact au.at2 _ _ _ _ _)
   rw [EW] at hz ⊢
   have hk2:=Bt (Below.refl _ _) hz
   clear EW hz
   refine (R.out _).mono ?_
   rintro e fM ⟨rfl,hb3⟩
   replace X1:=zh (X1.out.later hb3)
   replace X2:=zh (X2.out.later hb3)
   replace X3:=zh (X3.out.later hb3)
   have hk5:=Bt hk2 hb3
   clear hk2
   clear hb3
   have dY:=X2.out.cell;have dW:=X2.out.lt;have gN:=X2.out.free
   go_wp2_with fail
   clear dY dW gN
   refine (R2.out _).mono ?_
   rintro e iC ⟨rfl,hb6⟩
   replace X1:=zh (X1.out.later hb6)
   replace X2:=zh (X2.out.later hb6)
   replace X3:=zh (X3.out.later hb6)
   have oI:=Bt hk5 hb6
   clear hk5
   clear hb6
   go_wp2_with fail
   have eP:=X1.out.cell;have eO:=X1.out.lt;have fU:=X1.out.free
   have dY:=X2.out.cell;have dW:=X2.out.lt;have gN:=X2.out.free
   refine aC [(.read,0),(.read,2),(.ext,1),(.ext,3),(.ext,4),(.ext,5),(.pure,6),(.pure,7),(.fin,8),(.fin,9)] zk zk zR zP ?_
   repeat (first|(refine ah rfl rfl fun J h=>?_;go_simp;refine h _ ?_;clear h J)|(refine aB rfl rfl rfl rfl fun J h=>?_;go_simp;refine h _ ?_;clear h J;try go_simp))
   refine aD rfl rfl (fun pW gX J hJ=>?_);go_simp
   have gH:Below iC.heap.size iC pW:=aA
   clear gX
   refine (I1.out _).mono ?_
   rintro e dO ⟨v,rfl,dh,fJ⟩
   obtain ⟨bA,gG,lA,gK,xL,kW,xK,kX,rfl,Bb,Ba⟩:=id fJ
   refine hJ _ _ dh ?_
   clear hJ J
   have fE:=Bt gH dh
   have QA:=zh fJ
   clear gH dh fJ Bb Ba
   repeat (first|(refine ah rfl rfl fun J h=>?_;go_simp;refine h _ ?_;clear h J)|(refine aB rfl rfl rfl rfl fun J h=>?_;go_simp;refine h _ ?_;clear h J;try go_simp))
   refine aD rfl rfl (fun qb iE J hJ=>?_);go_simp
   have hh12:Below iC.heap.size iC qb:=Bt fE aA
   replace QA:=zh (QA.out.later (show Below dO.heap.size dO qb from aA))
   clear iE fE
   refine (I2.out _).mono ?_
   rintro e gY ⟨v,rfl,fF,vL⟩
   obtain ⟨bB,iK,lB,iP,zT,nG,zK,nP,rfl,vJ,KH⟩:=id vL
   refine hJ _ _ fF ?_
   clear hJ J
   have lN:=Bt hh12 fF
   replace QA:=zh (QA.out.later fF)
   have QB:=zh vL
   clear hh12 fF vL vJ KH
   repeat (first|(refine ah rfl rfl fun J h=>?_;go_simp;refine h _ ?_;clear h J)|(refine aB rfl rfl rfl rfl fun J h=>?_;go_simp;refine h _ ?_;clear h J;try go_simp))
   refine aD rfl rfl (fun sj wU J hJ=>?_);go_simp
   have vM:Below iC.heap.size iC sj:=Bt lN aA
   replace QA:=zh (QA.out.later (show Below gY.heap.size gY sj from aA))
   replace QB:=zh (QB.out.later (show Below gY.heap.size gY sj from aA))
   clear wU lN
   refine (OP.out _ _ _ QA.out QB.out).mono ?_
   rintro e kV ⟨v,rfl,jF,vK⟩
   obtain ⟨bC,Ch,lC,Cj,bCd,Vi,lCd,WC,rfl,qY,KF⟩:=id vK
   refine hJ _ _ jF ?_
   clear hJ J
   have nH:=Bt vM jF
   replace QA:=zh (QA.out.later jF)
   replace QB:=zh (QB.out.later jF)
   have QC:=zh vK
   clear vM jF vK qY KF
   repeat (first|(refine ah rfl rfl fun J h=>?_;go_simp;refine h _ ?_;clear h J)|(refine aB rfl rfl rfl rfl fun J h=>?_;go_simp;refine h _ ?_;clear h J;try go_simp))
   refine aD rfl rfl (fun pG nI J hJ=>?_);go_simp
   have rT:Below iC.heap.size iC pG:=Bt nH aA
   replace QA:=zh (QA.out.later (show Below kV.heap.size kV pG from aA))
   replace QB:=zh (QB.out.later (show Below kV.heap.size kV pG from aA))
   replace QC:=zh (QC.out.later (show Below kV.heap.size kV pG from aA))
   clear nI nH
   refine (OU.out _ _ QC.out).mono ?_
   rintro e kU ⟨rfl,jk⟩
   refine hJ _ _ jk ?_
   clear hJ J
   have rR:=Bt rT jk
   replace QA:=zh (QA.out.later jk)
   replace QB:=zh (QB.out.later jk)
   replace QC:=zh (QC.out.later jk)
   clear rT jk
   repeat (first|(refine ah rfl rfl fun J h=>?_;go_simp;refine h _ ?_;clear h J)|(refine aB rfl rfl rfl rfl fun J h=>?_;go_simp;refine h _ ?_;clear h J;try go_simp))
   refine aI [_,_] rfl (fun oJ CW=>?_)
   replace QA:=zh (QA.out.later (show Below kU.heap.size kU oJ from aA))
   replace QB:=zh (QB.out.later (show Below kU.heap.size kU oJ from aA))
   replace QC:=zh (QC.out.later (show Below kU.heap.size kU oJ from aA))
   have kM:Below iC.heap.size iC oJ:=Bt rR aA
   clear CW rR
   clear eP eO fU dY dW gN
   replace X1:=zh (X1.out.later kM)
   replace X2:=zh (X2.out.later kM)
   replace X3:=zh (X3.out.later kM)
   have O9:=Bt oI kM
   clear oI
   clear kM
   clear QA
   clear QB
   clear QC
   have mo:=X3.out.cell;have mg:=X3.out.lt;have pX:=X3.out.free
   have hres:=X3.out
   have iU:=hres.cell
   have iT:=hres.free
   go_wp2_with fail
   refine aP rfl rfl aJ Tryz.underlying36 rfl zk ?_
   exact ⟨rfl,aA⟩
theorem tQ (a b:Fr) (w:World) (ha:Fits a) (hb:Fits b):Calls Tryz.prog 154 #[a.v,b.v] w (oH w (Ik a b)):=by
 unfold oH
 cases h:rd a with
 | none =>
  rw [show Ik a b=(Fr.no,20) from o7 h]
  have R:=zh (fun W=>iq (b:=false) (by rw [h];rfl) ha W)
  obtain ⟨s,t⟩:=a
  obtain ⟨s',t'⟩:=b
  show Calls _ _ #[.agg #[.string s,.string t],.agg #[.string s',.string t']] _ _
  replace R:Hid (∀ W,Calls Tryz.prog 149 #[.agg #[.string s,.string t]] W (fun e w'=>e= .returned (.bool false)∧Below W.heap.size W w')):=R
  clear h ha hb
  have h0:Below w.heap.size w (((w.alloc (.cells #[.string s,.string t] 36)).alloc (.cells #[.string s',.string t'] 36)).alloc (.cells #[.string ⟨#[]⟩,.string ⟨#[]⟩] 36)):=aA
  have hx:=au.at2 w (.cells #[.string s,.string t] 36) (.cells #[.string s',.string t'] 36) #[.string ⟨#[]⟩,.string ⟨#[]⟩] 36
  go_enter Tryz.func154,Tryz.ntmps154
  go_wp2_with fail
  refine (R.out _).mono ?_
  rintro e w1 ⟨rfl,hb⟩
  have hr:=hx.later hb
  have cr:=hr.cell
  have fr:=hr.free
  have lr:=hr.lt
  go_wp2_with fail
  refine aP rfl rfl aJ Tryz.underlying36 rfl zk ?_
  exact ⟨rfl,aA⟩
 | some p =>
  have R:=zh (fun W=>iq (b:=true) (by rw [h];rfl) ha W)
  cases k:rd b with
  | none =>
   rw [show Ik a b=(Fr.no,20) from oZ k]
   have R2:=zh (fun W=>iq (b:=false) (by rw [k];rfl) hb W)
   obtain ⟨s,t⟩:=a
   obtain ⟨s',t'⟩:=b
   show Calls _ _ #[.agg #[.string s,.string t],.agg #[.string s',.string t']] _ _
   replace R:Hid (∀ W,Calls Tryz.prog 149 #[.agg #[.string s,.string t]] W (fun e w'=>e= .returned (.bool true)∧Below W.heap.size W w')):=R
   replace R2:Hid (∀ W,Calls Tryz.prog 149 #[.agg #[.string s',.string t']] W (fun e w'=>e= .returned (.bool false)∧Below W.heap.size W w')):=R2
   clear h ha hb k
   go_enter Tryz.func154,Tryz.ntmps154
   go_wp2_with fail
   have hz:Below w.heap.size w (((w.alloc (.cells #[.string s,.string t] 36)).alloc (.cells #[.string s',.string t'] 36)).alloc (.cells #[.string ⟨#[]⟩,.string ⟨#[]⟩] 36)):=aA
   obtain ⟨aO,EW⟩:∃ y,(((w.alloc (.cells #[.string s,.string t] 36)).alloc (.cells #[.string s',.string t'] 36)).alloc (.cells #[.string ⟨#[]⟩,.string ⟨#[]⟩] 36))=y:=⟨_,rfl⟩
   have X1:Hid (au aO (w.heap.size) #[.string s,.string t] 36):=zh (by rw [← EW];exact au.alloc (au.alloc (au.new _ _ _) _) _)
   have X2:Hid (au aO (w.heap.size+1) #[.string s',.string t'] 36):=zh (by rw [← EW];exact au.alloc (au.fZ _ _ _ _) _)
   have X3:Hid (au aO (w.heap.size+1+1) #[.string ⟨#[]⟩,.string ⟨#[]⟩] 36):=zh (by rw [← EW];exact au.at2 _ _ _ _ _)
   rw [EW] at hz ⊢
   have hk2:=Bt (Below.refl _ _) hz
   clear EW hz
   refine (R.out _).mono ?_
   rintro e fM ⟨rfl,hb3⟩
   replace X1:=zh (X1.out.later hb3)
   replace X2:=zh (X2.out.later hb3)
   replace X3:=zh (X3.out.later hb3)
   have hk5:=Bt hk2 hb3
   clear hk2
   clear hb3
   have dY:=X2.out.cell;have dW:=X2.out.lt;have gN:=X2.out.free
   go_wp2_with fail
   clear dY dW gN
   refine (R2.out _).mono ?_
   rintro e iC ⟨rfl,hb6⟩
   replace X1:=zh (X1.out.later hb6)
   replace X2:=zh (X2.out.later hb6)
   replace X3:=zh (X3.out.later hb6)
   have oI:=Bt hk5 hb6
   clear hk5
   clear hb6
   have mo:=X3.out.cell;have mg:=X3.out.lt;have pX:=X3.out.free
   have hres:=X3.out
   have iU:=hres.cell
   have iT:=hres.free
   go_wp2_with fail
   refine aP rfl rfl aJ Tryz.underlying36 rfl zk ?_
   exact ⟨rfl,aA⟩
  | some q =>
   rw [show Ik a b=wr (p*q) from iQ h k]
   have R2:=zh (fun W=>iq (b:=true) (by rw [k];rfl) hb W)
   have I1:=zh (fun W=>uW h W)
   have I2:=zh (fun W=>uW k W)
   have hp:=qV h
   have hq:=qV k
   have OP:=zh (fun x y W hx hy=>iR x y p q W hx hy (hp.mono zo) (hq.mono zo))
   have hs:dZ 1000 (p*q):=(qN hp hq).mono zo
   obtain ⟨f1,f2⟩:=dZ.M7 hs
   have OU:=zh (fun x W hx=>rF x (p*q) W hx f1 f2)
   clear f1 f2 hp hq hs
   generalize p*q=r at *
   obtain ⟨⟨⟨s1,s2⟩,k1⟩,E⟩:∃ y,wr r=y:=⟨_,rfl⟩
   rw [E] at OU ⊢
   obtain ⟨s,t⟩:=a
   obtain ⟨s',t'⟩:=b
   show Calls _ _ #[.agg #[.string s,.string t],.agg #[.string s',.string t']] _ _
   replace R:Hid (∀ W,Calls Tryz.prog 149 #[.agg #[.string s,.string t]] W (fun e w'=>e= .returned (.bool true)∧Below W.heap.size W w')):=R
   replace R2:Hid (∀ W,Calls Tryz.prog 149 #[.agg #[.string s',.string t']] W (fun e w'=>e= .returned (.bool true)∧Below W.heap.size W w')):=R2
   replace I1:Hid (∀ W,Calls Tryz.prog 166 #[.agg #[.string s,.string t]] W (dD W p)):=I1
   replace I2:Hid (∀ W,Calls Tryz.prog 166 #[.agg #[.string s',.string t']] W (dD W q)):=I2
   replace OU:Hid (∀ x W,Ra W x r→Calls Tryz.prog 109 #[x] W (fun e w'=>e= .returned (.tuple #[.agg #[.string s1,.string s2],.int .i64 k1])∧Below W.heap.size W w')):=OU
   clear h ha hb k E
   go_enter Tryz.func154,Tryz.ntmps154
   go_wp2_with fail
   have hz:Below w.heap.size w (((w.alloc (.cells #[.string s,.string t] 36)).alloc (.cells #[.string s',.string t'] 36)).alloc (.cells #[.string ⟨#[]⟩,.string ⟨#[]⟩] 36)):=aA
   obtain ⟨aO,EW⟩:∃ y,(((w.alloc (.cells #[.string s,.string t] 36)).alloc (.cells #[.string s',.string t'] 36)).alloc (.cells #[.string ⟨#[]⟩,.string ⟨#[]⟩] 36))=y:=⟨_,rfl⟩
   have X1:Hid (au aO (w.heap.size) #[.string s,.string t] 36):=zh (by rw [← EW];exact au.alloc (au.alloc (au.new _ _ _) _) _)
   have X2:Hid (au aO (w.heap.size+1) #[.string s',.string t'] 36):=zh (by rw [← EW];exact au.alloc (au.fZ _ _ _ _) _)
   have X3:Hid (au aO (w.heap.size+1+1) #[.string ⟨#[]⟩,.string ⟨#[]⟩] 36):=zh (by rw [← EW];exact au.at2 _ _ _ _ _)
   rw [EW] at hz ⊢
   have hk2:=Bt (Below.refl _ _) hz
   clear EW hz
   refine (R.out _).mono ?_
   rintro e fM ⟨rfl,hb3⟩
   replace X1:=zh (X1.out.later hb3)
   replace X2:=zh (X2.out.later hb3)
   replace X3:=zh (X3.out.later hb3)
   have hk5:=Bt hk2 hb3
   clear hk2
   clear hb3
   have dY:=X2.out.cell;have dW:=X2.out.lt;have gN:=X2.out.free
   go_wp2_with fail
   clear dY dW gN
   refine (R2.out _).mono ?_
   rintro e iC ⟨rfl,hb6⟩
   replace X1:=zh (X1.out.later hb6)
   replace X2:=zh (X2.out.later hb6)
   replace X3:=zh (X3.out.later hb6)
   have oI:=Bt hk5 hb6
   clear hk5
   clear hb6
   go_wp2_with fail
   have eP:=X1.out.cell;have eO:=X1.out.lt;have fU:=X1.out.free
   have dY:=X2.out.cell;have dW:=X2.out.lt;have gN:=X2.out.free
   refine aC [(.read,0),(.read,2),(.ext,1),(.ext,3),(.ext,4),(.ext,5),(.pure,6),(.pure,7),(.fin,8),(.fin,9)] zk zk zR zP ?_
   repeat (first|(refine ah rfl rfl fun J h=>?_;go_simp;refine h _ ?_;clear h J)|(refine aB rfl rfl rfl rfl fun J h=>?_;go_simp;refine h _ ?_;clear h J;try go_simp))
   refine aD rfl rfl (fun pW gX J hJ=>?_);go_simp
   have gH:Below iC.heap.size iC pW:=aA
   clear gX
   refine (I1.out _).mono ?_
   rintro e dO ⟨v,rfl,dh,fJ⟩
   obtain ⟨bA,gG,lA,gK,xL,kW,xK,kX,rfl,Bb,Ba⟩:=id fJ
   refine hJ _ _ dh ?_
   clear hJ J
   have fE:=Bt gH dh
   have QA:=zh fJ
   clear gH dh fJ Bb Ba
   repeat (first|(refine ah rfl rfl fun J h=>?_;go_simp;refine h _ ?_;clear h J)|(refine aB rfl rfl rfl rfl fun J h=>?_;go_simp;refine h _ ?_;clear h J;try go_simp))
   refine aD rfl rfl (fun qb iE J hJ=>?_);go_simp
   have hh12:Below iC.heap.size iC qb:=Bt fE aA
   replace QA:=zh (QA.out.later (show Below dO.heap.size dO qb from aA))
   clear iE fE
   refine (I2.out _).mono ?_
   rintro e gY ⟨v,rfl,fF,vL⟩
   obtain ⟨bB,iK,lB,iP,zT,nG,zK,nP,rfl,vJ,KH⟩:=id vL
   refine hJ _ _ fF ?_
   clear hJ J
   have lN:=Bt hh12 fF
   replace QA:=zh (QA.out.later fF)
   have QB:=zh vL
   clear hh12 fF vL vJ KH
   repeat (first|(refine ah rfl rfl fun J h=>?_;go_simp;refine h _ ?_;clear h J)|(refine aB rfl rfl rfl rfl fun J h=>?_;go_simp;refine h _ ?_;clear h J;try go_simp))
   refine aD rfl rfl (fun sj wU J hJ=>?_);go_simp
   have vM:Below iC.heap.size iC sj:=Bt lN aA
   replace QA:=zh (QA.out.later (show Below gY.heap.size gY sj from aA))
   replace QB:=zh (QB.out.later (show Below gY.heap.size gY sj from aA))
   clear wU lN
   refine (OP.out _ _ _ QA.out QB.out).mono ?_
   rintro e kV ⟨v,rfl,jF,vK⟩
   obtain ⟨bC,Ch,lC,Cj,bCd,Vi,lCd,WC,rfl,qY,KF⟩:=id vK
   refine hJ _ _ jF ?_
   clear hJ J
   have nH:=Bt vM jF
   replace QA:=zh (QA.out.later jF)
   replace QB:=zh (QB.out.later jF)
   have QC:=zh vK
   clear vM jF vK qY KF
   repeat (first|(refine ah rfl rfl fun J h=>?_;go_simp;refine h _ ?_;clear h J)|(refine aB rfl rfl rfl rfl fun J h=>?_;go_simp;refine h _ ?_;clear h J;try go_simp))
   refine aD rfl rfl (fun pG nI J hJ=>?_);go_simp
   have rT:Below iC.heap.size iC pG:=Bt nH aA
   replace QA:=zh (QA.out.later (show Below kV.heap.size kV pG from aA))
   replace QB:=zh (QB.out.later (show Below kV.heap.size kV pG from aA))
   replace QC:=zh (QC.out.later (show Below kV.heap.size kV pG from aA))
   clear nI nH
   refine (OU.out _ _ QC.out).mono ?_
   rintro e kU ⟨rfl,jk⟩
   refine hJ _ _ jk ?_
   clear hJ J
   have rR:=Bt rT jk
   replace QA:=zh (QA.out.later jk)
   replace QB:=zh (QB.out.later jk)
   replace QC:=zh (QC.out.later jk)
   clear rT jk
   repeat (first|(refine ah rfl rfl fun J h=>?_;go_simp;refine h _ ?_;clear h J)|(refine aB rfl rfl rfl rfl fun J h=>?_;go_simp;refine h _ ?_;clear h J;try go_simp))
   refine aI [_,_] rfl (fun oJ CW=>?_)
   replace QA:=zh (QA.out.later (show Below kU.heap.size kU oJ from aA))
   replace QB:=zh (QB.out.later (show Below kU.heap.size kU oJ from aA))
   replace QC:=zh (QC.out.later (show Below kU.heap.size kU oJ from aA))
   have kM:Below iC.heap.size iC oJ:=Bt rR aA
   clear CW rR
   clear eP eO fU dY dW gN
   replace X1:=zh (X1.out.later kM)
   replace X2:=zh (X2.out.later kM)
   replace X3:=zh (X3.out.later kM)
   have O9:=Bt oI kM
   clear oI
   clear kM
   clear QA
   clear QB
   clear QC
   have mo:=X3.out.cell;have mg:=X3.out.lt;have pX:=X3.out.free
   have hres:=X3.out
   have iU:=hres.cell
   have iT:=hres.free
   go_wp2_with fail
   refine aP rfl rfl aJ Tryz.underlying36 rfl zk ?_
   exact ⟨rfl,aA⟩
theorem Cc (a b:Fr) (w:World) (ha:Fits a) (hb:Fits b):Calls Tryz.prog 155 #[a.v,b.v] w (oH w (zA a b)):=by
 unfold oH
 cases h:rd a with
 | none =>
  rw [show zA a b=(Fr.no,20) from o7 h]
  have R:=zh (fun W=>iq (b:=false) (by rw [h];rfl) ha W)
  obtain ⟨s,t⟩:=a
  obtain ⟨s',t'⟩:=b
  show Calls _ _ #[.agg #[.string s,.string t],.agg #[.string s',.string t']] _ _
  replace R:Hid (∀ W,Calls Tryz.prog 149 #[.agg #[.string s,.string t]] W (fun e w'=>e= .returned (.bool false)∧Below W.heap.size W w')):=R
  clear h ha hb
  have h0:Below w.heap.size w (((w.alloc (.cells #[.string s,.string t] 36)).alloc (.cells #[.string s',.string t'] 36)).alloc (.cells #[.string ⟨#[]⟩,.string ⟨#[]⟩] 36)):=aA
  have hx:=au.at2 w (.cells #[.string s,.string t] 36) (.cells #[.string s',.string t'] 36) #[.string ⟨#[]⟩,.string ⟨#[]⟩] 36
  go_enter Tryz.func155,Tryz.ntmps155
  go_wp2_with fail
  refine (R.out _).mono ?_
  rintro e w1 ⟨rfl,hb⟩
  have hr:=hx.later hb
  have cr:=hr.cell
  have fr:=hr.free
  have lr:=hr.lt
  go_wp2_with fail
  refine aP rfl rfl aJ Tryz.underlying36 rfl zk ?_
  exact ⟨rfl,aA⟩
 | some p =>
  have R:=zh (fun W=>iq (b:=true) (by rw [h];rfl) ha W)
  cases k:rd b with
  | none =>
   rw [show zA a b=(Fr.no,20) from oZ k]
   have R2:=zh (fun W=>iq (b:=false) (by rw [k];rfl) hb W)
   obtain ⟨s,t⟩:=a
   obtain ⟨s',t'⟩:=b
   show Calls _ _ #[.agg #[.string s,.string t],.agg #[.string s',.string t']] _ _
   replace R:Hid (∀ W,Calls Tryz.prog 149 #[.agg #[.string s,.string t]] W (fun e w'=>e= .returned (.bool true)∧Below W.heap.size W w')):=R
   replace R2:Hid (∀ W,Calls Tryz.prog 149 #[.agg #[.string s',.string t']] W (fun e w'=>e= .returned (.bool false)∧Below W.heap.size W w')):=R2
   clear h ha hb k
   go_enter Tryz.func155,Tryz.ntmps155
   go_wp2_with fail
   have hz:Below w.heap.size w (((w.alloc (.cells #[.string s,.string t] 36)).alloc (.cells #[.string s',.string t'] 36)).alloc (.cells #[.string ⟨#[]⟩,.string ⟨#[]⟩] 36)):=aA
   obtain ⟨aO,EW⟩:∃ y,(((w.alloc (.cells #[.string s,.string t] 36)).alloc (.cells #[.string s',.string t'] 36)).alloc (.cells #[.string ⟨#[]⟩,.string ⟨#[]⟩] 36))=y:=⟨_,rfl⟩
   have X1:Hid (au aO (w.heap.size) #[.string s,.string t] 36):=zh (by rw [← EW];exact au.alloc (au.alloc (au.new _ _ _) _) _)
   have X2:Hid (au aO (w.heap.size+1) #[.string s',.string t'] 36):=zh (by rw [← EW];exact au.alloc (au.fZ _ _ _ _) _)
   have X3:Hid (au aO (w.heap.size+1+1) #[.string ⟨#[]⟩,.string ⟨#[]⟩] 36):=zh (by rw [← EW];exact au.at2 _ _ _ _ _)
   rw [EW] at hz ⊢
   have hk2:=Bt (Below.refl _ _) hz
   clear EW hz
   refine (R.out _).mono ?_
   rintro e fM ⟨rfl,hb3⟩
   replace X1:=zh (X1.out.later hb3)
   replace X2:=zh (X2.out.later hb3)
   replace X3:=zh (X3.out.later hb3)
   have hk5:=Bt hk2 hb3
   clear hk2
   clear hb3
   have dY:=X2.out.cell;have dW:=X2.out.lt;have gN:=X2.out.free
   go_wp2_with fail
   clear dY dW gN
   refine (R2.out _).mono ?_
   rintro e iC ⟨rfl,hb6⟩
   replace X1:=zh (X1.out.later hb6)
   replace X2:=zh (X2.out.later hb6)
   replace X3:=zh (X3.out.later hb6)
   have oI:=Bt hk5 hb6
   clear hk5
   clear hb6
   have mo:=X3.out.cell;have mg:=X3.out.lt;have pX:=X3.out.free
   have hres:=X3.out
   have iU:=hres.cell
   have iT:=hres.free
   go_wp2_with fail
   refine aP rfl rfl aJ Tryz.underlying36 rfl zk ?_
   exact ⟨rfl,aA⟩
  | some q =>
   have R2:=zh (fun W=>iq (b:=true) (by rw [k];rfl) hb W)
   have hz:=Oa k
   by_cases h0:q=0
   ·rw [show zA a b=(Fr.no,7) by rw [show zA a b=if q=0 then (Fr.no,7) else wr (p / q) from iQ h k,if_pos h0]]
    rw [decide_eq_true h0] at hz
    obtain ⟨s,t⟩:=a
    obtain ⟨s',t'⟩:=b
    show Calls _ _ #[.agg #[.string s,.string t],.agg #[.string s',.string t']] _ _
    replace hz:(s'.toList == [48])=true:=hz
    replace R:Hid (∀ W,Calls Tryz.prog 149 #[.agg #[.string s,.string t]] W (fun e w'=>e= .returned (.bool true)∧Below W.heap.size W w')):=R
    replace R2:Hid (∀ W,Calls Tryz.prog 149 #[.agg #[.string s',.string t']] W (fun e w'=>e= .returned (.bool true)∧Below W.heap.size W w')):=R2
    clear h ha hb k h0
    go_enter Tryz.func155,Tryz.ntmps155
    go_wp2_with fail
    have hz:Below w.heap.size w (((w.alloc (.cells #[.string s,.string t] 36)).alloc (.cells #[.string s',.string t'] 36)).alloc (.cells #[.string ⟨#[]⟩,.string ⟨#[]⟩] 36)):=aA
    obtain ⟨aO,EW⟩:∃ y,(((w.alloc (.cells #[.string s,.string t] 36)).alloc (.cells #[.string s',.string t'] 36)).alloc (.cells #[.string ⟨#[]⟩,.string ⟨#[]⟩] 36))=y:=⟨_,rfl⟩
    have X1:Hid (au aO (w.heap.size) #[.string s,.string t] 36):=zh (by rw [← EW];exact au.alloc (au.alloc (au.new _ _ _) _) _)
    have X2:Hid (au aO (w.heap.size+1) #[.string s',.string t'] 36):=zh (by rw [← EW];exact au.alloc (au.fZ _ _ _ _) _)
    have X3:Hid (au aO (w.heap.size+1+1) #[.string ⟨#[]⟩,.string ⟨#[]⟩] 36):=zh (by rw [← EW];exact au.at2 _ _ _ _ _)
    rw [EW] at hz ⊢
    have hk2:=Bt (Below.refl _ _) hz
    clear EW hz
    refine (R.out _).mono ?_
    rintro e fM ⟨rfl,hb3⟩
    replace X1:=zh (X1.out.later hb3)
    replace X2:=zh (X2.out.later hb3)
    replace X3:=zh (X3.out.later hb3)
    have hk5:=Bt hk2 hb3
    clear hk2
    clear hb3
    have dY:=X2.out.cell;have dW:=X2.out.lt;have gN:=X2.out.free
    go_wp2_with fail
    clear dY dW gN
    refine (R2.out _).mono ?_
    rintro e iC ⟨rfl,hb6⟩
    replace X1:=zh (X1.out.later hb6)
    replace X2:=zh (X2.out.later hb6)
    replace X3:=zh (X3.out.later hb6)
    have oI:=Bt hk5 hb6
    clear hk5
    clear hb6
    have dY:=X2.out.cell;have dW:=X2.out.lt;have gN:=X2.out.free
    have mo:=X3.out.cell;have mg:=X3.out.lt;have pX:=X3.out.free
    have hres:=X3.out
    have iU:=hres.cell
    have iT:=hres.free
    go_wp2_with fail
    refine aP rfl rfl aJ Tryz.underlying36 rfl zk ?_
    exact ⟨rfl,aA⟩
   ·rw [show zA a b=wr (p / q) by rw [show zA a b=if q=0 then (Fr.no,7) else wr (p / q) from iQ h k,if_neg h0]]
    rw [decide_eq_false h0] at hz
    have I1:=zh (fun W=>uW h W)
    have I2:=zh (fun W=>uW k W)
    have hp:=qV h
    have hq:=qV k
    have OP:=zh (fun x y W hx hy=>Ny x y p q W hx hy (hp.mono zo) (hq.mono zo) h0)
    have hs:dZ 1000 (p / q):=by
     rw [Rat.div_def]
     exact (qN hp (EN hq h0)).mono zo
    obtain ⟨f1,f2⟩:=dZ.M7 hs
    have OU:=zh (fun x W hx=>rF x (p / q) W hx f1 f2)
    clear f1 f2 hp hq hs h0
    generalize p / q=r at *
    obtain ⟨⟨⟨s1,s2⟩,k1⟩,E⟩:∃ y,wr r=y:=⟨_,rfl⟩
    rw [E] at OU ⊢
    obtain ⟨s,t⟩:=a
    obtain ⟨s',t'⟩:=b
    show Calls _ _ #[.agg #[.string s,.string t],.agg #[.string s',.string t']] _ _
    replace hz:(s'.toList == [48])=false:=hz
    replace R:Hid (∀ W,Calls Tryz.prog 149 #[.agg #[.string s,.string t]] W (fun e w'=>e= .returned (.bool true)∧Below W.heap.size W w')):=R
    replace R2:Hid (∀ W,Calls Tryz.prog 149 #[.agg #[.string s',.string t']] W (fun e w'=>e= .returned (.bool true)∧Below W.heap.size W w')):=R2
    replace I1:Hid (∀ W,Calls Tryz.prog 166 #[.agg #[.string s,.string t]] W (dD W p)):=I1
    replace I2:Hid (∀ W,Calls Tryz.prog 166 #[.agg #[.string s',.string t']] W (dD W q)):=I2
    replace OU:Hid (∀ x W,Ra W x r→Calls Tryz.prog 109 #[x] W (fun e w'=>e= .returned (.tuple #[.agg #[.string s1,.string s2],.int .i64 k1])∧Below W.heap.size W w')):=OU
    clear h ha hb k E
    go_enter Tryz.func155,Tryz.ntmps155
    go_wp2_with fail
    have hz:Below w.heap.size w (((w.alloc (.cells #[.string s,.string t] 36)).alloc (.cells #[.string s',.string t'] 36)).alloc (.cells #[.string ⟨#[]⟩,.string ⟨#[]⟩] 36)):=aA
    obtain ⟨aO,EW⟩:∃ y,(((w.alloc (.cells #[.string s,.string t] 36)).alloc (.cells #[.string s',.string t'] 36)).alloc (.cells #[.string ⟨#[]⟩,.string ⟨#[]⟩] 36))=y:=⟨_,rfl⟩
    have X1:Hid (au aO (w.heap.size) #[.string s,.string t] 36):=zh (by rw [← EW];exact au.alloc (au.alloc (au.new _ _ _) _) _)
    have X2:Hid (au aO (w.heap.size+1) #[.string s',.string t'] 36):=zh (by rw [← EW];exact au.alloc (au.fZ _ _ _ _) _)
    have X3:Hid (au aO (w.heap.size+1+1) #[.string ⟨#[]⟩,.string ⟨#[]⟩] 36):=zh (by rw [← EW];exact au.at2 _ _ _ _ _)
    rw [EW] at hz ⊢
    have hk2:=Bt (Below.refl _ _) hz
    clear EW hz
    refine (R.out _).mono ?_
    rintro e fM ⟨rfl,hb3⟩
    replace X1:=zh (X1.out.later hb3)
    replace X2:=zh (X2.out.later hb3)
    replace X3:=zh (X3.out.later hb3)
    have hk5:=Bt hk2 hb3
    clear hk2
    clear hb3
    have dY:=X2.out.cell;have dW:=X2.out.lt;have gN:=X2.out.free
    go_wp2_with fail
    clear dY dW gN
    refine (R2.out _).mono ?_
    rintro e iC ⟨rfl,hb6⟩
    replace X1:=zh (X1.out.later hb6)
    replace X2:=zh (X2.out.later hb6)
    replace X3:=zh (X3.out.later hb6)
    have oI:=Bt hk5 hb6
    clear hk5
    clear hb6
    have dY:=X2.out.cell;have dW:=X2.out.lt;have gN:=X2.out.free
    go_wp2_with fail
    clear dY dW gN
    have eP:=X1.out.cell;have eO:=X1.out.lt;have fU:=X1.out.free
    have dY:=X2.out.cell;have dW:=X2.out.lt;have gN:=X2.out.free
    refine aC [(.read,0),(.read,2),(.ext,1),(.ext,3),(.ext,4),(.ext,5),(.pure,6),(.pure,7),(.fin,8),(.fin,9)] zk zk zR zP ?_
    repeat (first|(refine ah rfl rfl fun J h=>?_;go_simp;refine h _ ?_;clear h J)|(refine aB rfl rfl rfl rfl fun J h=>?_;go_simp;refine h _ ?_;clear h J;try go_simp))
    refine aD rfl rfl (fun pW gX J hJ=>?_);go_simp
    have gH:Below iC.heap.size iC pW:=aA
    clear gX
    refine (I1.out _).mono ?_
    rintro e dO ⟨v,rfl,dh,fJ⟩
    obtain ⟨bA,gG,lA,gK,xL,kW,xK,kX,rfl,Bb,Ba⟩:=id fJ
    refine hJ _ _ dh ?_
    clear hJ J
    have fE:=Bt gH dh
    have QA:=zh fJ
    clear gH dh fJ Bb Ba
    repeat (first|(refine ah rfl rfl fun J h=>?_;go_simp;refine h _ ?_;clear h J)|(refine aB rfl rfl rfl rfl fun J h=>?_;go_simp;refine h _ ?_;clear h J;try go_simp))
    refine aD rfl rfl (fun qb iE J hJ=>?_);go_simp
    have hh12:Below iC.heap.size iC qb:=Bt fE aA
    replace QA:=zh (QA.out.later (show Below dO.heap.size dO qb from aA))
    clear iE fE
    refine (I2.out _).mono ?_
    rintro e gY ⟨v,rfl,fF,vL⟩
    obtain ⟨bB,iK,lB,iP,zT,nG,zK,nP,rfl,vJ,KH⟩:=id vL
    refine hJ _ _ fF ?_
    clear hJ J
    have lN:=Bt hh12 fF
    replace QA:=zh (QA.out.later fF)
    have QB:=zh vL
    clear hh12 fF vL vJ KH
    repeat (first|(refine ah rfl rfl fun J h=>?_;go_simp;refine h _ ?_;clear h J)|(refine aB rfl rfl rfl rfl fun J h=>?_;go_simp;refine h _ ?_;clear h J;try go_simp))
    refine aD rfl rfl (fun sj wU J hJ=>?_);go_simp
    have vM:Below iC.heap.size iC sj:=Bt lN aA
    replace QA:=zh (QA.out.later (show Below gY.heap.size gY sj from aA))
    replace QB:=zh (QB.out.later (show Below gY.heap.size gY sj from aA))
    clear wU lN
    refine (OP.out _ _ _ QA.out QB.out).mono ?_
    rintro e kV ⟨v,rfl,jF,vK⟩
    obtain ⟨bC,Ch,lC,Cj,bCd,Vi,lCd,WC,rfl,qY,KF⟩:=id vK
    refine hJ _ _ jF ?_
    clear hJ J
    have nH:=Bt vM jF
    replace QA:=zh (QA.out.later jF)
    replace QB:=zh (QB.out.later jF)
    have QC:=zh vK
    clear vM jF vK qY KF
    repeat (first|(refine ah rfl rfl fun J h=>?_;go_simp;refine h _ ?_;clear h J)|(refine aB rfl rfl rfl rfl fun J h=>?_;go_simp;refine h _ ?_;clear h J;try go_simp))
    refine aD rfl rfl (fun pG nI J hJ=>?_);go_simp
    have rT:Below iC.heap.size iC pG:=Bt nH aA
    replace QA:=zh (QA.out.later (show Below kV.heap.size kV pG from aA))
    replace QB:=zh (QB.out.later (show Below kV.heap.size kV pG from aA))
    replace QC:=zh (QC.out.later (show Below kV.heap.size kV pG from aA))
    clear nI nH
    refine (OU.out _ _ QC.out).mono ?_
    rintro e kU ⟨rfl,jk⟩
    refine hJ _ _ jk ?_
    clear hJ J
    have rR:=Bt rT jk
    replace QA:=zh (QA.out.later jk)
    replace QB:=zh (QB.out.later jk)
    replace QC:=zh (QC.out.later jk)
    clear rT jk
    repeat (first|(refine ah rfl rfl fun J h=>?_;go_simp;refine h _ ?_;clear h J)|(refine aB rfl rfl rfl rfl fun J h=>?_;go_simp;refine h _ ?_;clear h J;try go_simp))
    refine aI [_,_] rfl (fun oJ CW=>?_)
    replace QA:=zh (QA.out.later (show Below kU.heap.size kU oJ from aA))
    replace QB:=zh (QB.out.later (show Below kU.heap.size kU oJ from aA))
    replace QC:=zh (QC.out.later (show Below kU.heap.size kU oJ from aA))
    have kM:Below iC.heap.size iC oJ:=Bt rR aA
    clear CW rR
    clear eP eO fU dY dW gN
    replace X1:=zh (X1.out.later kM)
    replace X2:=zh (X2.out.later kM)
    replace X3:=zh (X3.out.later kM)
    have O9:=Bt oI kM
    clear oI
    clear kM
    clear QA
    clear QB
    clear QC
    have mo:=X3.out.cell;have mg:=X3.out.lt;have pX:=X3.out.free
    have hres:=X3.out
    have iU:=hres.cell
    have iT:=hres.free
    go_wp2_with fail
    refine aP rfl rfl aJ Tryz.underlying36 rfl zk ?_
    exact ⟨rfl,aA⟩
end Go.Proofs.aH
namespace Go.Proofs.adapt
open Go Go.Num Go.dx Go.Proofs.matrix
def Ht (k:Nat) (q:Rat):Prop:=∃ n d:Int,0<d∧d.natAbs≤gT k∧n.natAbs≤gT k∧q=(n:Rat) / (d:Rat)
theorem Dm (k:Nat):0<gT k:=Nat.pow_pos zo
theorem tZ (a b:Nat):gT (a+b)=gT a*gT b:=Nat.pow_add _ _ _
theorem JU {a b:Nat} (h:a≤b):gT a≤gT b:=Nat.pow_le_pow_right zo h
theorem Qz {a b:Nat} (h:a<b):gT a<gT b:=Nat.pow_lt_pow_right zo h
theorem Ht.mono {a b:Nat} {q:Rat} (h:Ht a q) (k:a≤b):Ht b q:=by
 obtain ⟨n,d,h1,h2,h3,h4⟩:=h
 have:=JU k
 exact ⟨n,d,h1,by omega,by omega,h4⟩
theorem Ht.ok {a:Nat} {q:Rat} (h:Ht a q) (k:a<600):dz q=true:=by
 obtain ⟨n,d,h1,h2,h3,rfl⟩:=h
 obtain ⟨l1,l2⟩:=aH.FB (n:=n) (d:=d) zo
 have:=Qz k
 unfold dz Kj
 generalize gT 600=X at *
 rw [Bool.and_eq_true]
 exact ⟨decide_eq_true zo,decide_eq_true zo⟩
theorem rA {d:Int} (h:0<d):(d:Rat)≠0:=fun e=>by
 have:d=0:=by exact_mod_cast e
 omega
theorem Ht.mul {a b:Nat} {p q:Rat} (h:Ht a p) (k:Ht b q):Ht (a+b) (p*q):=by
 obtain ⟨n,d,h1,h2,h3,rfl⟩:=h
 obtain ⟨n',d',k1,k2,k3,rfl⟩:=k
 refine ⟨n*n',d*d',Int.mul_pos h1 k1,?_,?_,?_⟩
 ·rw [tZ,Int.natAbs_mul];exact Nat.mul_le_mul h2 k2
 ·rw [tZ,Int.natAbs_mul];exact Nat.mul_le_mul h3 k3
 ·have e1:=rA h1
  have e2:=rA k1
  rw [Rat.intCast_mul,Rat.intCast_mul]
  grind
theorem Ht.add {a b:Nat} {p q:Rat} (h:Ht a p) (k:Ht b q):Ht (a+b+1) (p+q):=by
 obtain ⟨n,d,h1,h2,h3,rfl⟩:=h
 obtain ⟨n',d',k1,k2,k3,rfl⟩:=k
 have t:gT (a+b+1)=10*(gT a*gT b):=by rw [tZ,tZ];show _*10=_;omega
 refine ⟨n*d'+n'*d,d*d',Int.mul_pos h1 k1,?_,?_,?_⟩
 ·have:=Nat.mul_le_mul h2 k2
  rw [t,Int.natAbs_mul];omega
 ·have x1:=Nat.mul_le_mul h3 k2
  have x2:=Nat.mul_le_mul k3 h2
  rw [Nat.mul_comm (gT b)] at x2
  have x3:=Int.natAbs_add_le (n*d') (n'*d)
  rw [Int.natAbs_mul,Int.natAbs_mul] at x3
  rw [t];omega
 ·have e1:=rA h1
  have e2:=rA k1
  rw [Rat.intCast_add,Rat.intCast_mul,Rat.intCast_mul,Rat.intCast_mul]
  grind
theorem Ht.neg {a:Nat} {p:Rat} (h:Ht a p):Ht a (-p):=by
 obtain ⟨n,d,h1,h2,h3,rfl⟩:=h
 exact ⟨-n,d,h1,h2,by rw [Int.natAbs_neg];exact h3,by rw [Rat.intCast_neg];grind⟩
theorem Ht.sub {a b:Nat} {p q:Rat} (h:Ht a p) (k:Ht b q):Ht (a+b+1) (p - q):=by
 rw [Rat.sub_eq_add_neg]
 exact h.add k.neg
theorem Ht.zero:Ht 0 0:=⟨0,1,by omega,by decide,by decide,by decide+kernel⟩
theorem Ht.one:Ht 0 1:=⟨1,1,by omega,by decide,by decide,by decide+kernel⟩
theorem Ht.inv {a:Nat} {p:Rat} (h:Ht a p):Ht a (p⁻¹):=by
 obtain ⟨n,d,h1,h2,h3,rfl⟩:=h
 have e1:=rA h1
 rcases Int.lt_trichotomy n 0 with h|rfl|h
 ·have e2:((-n:Int):Rat)≠0:=rA zo
  rw [Rat.intCast_neg] at e2
  refine ⟨-d, -n,by omega,by omega,by omega,?_⟩
  rw [Rat.intCast_neg,Rat.intCast_neg]
  grind
 ·exact ⟨0,1,by omega,by have:=Dm a;omega,by have:=Dm a;omega,by simp [Rat.div_def]⟩
 ·have e2:=rA h
  exact ⟨d,n,h,h3,h2,by grind⟩
theorem Ht.div {a b:Nat} {p q:Rat} (h:Ht a p) (k:Ht b q):Ht (a+b) (p / q):=by
 rw [Rat.div_def]
 exact h.mul k.inv
def TN (f:Nat→Nat→Rat) (t:Nat→Rat) (i:Nat):Rat:=f i 0*t 0+f i 1*t 1+f i 2*t 2
theorem Fa (f:Nat→Nat→Rat) (t:Nat→Rat) (i:Nat) (hi:i<3):iJ (mk3 f) t i=TN f t i:=by
 have:i=0∨i=1∨i=2:=by omega
 rcases this with rfl|rfl|rfl<;>exact aw4 _ _ _ _ _ _
theorem Lx {f g:Nat→Nat→Rat} {s t:Nat→Rat} {i:Nat} (h:∀ j,j<3→f i j=g i j) (k:∀ j,j<3→s j=t j):TN f s i=TN g t i:=by
 unfold TN
 rw [h 0 zo,h 1 zo,h 2 zo,k 0 zo,k 1 zo,k 2 zo]
def dg (g:Nat→Rat) (i j:Nat):Rat:=if j=i then g i else 0
def Nj (m:Nat):Nat→Nat→Rat:=VB (aY m)
theorem Tz:∀ m,m<4→∀ i,i<3→∀ j,j<3→(Nj m i j).num.natAbs≤100000000000000000000∧(Nj m i j).den≤100000000000000000000:=by decide+kernel
theorem Ll:∀ m,m<4→∀ i,i<3→∀ j,j<3→(kR m i j).num.natAbs≤1000000∧(kR m i j).den≤1000000:=by decide+kernel
theorem Ht.AL {q:Rat} {k:Nat} (h1:q.num.natAbs≤gT k) (h2:q.den≤gT k):Ht k q :=
 ⟨q.num,q.den,by have:=q.den_pos;omega,by simpa using h2,h1,by have:=Rat.mkRat_self q;rw [Rat.mkRat_eq_div] at this;exact this.symm⟩
theorem Yb {m i j:Nat} (hm:m<4) (hi:i<3) (hj:j<3):Ht 20 (Nj m i j):=by
 obtain ⟨h1,h2⟩:=Tz m hm i hi j hj
 exact .AL (Nat.le_trans h1 zd) (Nat.le_trans h2 zd)
theorem zQ {m i j:Nat} (hm:m<4) (hi:i<3) (hj:j<3):Ht 6 (kR m i j):=by
 obtain ⟨h1,h2⟩:=Ll m hm i hi j hj
 exact .AL (Nat.le_trans h1 zd) (Nat.le_trans h2 zd)
def mG (m:Nat) (g:Nat→Rat):Nat→Nat→Rat:=AQ (AQ (Nj m) (dg g)) (kR m)
theorem Fz (f:Nat→Nat→Rat) (g:Nat→Rat) (i j:Nat) (hj:j<3):AQ f (dg g) i j=f i j*g j:=by
 have:j=0∨j=1∨j=2:=by omega
 rcases this with rfl|rfl|rfl<;>simp [AQ,dg,Rat.add_zero,Rat.zero_add]
theorem Rz (m:Nat) (g:Nat→Rat) (i j:Nat):mG m g i j=Nj m i 0*g 0*kR m 0 j+Nj m i 1*g 1*kR m 1 j+Nj m i 2*g 2*kR m 2 j:=by
 unfold mG
 show AQ (Nj m) (dg g) i 0*_+AQ (Nj m) (dg g) i 1*_+AQ (Nj m) (dg g) i 2*_=_
 rw [Fz _ _ _ _ zo,Fz _ _ _ _ zo,Fz _ _ _ _ zo]
theorem RB {m:Nat} {g g':Nat→Rat} (h:∀ i,i<3→g i=g' i) (i j:Nat):mG m g i j=mG m g' i j:=by
 rw [Rz,Rz,h 0 zo,h 1 zo,h 2 zo]
theorem an4 {m:Nat} (hm:m<4) {g:Nat→Rat} {a:Nat} (hg:∀ i,i<3→Ht a (g i)) {i j:Nat} (hi:i<3) (hj:j<3):Ht (3*a+80) (mG m g i j):=by
 rw [Rz]
 have k:∀ x,x<3→Ht (20+a+6) (Nj m i x*g x*kR m x j):=fun x hx=>((Yb hm hi hx).mul (hg x hx)).mul (zQ hm hx hj)
 exact (((k 0 zo).add (k 1 zo)).add (k 2 zo)).mono zo
theorem Nq {f:Nat→Nat→Rat} (h:∀ i,i<3→∀ j,j<3→dz (f i j)=true):iF (mk3 f)=true:=by
 show ((dz (f 0 0)&&(dz (f 0 1)&&(dz (f 0 2)&&true)))&&((dz (f 1 0)&&(dz (f 1 1)&&(dz (f 1 2)&&true)))&&((dz (f 2 0)&&(dz (f 2 1)&&(dz (f 2 2)&&true)))&&true)))=true
 rw [h 0 zo 0 zo,h 0 zo 1 zo,h 0 zo 2 zo,h 1 zo 0 zo,h 1 zo 1 zo,h 1 zo 2 zo,h 2 zo 0 zo,h 2 zo 1 zo,h 2 zo 2 zo]
 rfl
def Wh (t:Nat→Rat):Prop:=∀ i,i<3→Ht 4 (t i)∧0<t i
theorem Wh.ok {t:Nat→Rat} (h:Wh t) (i:Nat) (hi:i<3):dz (t i)=true:=(h i hi).1.ok zo
theorem Wh.cmp {t:Nat→Rat} (h:Wh t) (i:Nat) (hi:i<3):gV (t i) 0=1:=by
 have:=(h i hi).2
 unfold gV
 rw [if_neg (by grind),if_pos this]
theorem Wh.za {t:Nat→Rat} (h:Wh t):dK (bJ t).list=0:=by
 unfold dK
 rw [if_pos]
 show ((rd (Fr.of (t 0))).isSome&&((rd (Fr.of (t 1))).isSome&&((rd (Fr.of (t 2))).isSome&&true)))=true
 rw [jc (h.ok 0 zo),jc (h.ok 1 zo),jc (h.ok 2 zo)]
 rfl
theorem Wh.jC {t:Nat→Rat} (h:Wh t):light.jC (bJ t)=0:=by
 unfold light.jC
 rw [if_pos h.za,if_pos]
 show (decide (0≤(fG (Fr.of (t 0))).1)&&(decide (0≤(fG (Fr.of (t 1))).1)&&(decide (0≤(fG (Fr.of (t 2))).1)&&true)))=true
 rw [qR (h.ok 0 zo),qR (h.ok 1 zo),qR (h.ok 2 zo),h.cmp 0 zo,h.cmp 1 zo,h.cmp 2 zo]
 rfl
theorem Hw {q:Rat} (h:dz q=true):qF (Fr.of q)=q:=by unfold qF;rw [jc h];rfl
theorem Wh.q {t:Nat→Rat} (h:Wh t) (i:Nat) (hi:i<3):qT (bJ t) i=t i:=by
 have:i=0∨i=1∨i=2:=by omega
 rcases this with rfl|rfl|rfl<;>exact Hw (h.ok _ hi)
def resp (m:Nat) (t:Nat→Rat) (i:Nat):Rat:=TN (kR m) t i
def gn (m:Nat) (d:Rat) (s t:Nat→Rat) (i:Nat):Rat:=jR d (resp m s i) (resp m t i)
theorem yI {f g:Nat→Rat} (h:∀ i,i<3→f i=g i):eY f=eY g:=by
 unfold eY
 rw [h 0 zo,h 1 zo,h 2 zo]
theorem rC {f:Nat→Rat} (h:∀ i,i<3→dz (f i)=true):dM f=true:=by
 unfold dM
 rw [h 0 zo,h 1 zo,h 2 zo]
 rfl
theorem Ng {p q:Rat} (h:q≤p):¬ gV p q<0:=by
 unfold gV
 rw [if_neg (by grind)]
 split<;>omega
theorem Wy {p q:Rat} (h:p≤q):¬ 0<gV p q:=by
 unfold gV
 split
 ·omega
 ·rw [if_neg (by grind)]
  omega
theorem Zg {m:Nat} (hm:m<4) {g:Nat→Rat} {a:Nat} (ha:a≤170) (hg:∀ i,i<3→Ht a (g i)):∀ i,i<3→∀ j,j<3→dz (mG m g i j)=true :=
 fun i hi j hj=>(an4 hm hg hi hj).ok zo
theorem GN {f:Nat→Rat} (h:eY f=false):∀ i,i<3→f i≠0:=fun i hi=>by
 unfold eY at h
 simp only [Bool.or_eq_false_iff,decide_eq_false_iff_not] at h
 have:i=0∨i=1∨i=2:=by omega
 rcases this with rfl|rfl|rfl
 ·exact h.1.1
 ·exact h.1.2
 ·exact h.2
theorem Ob {f:Nat→Rat} (h:eY f=true):∃ i,i<3∧f i=0:=by
 unfold eY at h
 simp only [Bool.or_eq_true,decide_eq_true_eq] at h
 rcases h with (h|h)|h
 ·exact ⟨0,by omega,h⟩
 ·exact ⟨1,by omega,h⟩
 ·exact ⟨2,by omega,h⟩
theorem KL {x:Fr} {q:Rat} (h:rd x=some q) (hn:x.n.size≤20) (hd:x.d.size≤20):Ht 20 q:=by
 obtain ⟨e, -⟩:=jI h
 have key:∀ z:Int,(⟨(Lib.itoa z).toArray⟩:ByteArray).size≤20→z.natAbs<gT 20:=fun z hz=>by
  have hz':(Lib.itoa z).length≤20:=hz
  refine (Dn zo).2 ?_
  unfold Lib.itoa at hz'
  split at hz'
  ·simp only [List.length_cons] at hz'
   omega
  ·rw [show z.natAbs=z.toNat by omega]
   exact hz'
 rw [e] at hn hd
 have h1:=key _ hn
 have h2:=key _ hd
 exact Ht.AL zo zo
def Sd (t:Nat→Rat):Prop:=∃ a b c,a+b+c≤40∧Ht a (t 0)∧Ht b (t 1)∧Ht c (t 2)
theorem Sd.ok {t:Nat→Rat} (h:Sd t) (i:Nat) (hi:i<3):dz (t i)=true:=by
 obtain ⟨a,b,c,hl,h0,h1,h2⟩:=h
 rcases (by omega:i=0∨i=1∨i=2) with rfl|rfl|rfl
 ·exact h0.ok zo
 ·exact h1.ok zo
 ·exact h2.ok zo
theorem Sd.q {t:Nat→Rat} (h:Sd t) (i:Nat) (hi:i<3):qT (bJ t) i=t i:=by
 have:i=0∨i=1∨i=2:=by omega
 rcases this with rfl|rfl|rfl<;>exact Hw (h.ok _ hi)
theorem Sd.rh {m:Nat} (hm:m<4) {t:Nat→Rat} (h:Sd t) {i:Nat} (hi:i<3):Ht 60 (resp m t i):=by
 obtain ⟨a,b,c,hl,h0,h1,h2⟩:=h
 have k0:=(zQ hm hi (j:=0) zo).mul h0
 have k1:=(zQ hm hi (j:=1) zo).mul h1
 have k2:=(zQ hm hi (j:=2) zo).mul h2
 exact ((k0.add k1).add k2).mono zo
theorem Sd.fH {m:Nat} {t:Nat→Rat} (h:Sd t) (i:Nat) (hi:i<3):fH ((m:Int)+1) (bJ t) i=adapt.resp m t i:=by
 unfold adapt.fH
 rw [show ((m:Int)+1 - 1).toNat=m by omega]
 refine (Fa (kR m) _ i hi).trans (Lx (fun _ _=>rfl) fun j hj=>h.q j hj)
theorem Sd.gh {m:Nat} (hm:m<4) {s t:Nat→Rat} (hs:Sd s) (ht:Sd t) {d:Rat} (hd:Ht 10 d) {i:Nat} (hi:i<3):Ht 142 (gn m d s t i) :=
 (hd.mul ((ht.rh hm hi).div (hs.rh hm hi))).add (Ht.one.sub hd)
theorem Sd.gok {m:Nat} (hm:m<4) {s t:Nat→Rat} (hs:Sd s) (ht:Sd t) {d:Rat} (hd:Ht 10 d) {i:Nat} (hi:i<3):gJ d (resp m s i) (resp m t i)=true:=by
 have h1:=(ht.rh hm hi).div (hs.rh hm hi)
 have h2:=hd.mul h1
 have h3:=Ht.one.sub hd
 have h4:=h2.add h3
 unfold gJ jR
 rw [h1.ok zo,h2.ok zo,h3.ok zo,h4.ok zo]
 rfl
theorem Lh {m:Nat} (hm:m<4) {s t:Nat→Rat} (hs:Sd s) (ht:Sd t) (as':light.gF (bJ s)=0) (at':light.gF (bJ t)=0) {d:Rat} (hd:Ht 10 d) (d0:0≤d) (d1:d≤1) :
  gB ((m:Int)+1) (bJ s) (bJ t) (Fr.of d)=if eY (resp m s) then 7 else 0:=by
 have hok:=hd.ok zo
 have ha:mY ((m:Int)+1) (bJ s) (bJ t) (Fr.of d)=0:=by
  unfold mY
  have hc:iB ((m:Int)+1)=0:=by unfold iB;rw [if_neg zo]
  have hk:za (Fr.of d)=0:=tJ (by rw [jc hok];rfl)
  rw [hc,as',at',hk,Hw hok]
  simp only [ne_eq,not_true_eq_false,if_false]
  rw [if_neg]
  intro h
  rcases h with h|h
  ·exact Ng d0 h
  ·exact Wy d1 h
 unfold gB
 rw [ha,if_neg zo,rC (f:=fH ((m:Int)+1) (bJ s)) (fun i hi=>by rw [hs.fH i hi];exact (hs.rh hm hi).ok zo),
  rC (f:=fH ((m:Int)+1) (bJ t)) (fun i hi=>by rw [ht.fH i hi];exact (ht.rh hm hi).ok zo),
  if_neg zd,if_neg zd,yI hs.fH,Hw hok,
  hs.fH 0 zo,hs.fH 1 zo,hs.fH 2 zo,ht.fH 0 zo,ht.fH 1 zo,ht.fH 2 zo,
  hs.gok hm ht hd (i:=0) zo,hs.gok hm ht hd (i:=1) zo,hs.gok hm ht hd (i:=2) zo]
 simp
theorem vN {m:Nat} {s t:Nat→Rat} (hs:Sd s) (ht:Sd t) {d:Rat} (hd:Ht 10 d) (i:Nat) (hi:i<3):iN ((m:Int)+1) (bJ s) (bJ t) (Fr.of d) i=gn m d s t i:=by
 unfold iN adapt.gn
 rw [Hw (hd.ok zo),hs.fH i hi,ht.fH i hi]
theorem Vu {m:Nat} (hm:m<4) {s t:Nat→Rat} (hs:Sd s) (ht:Sd t) (as':light.gF (bJ s)=0) (at':light.gF (bJ t)=0) {d:Rat} (hd:Ht 10 d) (d0:0≤d) (d1:d≤1) :
  sK ((m:Int)+1) (bJ s) (bJ t) (Fr.of d)=(if eY (resp m s) then 7 else 0)∧iF (lZ ((m:Int)+1) (bJ s) (bJ t) (Fr.of d))=true∧iF (rQ ((m:Int)+1) (bJ s) (bJ t) (Fr.of d))=true:=by
 have hg:∀ i,i<3→iN ((m:Int)+1) (bJ s) (bJ t) (Fr.of d) i=adapt.gn m d s t i:=vN hs ht hd
 have h1:lZ ((m:Int)+1) (bJ s) (bJ t) (Fr.of d)=mk3 (AQ (Nj m) (dg (iN ((m:Int)+1) (bJ s) (bJ t) (Fr.of d)))):=by
  unfold lZ
  rw [show ((m:Int)+1 - 1).toNat=m by omega]
  exact MR (Nj m) (dg (iN ((m:Int)+1) (bJ s) (bJ t) (Fr.of d)))
 have h2:rQ ((m:Int)+1) (bJ s) (bJ t) (Fr.of d)=mk3 (mG m (adapt.gn m d s t)):=by
  unfold rQ
  rw [h1,show ((m:Int)+1 - 1).toNat=m by omega]
  refine (MR (AQ (Nj m) (dg (iN ((m:Int)+1) (bJ s) (bJ t) (Fr.of d)))) (kR m)).trans (OQ fun i hi j hj=>?_)
  exact RB hg i j
 have a1:iF (lZ ((m:Int)+1) (bJ s) (bJ t) (Fr.of d))=true:=by
  rw [h1]
  refine Nq fun i hi j hj=>?_
  rw [Fz _ _ _ _ hj,hg j hj]
  exact ((Yb hm hi hj).mul (hs.gh hm ht hd hj)).ok zo
 have a2:iF (rQ ((m:Int)+1) (bJ s) (bJ t) (Fr.of d))=true:=by
  rw [h2]
  exact Nq (Zg hm (a:=142) zo fun i hi=>hs.gh hm ht hd hi)
 refine ⟨?_,a1,a2⟩
 unfold sK
 rw [Lh hm hs ht as' at' hd d0 d1,a1,a2]
 by_cases hz:eY (resp m s)=true
 ·rw [if_pos hz];rfl
 ·rw [if_neg hz];rfl
end Go.Proofs.adapt
