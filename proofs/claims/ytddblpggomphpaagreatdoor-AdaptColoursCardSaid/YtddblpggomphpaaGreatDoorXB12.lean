/- Lemmas for the proof. No condition. -/
import Derived.Test.YtddblpggomphpaaGreatDoorXB01
import Derived.Test.YtddblpggomphpaaGreatDoorXB07
import Derived.Test.YtddblpggomphpaaGreatDoorXB09
import Derived.Test.YtddblpggomphpaaGreatDoorXB11
import Derived.Laws.StructEq
set_option linter.unusedVariables false
set_option linter.unusedSimpArgs false
set_option maxRecDepth 100000
set_option maxHeartbeats 16000000
namespace Go.Proofs.aG
open Go Go.RowKit Go.SW Go.Num Go.Mem Go.Proofs Go.Dec Go.Proofs.aF Go.dB
theorem xJ {s:ByteArray} {b:Bool} (h:(whole s.data.toList).isSome=b) (hs:s.size≤4611686018427387904) (W:World) :
  Calls Tryz.prog 196 #[.string s] W (fun e w'=>e= .returned (.bool b)∧Below W.heap.size W w') :=
 (aF.oK s W hs).mono fun _ _ h'=>⟨h ▸ h'.1,h'.2 ▸ Below.refl _ _⟩
def Fits (a:Fr):Prop:=a.n.size≤4611686018427387904∧a.d.size≤4611686018427387904
theorem O6 {s t:ByteArray} (h:whole s.data.toList=none):rd ⟨s,t⟩=none:=by unfold rd;simp only [h]
theorem O7 {s t:ByteArray} (h:whole t.data.toList=none):rd ⟨s,t⟩=none:=by
 unfold rd
 simp only [h]
 cases whole s.data.toList<;>rfl
theorem YU {s t:ByteArray} {n d:Int} (h1:whole s.data.toList=some n) (h2:whole t.data.toList=some d):(rd ⟨s,t⟩).isSome=(decide (0<d)&&(Nat.gcd n.natAbs d.natAbs == 1)):=by
 unfold rd
 simp only [h1,h2]
 by_cases h:0<d∧n.natAbs.Coprime d.natAbs
 ·rw [dif_pos h]
  rw [decide_eq_true h.1,show Nat.gcd n.natAbs d.natAbs=1 from h.2]
  rfl
 ·rw [dif_neg h]
  refine (Bool.eq_false_iff.2 fun e=>h ?_).symm
  rw [Bool.and_eq_true,decide_eq_true_iff,beq_iff_eq] at e
  exact e
theorem Am {bs:List UInt8} {z:Int} (h:whole bs=some z):sz 10000 z.natAbs≤201:=by
 have h1:=vN (fE.2 (nX h).2)
 have:=vF h1
 omega
theorem Iu:(Lib.itoa ((1:Nat):Int)).toArray=#[49]:=by decide+kernel
theorem toList_inj {a b:ByteArray} (h:a.toList=b.toList):a=b:=by
 rw [ByteArray.toList_eq,ByteArray.toList_eq] at h
 exact BX h
theorem VK {g:Nat} (h:g≠1):((⟨(Lib.itoa (g:Int)).toArray⟩:ByteArray) == ⟨#[49]⟩)=false:=by
 rw [beq_toListBytes,beq_eq_false_iff_ne]
 intro e
 have e:=toList_inj e
 simp only [ByteArray.mk.injEq] at e
 rw [← Iu] at e
 have:=IK (List.toArray_inj e)
 omega
theorem Zy:((⟨(Lib.itoa ((1:Nat):Int)).toArray⟩:ByteArray) == ⟨#[49]⟩)=true:=by rw [Iu,beq_toListBytes];exact beq_self_eq_true _
theorem oK (s t:ByteArray) (w:World) (h1:s.size≤4611686018427387904) (h2:t.size≤4611686018427387904) :
  Calls Tryz.prog 149 #[.agg #[.string s,.string t]] w (fun e w'=>e= .returned (.bool (rd ⟨s,t⟩).isSome)∧Below w.heap.size w w'):=by
 cases e1:whole s.data.toList with
 | none =>
  rw [O6 e1]
  have R1:=zh (fun W=>xJ (b:=false) (by rw [e1];rfl) h1 W)
  clear e1 h1 h2
  go_enter Tryz.func149,Tryz.ntmps149
  go_wp2_with fail
  refine (R1.out _).mono ?_
  rintro e w1 ⟨rfl,hb⟩
  go_wp2_with fail
  go_ret
  exact ⟨rfl,Bt aA hb⟩
 | some n =>
  have R1:=zh (fun W=>xJ (b:=true) (by rw [e1];rfl) h1 W)
  cases e2:whole t.data.toList with
  | none =>
   rw [O7 e2]
   have R2:=zh (fun W=>xJ (b:=false) (by rw [e2];rfl) h2 W)
   have h0:Below w.heap.size w (w.alloc (.cells #[.string s,.string t] 36)):=aA
   have hx:=aB.new w #[.string s,.string t] 36
   clear e1 h1 h2 e2
   go_enter Tryz.func149,Tryz.ntmps149
   go_wp2_with fail
   refine (R1.out _).mono ?_
   rintro e w1 ⟨rfl,hb⟩
   have cx:=(hx.later hb).cell
   have lx:=(hx.later hb).lt
   go_wp2_with fail
   refine (R2.out _).mono ?_
   rintro e w2 ⟨rfl,hb2⟩
   go_wp2_with fail
   go_ret
   exact ⟨rfl,Bt (Bt h0 hb) hb2⟩
  | some d =>
   have R2:=zh (fun W=>xJ (b:=true) (by rw [e2];rfl) h2 W)
   rw [YU e1 e2]
   have I1:=zh (fun W=>aF.tZ s n W e1)
   have I2:=zh (fun W=>aF.tZ t d W e2)
   have K1:=zh (Nat.le_trans (Am e1) (show 201≤274877906944 by omega))
   have K2:=zh (Nat.le_trans (Am e2) (show 201≤274877906944 by omega))
   have hg:0<d→sz 10000 ((Nat.gcd n.natAbs d.natAbs:Nat):Int).natAbs≤1073741824:=fun h=>by
    rw [Int.natAbs_natCast]
    have h3:=gN (B:=10000) zo (Nat.le_of_dvd (by omega:0<d.natAbs) (Nat.gcd_dvd_right n.natAbs d.natAbs))
    have h4:=Am e2
    omega
   have DV:=zh (fun x y W hx hy=>wu x y n d W hx hy K1.out K2.out)
   generalize Nat.gcd n.natAbs d.natAbs=g at *
   rcases Int.lt_trichotomy d 0 with hd|hd|hd
   ·have HD:=zh hd
    rw [decide_eq_false (show ¬ 0<d by omega),Bool.false_and]
    clear e1 e2 h1 h2 hg hd
    go_enter Tryz.func149,Tryz.ntmps149
    go_wp2_with fail
    obtain ⟨cO,EW,hz,X1⟩:=G7 w #[.string s,.string t] 36
    rw [EW]
    have hk2:=Bt (Below.refl _ _) hz
    clear EW hz
    refine (R1.out _).mono ?_
    rintro e iN ⟨rfl,hb3⟩
    replace X1:=X1.bl hb3
    have hk5:=Bt hk2 hb3
    clear hk2
    clear hb3
    obtain ⟨dW,dU,fG⟩:=X1.dx
    go_wp2_with fail
    clear dW dU fG
    refine (R2.out _).mono ?_
    rintro e fQ ⟨rfl,hb6⟩
    replace X1:=X1.bl hb6
    have jW:=Bt hk5 hb6
    clear hk5
    clear hb6
    go_wp2_with fail
    obtain ⟨dW,dU,fG⟩:=X1.dx
    refine aC [(.pure,0),(.read,1),(.pure,3),(.read,4),(.ext,2),(.ext,5),(.alloc #[.bool false,.slice none 0 0] 150,6),(.alloc #[.bool false,.slice none 0 0] 150,7),(.fin,8),(.fin,9)] zk zk zR zP ?_
    repeat (first|(refine ah rfl rfl fun J h=>?_;go_simp;refine h _ ?_;clear h J)|(refine au rfl rfl rfl rfl fun J h=>?_;go_simp;refine h _ ?_;clear h J;try go_simp))
    refine aD rfl rfl (fun oU gQ J hJ=>?_);go_simp
    have gI:Below fQ.heap.size fQ oU:=aA
    clear gQ
    refine (I1.out _).mono ?_
    rintro e dN ⟨v,rfl,dh,gy⟩
    obtain ⟨bA,kV,lA,kX,rfl⟩:=gy.agg
    refine hJ _ _ dh ?_
    clear hJ J
    have fF:=Bt gI dh
    clear gI dh gy
    repeat (first|(refine ah rfl rfl fun J h=>?_;go_simp;refine h _ ?_;clear h J)|(refine au rfl rfl rfl rfl fun J h=>?_;go_simp;refine h _ ?_;clear h J;try go_simp))
    refine aD rfl rfl (fun oN eZ J hJ=>?_);go_simp
    have hh12:Below fQ.heap.size fQ oN:=Bt fF aA
    clear eZ fF
    refine (I2.out _).mono ?_
    rintro e iR ⟨v,rfl,fA,hv⟩
    obtain ⟨bB,nu,lB,nD,rfl⟩:=hv.agg
    have hb1:bB=true:=hv.nm.2.trans (decide_eq_true HD.out)
    subst hb1
    refine hJ _ _ fA ?_
    clear hJ J
    have mR:=Bt hh12 fA
    clear hh12 fA hv
    repeat (first|(refine ah rfl rfl fun J h=>?_;go_simp;refine h _ ?_;clear h J)|(refine au rfl rfl rfl rfl fun J h=>?_;go_simp;refine h _ ?_;clear h J;try go_simp))
    refine aQ rfl (fun rX ao2 IQ jA wZ BG iI=>?_);go_simp;replace iI:aB _ _ _ _:=iI;have BA:w.heap.size≤rX:=(by first|omega|exact Nat.le_trans (Below.size (B:=w.heap.size) aA) jA)
    refine aQ rfl (fun qJ ao1 y7 jy wY tu kN=>?_);go_simp;replace kN:aB _ _ _ _:=kN;have Bz:w.heap.size≤qJ:=(by first|omega|exact Nat.le_trans (Below.size (B:=w.heap.size) aA) jy)
    replace iI:=aB.later iI y7
    have hne:rX≠qJ:=fun h=>tu (by simp [h])
    have hne2:qJ≠rX:=fun h=>hne h.symm
    refine aJ [_,_] rfl (fun CG Br=>?_)
    have sP:Below fQ.heap.size fQ CG:=Bt mR aA
    have hq0:=iI.later Br;have TW:=hq0.cell;have TA:=hq0.free
    have hq1:=kN.later Br;have cq1:=hq1.cell;have fq1:=hq1.free
    clear iI kN Br mR
    clear dW dU fG
    go_wp2_with fail
    obtain ⟨E8,EW⟩:∃ y,((((CG.setCell ⟨rX,0,none⟩ (.bool bA)).setCell ⟨rX,1,none⟩ (.slice kV lA kX)).setCell ⟨qJ,0,none⟩ (.bool true)).setCell ⟨qJ,1,none⟩ (.slice nu lB nD))=y:=⟨_,rfl⟩
    have hz:Below fQ.heap.size fQ E8:=by rw [← EW];exact ((((sP.setCell jA _).setCell jA _).setCell jy _).setCell jy _)
    have X3:Hid (aB E8 qJ #[.bool true,.slice nu lB nD] 150):=zh (by rw [← EW];exact ((((hq1.setOther _ (by first|exact hne|exact hne2)).setOther _ (by first|exact hne|exact hne2)).set 0 _).set 1 _))
    rw [EW]
    clear EW hq0 TW TA hq1 cq1 fq1 sP
    replace X1:=X1.bl hz
    have Gb:=Bt jW hz
    clear jW
    clear hz
    clear IQ BG tu BA Bz y7
    have SN:=jA;have SL:=jy;clear jA jy wZ wY
    go_wp2_with fail
    go_ret
    exact ⟨rfl,Gb⟩
   ·have HD:=zh hd
    rw [decide_eq_false (show ¬ 0<d by omega),Bool.false_and]
    clear e1 e2 h1 h2 hg hd
    go_enter Tryz.func149,Tryz.ntmps149
    go_wp2_with fail
    obtain ⟨cO,EW,hz,X1⟩:=G7 w #[.string s,.string t] 36
    rw [EW]
    have hk2:=Bt (Below.refl _ _) hz
    clear EW hz
    refine (R1.out _).mono ?_
    rintro e iN ⟨rfl,hb3⟩
    replace X1:=X1.bl hb3
    have hk5:=Bt hk2 hb3
    clear hk2
    clear hb3
    obtain ⟨dW,dU,fG⟩:=X1.dx
    go_wp2_with fail
    clear dW dU fG
    refine (R2.out _).mono ?_
    rintro e fQ ⟨rfl,hb6⟩
    replace X1:=X1.bl hb6
    have jW:=Bt hk5 hb6
    clear hk5
    clear hb6
    go_wp2_with fail
    obtain ⟨dW,dU,fG⟩:=X1.dx
    refine aC [(.pure,0),(.read,1),(.pure,3),(.read,4),(.ext,2),(.ext,5),(.alloc #[.bool false,.slice none 0 0] 150,6),(.alloc #[.bool false,.slice none 0 0] 150,7),(.fin,8),(.fin,9)] zk zk zR zP ?_
    repeat (first|(refine ah rfl rfl fun J h=>?_;go_simp;refine h _ ?_;clear h J)|(refine au rfl rfl rfl rfl fun J h=>?_;go_simp;refine h _ ?_;clear h J;try go_simp))
    refine aD rfl rfl (fun oU gQ J hJ=>?_);go_simp
    have gI:Below fQ.heap.size fQ oU:=aA
    clear gQ
    refine (I1.out _).mono ?_
    rintro e dN ⟨v,rfl,dh,gy⟩
    obtain ⟨bA,kV,lA,kX,rfl⟩:=gy.agg
    refine hJ _ _ dh ?_
    clear hJ J
    have fF:=Bt gI dh
    clear gI dh gy
    repeat (first|(refine ah rfl rfl fun J h=>?_;go_simp;refine h _ ?_;clear h J)|(refine au rfl rfl rfl rfl fun J h=>?_;go_simp;refine h _ ?_;clear h J;try go_simp))
    refine aD rfl rfl (fun oN eZ J hJ=>?_);go_simp
    have hh12:Below fQ.heap.size fQ oN:=Bt fF aA
    clear eZ fF
    refine (I2.out _).mono ?_
    rintro e iR ⟨v,rfl,fA,hv⟩
    obtain ⟨bB,nu,lB,nD,rfl⟩:=hv.agg
    have hb1:bB=false:=hv.nm.2.trans (decide_eq_false (by have:=HD.out;omega))
    subst hb1
    have hl0:lB=0:=hv.nm.1.Zt (by have:=HD.out;omega)
    subst hl0
    refine hJ _ _ fA ?_
    clear hJ J
    have mR:=Bt hh12 fA
    clear hh12 fA hv
    repeat (first|(refine ah rfl rfl fun J h=>?_;go_simp;refine h _ ?_;clear h J)|(refine au rfl rfl rfl rfl fun J h=>?_;go_simp;refine h _ ?_;clear h J;try go_simp))
    refine aQ rfl (fun rX ao2 IQ jA wZ BG iI=>?_);go_simp;replace iI:aB _ _ _ _:=iI;have BA:w.heap.size≤rX:=(by first|omega|exact Nat.le_trans (Below.size (B:=w.heap.size) aA) jA)
    refine aQ rfl (fun qJ ao1 y7 jy wY tu kN=>?_);go_simp;replace kN:aB _ _ _ _:=kN;have Bz:w.heap.size≤qJ:=(by first|omega|exact Nat.le_trans (Below.size (B:=w.heap.size) aA) jy)
    replace iI:=aB.later iI y7
    have hne:rX≠qJ:=fun h=>tu (by simp [h])
    have hne2:qJ≠rX:=fun h=>hne h.symm
    refine aJ [_,_] rfl (fun CG Br=>?_)
    have sP:Below fQ.heap.size fQ CG:=Bt mR aA
    have hq0:=iI.later Br;have TW:=hq0.cell;have TA:=hq0.free
    have hq1:=kN.later Br;have cq1:=hq1.cell;have fq1:=hq1.free
    clear iI kN Br mR
    clear dW dU fG
    go_wp2_with fail
    obtain ⟨E8,EW⟩:∃ y,((((CG.setCell ⟨rX,0,none⟩ (.bool bA)).setCell ⟨rX,1,none⟩ (.slice kV lA kX)).setCell ⟨qJ,0,none⟩ (.bool false)).setCell ⟨qJ,1,none⟩ (.slice nu 0 nD))=y:=⟨_,rfl⟩
    have hz:Below fQ.heap.size fQ E8:=by rw [← EW];exact ((((sP.setCell jA _).setCell jA _).setCell jy _).setCell jy _)
    have X3:Hid (aB E8 qJ #[.bool false,.slice nu 0 nD] 150):=zh (by rw [← EW];exact ((((hq1.setOther _ (by first|exact hne|exact hne2)).setOther _ (by first|exact hne|exact hne2)).set 0 _).set 1 _))
    rw [EW]
    clear EW hq0 TW TA hq1 cq1 fq1 sP
    replace X1:=X1.bl hz
    have Gb:=Bt jW hz
    clear jW
    clear hz
    clear IQ BG tu BA Bz y7
    have SN:=jA;have SL:=jy;clear jA jy wZ wY
    go_wp2_with fail
    go_ret
    exact ⟨rfl,Gb⟩
   ·have HD:=zh hd
    have HG:=zh (hg hd)
    have TX:=zh (fun x W hx=>Oh x (g:Int) W hx HG.out)
    obtain ⟨b,hb⟩:∃ b,(decide (0<d)&&(g == 1))=b:=⟨_,rfl⟩
    have hT:((⟨(Lib.itoa (g:Int)).toArray⟩:ByteArray) == ⟨#[49]⟩)=b:=by
     rw [← hb,decide_eq_true hd,Bool.true_and]
     by_cases h:g=1
     ·rw [h];exact Zy
     ·rw [VK h];exact (beq_eq_false_iff_ne.2 h).symm
    rw [hb]
    rw [beq_toListBytes,ByteArray.toList_eq (⟨#[49]⟩:ByteArray)] at hT
    replace hT:((⟨(Lib.itoa (g:Int)).toArray⟩:ByteArray).toList == [49])=b:=hT
    generalize (⟨(Lib.itoa (g:Int)).toArray⟩:ByteArray)=T at *
    clear e1 e2 h1 h2 hg hd hb
    go_enter Tryz.func149,Tryz.ntmps149
    go_wp2_with fail
    obtain ⟨cO,EW,hz,X1⟩:=G7 w #[.string s,.string t] 36
    rw [EW]
    have hk2:=Bt (Below.refl _ _) hz
    clear EW hz
    refine (R1.out _).mono ?_
    rintro e iN ⟨rfl,hb3⟩
    replace X1:=X1.bl hb3
    have hk5:=Bt hk2 hb3
    clear hk2
    clear hb3
    obtain ⟨dW,dU,fG⟩:=X1.dx
    go_wp2_with fail
    clear dW dU fG
    refine (R2.out _).mono ?_
    rintro e fQ ⟨rfl,hb6⟩
    replace X1:=X1.bl hb6
    have jW:=Bt hk5 hb6
    clear hk5
    clear hb6
    go_wp2_with fail
    obtain ⟨dW,dU,fG⟩:=X1.dx
    refine aC [(.pure,0),(.read,1),(.pure,3),(.read,4),(.ext,2),(.ext,5),(.alloc #[.bool false,.slice none 0 0] 150,6),(.alloc #[.bool false,.slice none 0 0] 150,7),(.fin,8),(.fin,9)] zk zk zR zP ?_
    repeat (first|(refine ah rfl rfl fun J h=>?_;go_simp;refine h _ ?_;clear h J)|(refine au rfl rfl rfl rfl fun J h=>?_;go_simp;refine h _ ?_;clear h J;try go_simp))
    refine aD rfl rfl (fun oU gQ J hJ=>?_);go_simp
    have gI:Below fQ.heap.size fQ oU:=aA
    clear gQ
    refine (I1.out _).mono ?_
    rintro e dN ⟨v,rfl,dh,gy⟩
    obtain ⟨bA,kV,lA,kX,rfl⟩:=gy.agg
    refine hJ _ _ dh ?_
    clear hJ J
    have fF:=Bt gI dh
    have NA:=zh gy
    clear gI dh gy
    repeat (first|(refine ah rfl rfl fun J h=>?_;go_simp;refine h _ ?_;clear h J)|(refine au rfl rfl rfl rfl fun J h=>?_;go_simp;refine h _ ?_;clear h J;try go_simp))
    refine aD rfl rfl (fun oN eZ J hJ=>?_);go_simp
    have hh12:Below fQ.heap.size fQ oN:=Bt fF aA
    replace NA:=zh (NA.out.later (show Below dN.heap.size dN oN from aA))
    clear eZ fF
    refine (I2.out _).mono ?_
    rintro e iR ⟨v,rfl,fA,hv⟩
    obtain ⟨bB,nu,lB,nD,rfl⟩:=hv.agg
    have hb1:bB=false:=hv.nm.2.trans (decide_eq_false (by have:=HD.out;omega))
    subst hb1
    have hl0:0<lB:=hv.nm.1.VP (by have:=HD.out;omega)
    refine hJ _ _ fA ?_
    clear hJ J
    have mR:=Bt hh12 fA
    replace NA:=zh (NA.out.later fA)
    have NB:=zh hv
    clear hh12 fA hv
    repeat (first|(refine ah rfl rfl fun J h=>?_;go_simp;refine h _ ?_;clear h J)|(refine au rfl rfl rfl rfl fun J h=>?_;go_simp;refine h _ ?_;clear h J;try go_simp))
    refine aQ rfl (fun rX ao2 IQ jA wZ BG iI=>?_);go_simp;replace iI:aB _ _ _ _:=iI;have BA:w.heap.size≤rX:=(by first|omega|exact Nat.le_trans (Below.size (B:=w.heap.size) aA) jA)
    refine aQ rfl (fun qJ ao1 y7 jy wY tu kN=>?_);go_simp;replace kN:aB _ _ _ _:=kN;have Bz:w.heap.size≤qJ:=(by first|omega|exact Nat.le_trans (Below.size (B:=w.heap.size) aA) jy)
    replace iI:=aB.later iI y7
    have hne:rX≠qJ:=fun h=>tu (by simp [h])
    have hne2:qJ≠rX:=fun h=>hne h.symm
    refine aJ [_,_] rfl (fun CG Br=>?_)
    replace NA:=zh (NA.out.later (show Below iR.heap.size iR CG from aA))
    replace NB:=zh (NB.out.later (show Below iR.heap.size iR CG from aA))
    have sP:Below fQ.heap.size fQ CG:=Bt mR aA
    have hq0:=iI.later Br;have TW:=hq0.cell;have TA:=hq0.free
    have hq1:=kN.later Br;have cq1:=hq1.cell;have fq1:=hq1.free
    clear iI kN Br mR
    clear dW dU fG
    go_wp2_with fail
    obtain ⟨E8,EW⟩:∃ y,((((CG.setCell ⟨rX,0,none⟩ (.bool bA)).setCell ⟨rX,1,none⟩ (.slice kV lA kX)).setCell ⟨qJ,0,none⟩ (.bool false)).setCell ⟨qJ,1,none⟩ (.slice nu lB nD))=y:=⟨_,rfl⟩
    have hz:Below fQ.heap.size fQ E8:=by rw [← EW];exact ((((sP.setCell jA _).setCell jA _).setCell jy _).setCell jy _)
    have X2:Hid (aB E8 rX #[.bool bA,.slice kV lA kX] 150):=zh (by rw [← EW];exact ((((hq0.set 0 _).set 1 _).setOther _ (by first|exact hne|exact hne2)).setOther _ (by first|exact hne|exact hne2)))
    have X3:Hid (aB E8 qJ #[.bool false,.slice nu lB nD] 150):=zh (by rw [← EW];exact ((((hq1.setOther _ (by first|exact hne|exact hne2)).setOther _ (by first|exact hne|exact hne2)).set 0 _).set 1 _))
    have t:=((((NA.out.setOther hq0 zd 0 (.bool bA)).setOther (hq0.set 0 _) zd 1 (.slice kV lA kX)).setOther ((hq1.setOther _ (by first|exact hne|exact hne2)).setOther _ (by first|exact hne|exact hne2)) zd 0 (.bool false)).setOther (((hq1.setOther _ (by first|exact hne|exact hne2)).setOther _ (by first|exact hne|exact hne2)).set 0 _) zd 1 (.slice nu lB nD))
    rw [EW] at t
    replace NA:=zh t
    clear t
    have t:=((((NB.out.setOther hq0 zd 0 (.bool bA)).setOther (hq0.set 0 _) zd 1 (.slice kV lA kX)).setOther ((hq1.setOther _ (by first|exact hne|exact hne2)).setOther _ (by first|exact hne|exact hne2)) zd 0 (.bool false)).setOther (((hq1.setOther _ (by first|exact hne|exact hne2)).setOther _ (by first|exact hne|exact hne2)).set 0 _) zd 1 (.slice nu lB nD))
    rw [EW] at t
    replace NB:=zh t
    clear t
    rw [EW]
    clear EW hq0 TW TA hq1 cq1 fq1 sP
    replace X1:=X1.bl hz
    have Gb:=Bt jW hz
    clear jW
    clear hz
    clear IQ BG tu BA Bz y7
    have SN:=jA;have SL:=jy;clear jA jy wZ wY
    go_wp2_with fail
    refine (DV.out _ _ _ NA.out NB.out).mono ?_
    rintro e Q0 ⟨v,rfl,sS,Lg⟩
    obtain ⟨bC,Cw,lC,Cz,rfl⟩:=Lg.agg
    clear X1
    replace X2:=X2.bl sS
    replace X3:=X3.bl sS
    replace NA:=zh (NA.out.later sS)
    replace NB:=zh (NB.out.later sS)
    have IW:=Bt Gb sS
    clear Gb
    have NC:=zh Lg
    clear sS Lg
    go_wp2_with fail
    refine (TX.out _ _ NC.out).mono ?_
    rintro e aN9 ⟨rfl,Bw⟩
    replace X2:=X2.bl Bw
    replace X3:=X3.bl Bw
    replace NA:=zh (NA.out.later Bw)
    replace NB:=zh (NB.out.later Bw)
    replace NC:=zh (NC.out.later Bw)
    have aE6:=Bt IW Bw
    clear IW
    clear Bw
    go_wp2_with fail
    go_ret
    exact ⟨rfl,aE6⟩
theorem iD {a:Fr} {b:Bool} (h:(rd a).isSome=b) (hf:Fits a) (W:World):Calls Tryz.prog 149 #[a.v] W (fun e w'=>e= .returned (.bool b)∧Below W.heap.size W w') :=
 h ▸ oK a.n a.d W hf.1 hf.2
theorem gD (a:Fr) (w:World) (hf:Fits a):Calls Tryz.prog 92 #[a.v] w (fun e w'=>e= .returned (.int .i64 (zn a))∧Below w.heap.size w w'):=by
 unfold zn
 cases h:(rd a).isSome with
 | true =>
  have R:=zh (fun W=>iD h hf W)
  obtain ⟨s,t⟩:=a
  unfold Fr.v at *
  clear h hf
  go_enter Tryz.func92,Tryz.ntmps92
  go_wp2_with fail
  obtain ⟨cO,EW,hz,X1⟩:=G7 w #[.string s,.string t] 36
  rw [EW]
  have hk2:=Bt (Below.refl _ _) hz
  clear EW hz
  refine (R.out _).mono ?_
  rintro e iN ⟨rfl,hb3⟩
  replace X1:=X1.bl hb3
  have hk5:=Bt hk2 hb3
  clear hk2
  clear hb3
  go_wp2_with fail
  go_ret
  exact ⟨rfl,hk5⟩
 | false =>
  have R:=zh (fun W=>iD h hf W)
  obtain ⟨s,t⟩:=a
  unfold Fr.v at *
  clear h hf
  go_enter Tryz.func92,Tryz.ntmps92
  go_wp2_with fail
  obtain ⟨cO,EW,hz,X1⟩:=G7 w #[.string s,.string t] 36
  rw [EW]
  have hk2:=Bt (Below.refl _ _) hz
  clear EW hz
  refine (R.out _).mono ?_
  rintro e iN ⟨rfl,hb3⟩
  replace X1:=X1.bl hb3
  have hk5:=Bt hk2 hb3
  clear hk2
  clear hb3
  go_wp2_with fail
  go_ret
  exact ⟨rfl,hk5⟩
theorem Rs {s t:ByteArray} {q:Rat} (h:rd ⟨s,t⟩=some q):whole s.data.toList=some q.num∧whole t.data.toList=some (q.den:Int):=by
 unfold rd at h
 split at h
 ·rename_i n d e1 e2
  split at h
  ·rename_i hk
   simp only [Option.some.injEq] at h
   subst h
   refine ⟨e1,e2.trans ?_⟩
   congr 1
   have:=hk.1
   show d=((d.natAbs:Nat):Int)
   omega
  ·cases h
 ·cases h
theorem tZ (s t:ByteArray) (q:Rat) (w:World) (h:rd ⟨s,t⟩=some q):Calls Tryz.prog 166 #[.agg #[.string s,.string t]] w (dH w q):=by
 obtain ⟨e1,e2⟩:=Rs h
 have I1:=zh (fun W=>aF.tZ s q.num W e1)
 have I2:=zh (fun W=>aF.tZ t (q.den:Int) W e2)
 clear h e1 e2
 go_enter Tryz.func166,Tryz.ntmps166
 go_wp2_with fail
 obtain ⟨cO,EW,hz,X1,X2⟩:=zU w #[.string s,.string t] 36 #[.bool false,.slice none 0 0,.bool false,.slice none 0 0] 152
 rw [EW]
 have hk2:=Bt (Below.refl _ _) hz
 clear EW hz
 obtain ⟨dW,dU,fG⟩:=X1.dx
 refine aC [(.pure,0),(.read,1),(.pure,3),(.read,4),(.ext,2),(.ext,5),(.pure,6),(.fin,7)] zk zk zR zP ?_
 repeat (first|(refine ah rfl rfl fun J h=>?_;go_simp;refine h _ ?_;clear h J)|(refine au rfl rfl rfl rfl fun J h=>?_;go_simp;refine h _ ?_;clear h J;try go_simp))
 refine aD rfl rfl (fun uO hb3 J hJ=>?_);go_simp
 have hh3:Below cO.heap.size cO uO:=aA
 clear hb3
 refine (I1.out _).mono ?_
 rintro e rT ⟨v,rfl,hb4,hv5⟩
 obtain ⟨bA,kV,lA,kX,rfl⟩:=hv5.agg
 refine hJ _ _ hb4 ?_
 clear hJ J
 have nG:=Bt hh3 hb4
 have NA:=zh hv5
 clear hh3 hb4 hv5
 repeat (first|(refine ah rfl rfl fun J h=>?_;go_simp;refine h _ ?_;clear h J)|(refine au rfl rfl rfl rfl fun J h=>?_;go_simp;refine h _ ?_;clear h J;try go_simp))
 refine aD rfl rfl (fun qQ hb6 J hJ=>?_);go_simp
 have ig:Below cO.heap.size cO qQ:=Bt nG aA
 replace NA:=zh (NA.out.later (show Below rT.heap.size rT qQ from aA))
 clear hb6 nG
 refine (I2.out _).mono ?_
 rintro e kC ⟨v,rfl,dY,kD⟩
 obtain ⟨bB,nu,lB,nD,rfl⟩:=kD.agg
 refine hJ _ _ dY ?_
 clear hJ J
 have o9:=Bt ig dY
 replace NA:=zh (NA.out.later dY)
 have NB:=zh kD
 clear ig dY kD
 repeat (first|(refine ah rfl rfl fun J h=>?_;go_simp;refine h _ ?_;clear h J)|(refine au rfl rfl rfl rfl fun J h=>?_;go_simp;refine h _ ?_;clear h J;try go_simp))
 refine aJ [_] rfl (fun zB Ta=>?_)
 replace NA:=zh (NA.out.later (show Below kC.heap.size kC zB from aA))
 replace NB:=zh (NB.out.later (show Below kC.heap.size kC zB from aA))
 have gI:Below cO.heap.size cO zB:=Bt o9 aA
 clear Ta o9
 clear dW dU fG
 replace X1:=X1.bl gI
 replace X2:=X2.bl gI
 have hk10:=Bt hk2 gI
 clear hk2
 clear gI
 obtain ⟨dV,dS,gM⟩:=X2.dx
 have hres:=X2.out
 have gW:=hres.cell
 have gV:=hres.free
 go_wp2_with fail
 refine bP rfl rfl aL Tryz.underlying152 rfl zk ?_
 exact ⟨_,rfl,aA,_,_,_,_,_,_,_,_,rfl,Pl.kJ NA.out hres zd _ _ _ _,Pl.kJ NB.out hres zd _ _ _ _⟩
theorem qZ {a:Fr} {q:Rat} (h:rd a=some q):eP 67 q:=gL (jJ h).2
theorem eP.Nu {q:Rat} (h:eP 1000 q):sz 10000 q.num.natAbs≤1073741824∧sz 10000 q.den≤1073741824:=by
 have h1:=vF h.1
 have h2:=vF h.2
 exact ⟨by omega,by omega⟩
theorem Vp {k:Nat} {p q:Rat} (h:eP k p) (i:eP k q):eP (2*k+1) (p - q):=by
 rw [Rat.sub_eq_add_neg]
 exact uj h (qR i)
theorem vD {a:Fr} {q:Rat} (h:rd a=some q) (W:World):Calls Tryz.prog 166 #[a.v] W (dH W q):=tZ a.n a.d q W h
theorem QX:((0:Int):Rat) / ((1:Int):Rat)=0:=by decide+kernel
theorem jX (a:Fr) (w:World) (hf:Fits a):Calls Tryz.prog 152 #[a.v] w (fun e w'=>e= .returned (.tuple #[.int .i64 (fI a).1,.int .i64 (fI a).2])∧Below w.heap.size w w'):=by
 unfold fI
 cases h:rd a with
 | none =>
  have R:=zh (fun W=>iD (b:=false) (by rw [h];rfl) hf W)
  obtain ⟨s,t⟩:=a
  unfold Fr.v at *
  clear h hf
  go_enter Tryz.func152,Tryz.ntmps152
  go_wp2_with fail
  obtain ⟨cO,EW,hz,X1⟩:=G7 w #[.string s,.string t] 36
  rw [EW]
  have hk2:=Bt (Below.refl _ _) hz
  clear EW hz
  refine (R.out _).mono ?_
  rintro e iN ⟨rfl,hb3⟩
  replace X1:=X1.bl hb3
  have hk5:=Bt hk2 hb3
  clear hk2
  clear hb3
  go_wp2_with fail
  go_ret2
  exact ⟨rfl,hk5⟩
 | some q =>
  have R:=zh (fun W=>iD (b:=true) (by rw [h];rfl) hf W)
  have I:=zh (fun W=>vD h W)
  have Z:=zh (fun W=>tT 0 1 zo zo zo zo zo W)
  rw [QX] at Z
  have hq:=(qZ h).mono (show 67≤10000000000 by omega)
  have O:=zh (fun x y W hx hy=>Cj x y q 0 W hx hy hq ⟨by decide+kernel,by decide+kernel⟩)
  dsimp only
  generalize iA q 0=cc at *
  obtain ⟨s,t⟩:=a
  unfold Fr.v at *
  clear h hf hq
  go_enter Tryz.func152,Tryz.ntmps152
  go_wp2_with fail
  obtain ⟨cO,EW,hz,X1⟩:=G7 w #[.string s,.string t] 36
  rw [EW]
  have hk2:=Bt (Below.refl _ _) hz
  clear EW hz
  refine (R.out _).mono ?_
  rintro e iN ⟨rfl,hb3⟩
  replace X1:=X1.bl hb3
  have hk5:=Bt hk2 hb3
  clear hk2
  clear hb3
  obtain ⟨dW,dU,fG⟩:=X1.dx
  go_wp2_with fail
  clear dW dU fG
  refine (I.out _).mono ?_
  rintro e fQ ⟨v,rfl,hb6,hv7⟩
  obtain ⟨bA,kV,lA,kX,J4,uR,JZ,uW,rfl,hx7,hy7⟩:=id hv7
  replace X1:=X1.bl hb6
  have jW:=Bt hk5 hb6
  clear hk5
  have QA:=zh hv7
  clear hb6 hv7 hx7 hy7
  go_wp2_with fail
  refine (Z.out _).mono ?_
  rintro e wc9 ⟨v,rfl,gQ,ZH⟩
  obtain ⟨bB,nu,lB,nD,Ob,wM,Ni,xG,rfl,aD6,aD4⟩:=id ZH
  replace X1:=X1.bl gQ
  replace QA:=zh (QA.out.later gQ)
  have vR:=Bt jW gQ
  clear jW
  have QB:=zh ZH
  clear gQ ZH aD6 aD4
  go_wp2_with fail
  refine (O.out _ _ _ QA.out QB.out).mono ?_
  rintro e Fa ⟨rfl,eZ⟩
  replace X1:=X1.bl eZ
  replace QA:=zh (QA.out.later eZ)
  replace QB:=zh (QB.out.later eZ)
  have Gc:=Bt vR eZ
  clear vR
  clear eZ
  go_wp2_with fail
  go_ret2
  exact ⟨rfl,Gc⟩
theorem OA {b:Fr} {q:Rat} (h:rd b=some q):(b.n.toList == [48])=decide (q=0):=by
 have e:b.n=⟨(Lib.itoa q.num).toArray⟩:=by rw [(jJ h).1];rfl
 have z0:Lib.itoa 0=[48]:=by decide+kernel
 rw [e,ByteArray.toList_mk]
 by_cases h0:q=0
 ·rw [decide_eq_true h0,h0];show (Lib.itoa 0 == [48])=true;rw [z0];rfl
 ·rw [decide_eq_false h0,beq_eq_false_iff_ne]
  intro e
  rw [← z0] at e
  exact h0 (Rat.num_eq_zero.1 (IK e))
theorem Cv (a b:Fr) (w:World) (ha:Fits a) (hb:Fits b):Calls Tryz.prog 153 #[a.v,b.v] w (oM w (JI a b)):=by
 unfold oM
 cases h:rd a with
 | none =>
  rw [show JI a b=(Fr.no,20) from pI h]
  have R:=zh (fun W=>iD (b:=false) (by rw [h];rfl) ha W)
  obtain ⟨s,t⟩:=a
  obtain ⟨s',t'⟩:=b
  show Calls _ _ #[.agg #[.string s,.string t],.agg #[.string s',.string t']] _ _
  replace R:Hid (∀ W,Calls Tryz.prog 149 #[.agg #[.string s,.string t]] W (fun e w'=>e= .returned (.bool false)∧Below W.heap.size W w')):=R
  clear h ha hb
  have h0:Below w.heap.size w (((w.alloc (.cells #[.string s,.string t] 36)).alloc (.cells #[.string s',.string t'] 36)).alloc (.cells #[.string ⟨#[]⟩,.string ⟨#[]⟩] 36)):=aA
  have hx:=aB.at2 w (.cells #[.string s,.string t] 36) (.cells #[.string s',.string t'] 36) #[.string ⟨#[]⟩,.string ⟨#[]⟩] 36
  go_enter Tryz.func153,Tryz.ntmps153
  go_wp2_with fail
  refine (R.out _).mono ?_
  rintro e w1 ⟨rfl,hb⟩
  have hr:=hx.later hb
  have cr:=hr.cell
  have fr:=hr.free
  have lr:=hr.lt
  go_wp2_with fail
  refine aP rfl rfl aL Tryz.underlying36 rfl zk ?_
  exact ⟨rfl,aA⟩
 | some p =>
  have R:=zh (fun W=>iD (b:=true) (by rw [h];rfl) ha W)
  cases k:rd b with
  | none =>
   rw [show JI a b=(Fr.no,20) from pG k]
   have R2:=zh (fun W=>iD (b:=false) (by rw [k];rfl) hb W)
   obtain ⟨s,t⟩:=a
   obtain ⟨s',t'⟩:=b
   show Calls _ _ #[.agg #[.string s,.string t],.agg #[.string s',.string t']] _ _
   replace R:Hid (∀ W,Calls Tryz.prog 149 #[.agg #[.string s,.string t]] W (fun e w'=>e= .returned (.bool true)∧Below W.heap.size W w')):=R
   replace R2:Hid (∀ W,Calls Tryz.prog 149 #[.agg #[.string s',.string t']] W (fun e w'=>e= .returned (.bool false)∧Below W.heap.size W w')):=R2
   clear h ha hb k
   go_enter Tryz.func153,Tryz.ntmps153
   go_wp2_with fail
   obtain ⟨cO,EW,hz,X1,X2,X3⟩:=yM w #[.string s,.string t] 36 #[.string s',.string t'] 36 #[.string ⟨#[]⟩,.string ⟨#[]⟩] 36
   rw [EW]
   have hk2:=Bt (Below.refl _ _) hz
   clear EW hz
   refine (R.out _).mono ?_
   rintro e iN ⟨rfl,hb3⟩
   replace X1:=X1.bl hb3
   replace X2:=X2.bl hb3
   replace X3:=X3.bl hb3
   have hk5:=Bt hk2 hb3
   clear hk2
   clear hb3
   obtain ⟨dV,dS,gM⟩:=X2.dx
   go_wp2_with fail
   clear dV dS gM
   refine (R2.out _).mono ?_
   rintro e fQ ⟨rfl,hb6⟩
   replace X1:=X1.bl hb6
   replace X2:=X2.bl hb6
   replace X3:=X3.bl hb6
   have jW:=Bt hk5 hb6
   clear hk5
   clear hb6
   obtain ⟨mF,mD,pz⟩:=X3.dx
   have hres:=X3.out
   have gW:=hres.cell
   have gV:=hres.free
   go_wp2_with fail
   refine aP rfl rfl aL Tryz.underlying36 rfl zk ?_
   exact ⟨rfl,aA⟩
  | some q =>
   rw [show JI a b=wr (p+q) from iL h k]
   have R2:=zh (fun W=>iD (b:=true) (by rw [k];rfl) hb W)
   have I1:=zh (fun W=>vD h W)
   have I2:=zh (fun W=>vD k W)
   have hp:=qZ h
   have hq:=qZ k
   have OP:=zh (fun x y W hx hy=>rO x y p q W hx hy (hp.mono zo) (hq.mono zo))
   have hs:eP 1000 (p+q):=(uj hp hq).mono zo
   obtain ⟨f1,f2⟩:=eP.Nu hs
   have OU:=zh (fun x W hx=>qm x (p+q) W hx f1 f2)
   clear f1 f2 hp hq hs
   generalize p+q=r at *
   obtain ⟨⟨⟨s1,s2⟩,k1⟩,E⟩:∃ y,wr r=y:=⟨_,rfl⟩
   rw [E] at OU ⊢
   obtain ⟨s,t⟩:=a
   obtain ⟨s',t'⟩:=b
   show Calls _ _ #[.agg #[.string s,.string t],.agg #[.string s',.string t']] _ _
   replace R:Hid (∀ W,Calls Tryz.prog 149 #[.agg #[.string s,.string t]] W (fun e w'=>e= .returned (.bool true)∧Below W.heap.size W w')):=R
   replace R2:Hid (∀ W,Calls Tryz.prog 149 #[.agg #[.string s',.string t']] W (fun e w'=>e= .returned (.bool true)∧Below W.heap.size W w')):=R2
   replace I1:Hid (∀ W,Calls Tryz.prog 166 #[.agg #[.string s,.string t]] W (dH W p)):=I1
   replace I2:Hid (∀ W,Calls Tryz.prog 166 #[.agg #[.string s',.string t']] W (dH W q)):=I2
   replace OU:Hid (∀ x W,Ra W x r→Calls Tryz.prog 109 #[x] W (fun e w'=>e= .returned (.tuple #[.agg #[.string s1,.string s2],.int .i64 k1])∧Below W.heap.size W w')):=OU
   clear h ha hb k E
   go_enter Tryz.func153,Tryz.ntmps153
   go_wp2_with fail
   obtain ⟨cO,EW,hz,X1,X2,X3⟩:=yM w #[.string s,.string t] 36 #[.string s',.string t'] 36 #[.string ⟨#[]⟩,.string ⟨#[]⟩] 36
   rw [EW]
   have hk2:=Bt (Below.refl _ _) hz
   clear EW hz
   refine (R.out _).mono ?_
   rintro e iN ⟨rfl,hb3⟩
   replace X1:=X1.bl hb3
   replace X2:=X2.bl hb3
   replace X3:=X3.bl hb3
   have hk5:=Bt hk2 hb3
   clear hk2
   clear hb3
   obtain ⟨dV,dS,gM⟩:=X2.dx
   go_wp2_with fail
   clear dV dS gM
   refine (R2.out _).mono ?_
   rintro e fQ ⟨rfl,hb6⟩
   replace X1:=X1.bl hb6
   replace X2:=X2.bl hb6
   replace X3:=X3.bl hb6
   have jW:=Bt hk5 hb6
   clear hk5
   clear hb6
   go_wp2_with fail
   obtain ⟨dW,dU,fG⟩:=X1.dx
   obtain ⟨dV,dS,gM⟩:=X2.dx
   refine aC [(.read,0),(.read,2),(.ext,1),(.ext,3),(.ext,4),(.ext,5),(.pure,6),(.pure,7),(.fin,8),(.fin,9)] zk zk zR zP ?_
   repeat (first|(refine ah rfl rfl fun J h=>?_;go_simp;refine h _ ?_;clear h J)|(refine au rfl rfl rfl rfl fun J h=>?_;go_simp;refine h _ ?_;clear h J;try go_simp))
   refine aD rfl rfl (fun oU gQ J hJ=>?_);go_simp
   have gI:Below fQ.heap.size fQ oU:=aA
   clear gQ
   refine (I1.out _).mono ?_
   rintro e dN ⟨v,rfl,dh,gy⟩
   obtain ⟨bA,kV,lA,kX,J4,uR,JZ,uW,rfl,Bo,Bn⟩:=id gy
   refine hJ _ _ dh ?_
   clear hJ J
   have fF:=Bt gI dh
   have QA:=zh gy
   clear gI dh gy Bo Bn
   repeat (first|(refine ah rfl rfl fun J h=>?_;go_simp;refine h _ ?_;clear h J)|(refine au rfl rfl rfl rfl fun J h=>?_;go_simp;refine h _ ?_;clear h J;try go_simp))
   refine aD rfl rfl (fun oN eZ J hJ=>?_);go_simp
   have hh12:Below fQ.heap.size fQ oN:=Bt fF aA
   replace QA:=zh (QA.out.later (show Below dN.heap.size dN oN from aA))
   clear eZ fF
   refine (I2.out _).mono ?_
   rintro e iR ⟨v,rfl,fA,vQ⟩
   obtain ⟨bB,nu,lB,nD,Ob,wM,Ni,xG,rfl,vO,Lf⟩:=id vQ
   refine hJ _ _ fA ?_
   clear hJ J
   have mR:=Bt hh12 fA
   replace QA:=zh (QA.out.later fA)
   have QB:=zh vQ
   clear hh12 fA vQ vO Lf
   repeat (first|(refine ah rfl rfl fun J h=>?_;go_simp;refine h _ ?_;clear h J)|(refine au rfl rfl rfl rfl fun J h=>?_;go_simp;refine h _ ?_;clear h J;try go_simp))
   refine aD rfl rfl (fun r9 uV J hJ=>?_);go_simp
   have vS:Below fQ.heap.size fQ r9:=Bt mR aA
   replace QA:=zh (QA.out.later (show Below iR.heap.size iR r9 from aA))
   replace QB:=zh (QB.out.later (show Below iR.heap.size iR r9 from aA))
   clear uV mR
   refine (OP.out _ _ _ QA.out QB.out).mono ?_
   rintro e kW ⟨v,rfl,iZ,vP⟩
   obtain ⟨bC,Cw,lC,Cz,bCd,Vy,lCd,Xa,rfl,ru,Le⟩:=id vP
   refine hJ _ _ iZ ?_
   clear hJ J
   have oC:=Bt vS iZ
   replace QA:=zh (QA.out.later iZ)
   replace QB:=zh (QB.out.later iZ)
   have QC:=zh vP
   clear vS iZ vP ru Le
   repeat (first|(refine ah rfl rfl fun J h=>?_;go_simp;refine h _ ?_;clear h J)|(refine au rfl rfl rfl rfl fun J h=>?_;go_simp;refine h _ ?_;clear h J;try go_simp))
   refine aD rfl rfl (fun nY mU J hJ=>?_);go_simp
   have oO:Below fQ.heap.size fQ nY:=Bt oC aA
   replace QA:=zh (QA.out.later (show Below kW.heap.size kW nY from aA))
   replace QB:=zh (QB.out.later (show Below kW.heap.size kW nY from aA))
   replace QC:=zh (QC.out.later (show Below kW.heap.size kW nY from aA))
   clear mU oC
   refine (OU.out _ _ QC.out).mono ?_
   rintro e jZ ⟨rfl,iO⟩
   refine hJ _ _ iO ?_
   clear hJ J
   have pY:=Bt oO iO
   replace QA:=zh (QA.out.later iO)
   replace QB:=zh (QB.out.later iO)
   replace QC:=zh (QC.out.later iO)
   clear oO iO
   repeat (first|(refine ah rfl rfl fun J h=>?_;go_simp;refine h _ ?_;clear h J)|(refine au rfl rfl rfl rfl fun J h=>?_;go_simp;refine h _ ?_;clear h J;try go_simp))
   refine aJ [_,_] rfl (fun mI zG=>?_)
   replace QA:=zh (QA.out.later (show Below jZ.heap.size jZ mI from aA))
   replace QB:=zh (QB.out.later (show Below jZ.heap.size jZ mI from aA))
   replace QC:=zh (QC.out.later (show Below jZ.heap.size jZ mI from aA))
   have jg:Below fQ.heap.size fQ mI:=Bt pY aA
   clear zG pY
   clear dW dU fG dV dS gM
   replace X1:=X1.bl jg
   replace X2:=X2.bl jg
   replace X3:=X3.bl jg
   have IW:=Bt jW jg
   clear jW
   clear jg
   clear QA
   clear QB
   clear QC
   obtain ⟨mF,mD,pz⟩:=X3.dx
   have hres:=X3.out
   have gW:=hres.cell
   have gV:=hres.free
   go_wp2_with fail
   refine aP rfl rfl aL Tryz.underlying36 rfl zk ?_
   exact ⟨rfl,aA⟩
theorem Ch (a b:Fr) (w:World) (ha:Fits a) (hb:Fits b):Calls Tryz.prog 150 #[a.v,b.v] w (oM w (Fw a b)):=by
 unfold oM
 cases h:rd a with
 | none =>
  rw [show Fw a b=(Fr.no,20) from pI h]
  have R:=zh (fun W=>iD (b:=false) (by rw [h];rfl) ha W)
  obtain ⟨s,t⟩:=a
  obtain ⟨s',t'⟩:=b
  show Calls _ _ #[.agg #[.string s,.string t],.agg #[.string s',.string t']] _ _
  replace R:Hid (∀ W,Calls Tryz.prog 149 #[.agg #[.string s,.string t]] W (fun e w'=>e= .returned (.bool false)∧Below W.heap.size W w')):=R
  clear h ha hb
  have h0:Below w.heap.size w (((w.alloc (.cells #[.string s,.string t] 36)).alloc (.cells #[.string s',.string t'] 36)).alloc (.cells #[.string ⟨#[]⟩,.string ⟨#[]⟩] 36)):=aA
  have hx:=aB.at2 w (.cells #[.string s,.string t] 36) (.cells #[.string s',.string t'] 36) #[.string ⟨#[]⟩,.string ⟨#[]⟩] 36
  go_enter Tryz.func150,Tryz.ntmps150
  go_wp2_with fail
  refine (R.out _).mono ?_
  rintro e w1 ⟨rfl,hb⟩
  have hr:=hx.later hb
  have cr:=hr.cell
  have fr:=hr.free
  have lr:=hr.lt
  go_wp2_with fail
  refine aP rfl rfl aL Tryz.underlying36 rfl zk ?_
  exact ⟨rfl,aA⟩
 | some p =>
  have R:=zh (fun W=>iD (b:=true) (by rw [h];rfl) ha W)
  cases k:rd b with
  | none =>
   rw [show Fw a b=(Fr.no,20) from pG k]
   have R2:=zh (fun W=>iD (b:=false) (by rw [k];rfl) hb W)
   obtain ⟨s,t⟩:=a
   obtain ⟨s',t'⟩:=b
   show Calls _ _ #[.agg #[.string s,.string t],.agg #[.string s',.string t']] _ _
   replace R:Hid (∀ W,Calls Tryz.prog 149 #[.agg #[.string s,.string t]] W (fun e w'=>e= .returned (.bool true)∧Below W.heap.size W w')):=R
   replace R2:Hid (∀ W,Calls Tryz.prog 149 #[.agg #[.string s',.string t']] W (fun e w'=>e= .returned (.bool false)∧Below W.heap.size W w')):=R2
   clear h ha hb k
   go_enter Tryz.func150,Tryz.ntmps150
   go_wp2_with fail
   obtain ⟨cO,EW,hz,X1,X2,X3⟩:=yM w #[.string s,.string t] 36 #[.string s',.string t'] 36 #[.string ⟨#[]⟩,.string ⟨#[]⟩] 36
   rw [EW]
   have hk2:=Bt (Below.refl _ _) hz
   clear EW hz
   refine (R.out _).mono ?_
   rintro e iN ⟨rfl,hb3⟩
   replace X1:=X1.bl hb3
   replace X2:=X2.bl hb3
   replace X3:=X3.bl hb3
   have hk5:=Bt hk2 hb3
   clear hk2
   clear hb3
   obtain ⟨dV,dS,gM⟩:=X2.dx
   go_wp2_with fail
   clear dV dS gM
   refine (R2.out _).mono ?_
   rintro e fQ ⟨rfl,hb6⟩
   replace X1:=X1.bl hb6
   replace X2:=X2.bl hb6
   replace X3:=X3.bl hb6
   have jW:=Bt hk5 hb6
   clear hk5
   clear hb6
   obtain ⟨mF,mD,pz⟩:=X3.dx
   have hres:=X3.out
   have gW:=hres.cell
   have gV:=hres.free
   go_wp2_with fail
   refine aP rfl rfl aL Tryz.underlying36 rfl zk ?_
   exact ⟨rfl,aA⟩
  | some q =>
   rw [show Fw a b=wr (p - q) from iL h k]
   have R2:=zh (fun W=>iD (b:=true) (by rw [k];rfl) hb W)
   have I1:=zh (fun W=>vD h W)
   have I2:=zh (fun W=>vD k W)
   have hp:=qZ h
   have hq:=qZ k
   have OP:=zh (fun x y W hx hy=>tX x y p q W hx hy (hp.mono zo) (hq.mono zo))
   have hs:eP 1000 (p - q):=(Vp hp hq).mono zo
   obtain ⟨f1,f2⟩:=eP.Nu hs
   have OU:=zh (fun x W hx=>qm x (p - q) W hx f1 f2)
   clear f1 f2 hp hq hs
   generalize p - q=r at *
   obtain ⟨⟨⟨s1,s2⟩,k1⟩,E⟩:∃ y,wr r=y:=⟨_,rfl⟩
   rw [E] at OU ⊢
   obtain ⟨s,t⟩:=a
   obtain ⟨s',t'⟩:=b
   show Calls _ _ #[.agg #[.string s,.string t],.agg #[.string s',.string t']] _ _
   replace R:Hid (∀ W,Calls Tryz.prog 149 #[.agg #[.string s,.string t]] W (fun e w'=>e= .returned (.bool true)∧Below W.heap.size W w')):=R
   replace R2:Hid (∀ W,Calls Tryz.prog 149 #[.agg #[.string s',.string t']] W (fun e w'=>e= .returned (.bool true)∧Below W.heap.size W w')):=R2
   replace I1:Hid (∀ W,Calls Tryz.prog 166 #[.agg #[.string s,.string t]] W (dH W p)):=I1
   replace I2:Hid (∀ W,Calls Tryz.prog 166 #[.agg #[.string s',.string t']] W (dH W q)):=I2
   replace OU:Hid (∀ x W,Ra W x r→Calls Tryz.prog 109 #[x] W (fun e w'=>e= .returned (.tuple #[.agg #[.string s1,.string s2],.int .i64 k1])∧Below W.heap.size W w')):=OU
   clear h ha hb k E
   go_enter Tryz.func150,Tryz.ntmps150
   go_wp2_with fail
   obtain ⟨cO,EW,hz,X1,X2,X3⟩:=yM w #[.string s,.string t] 36 #[.string s',.string t'] 36 #[.string ⟨#[]⟩,.string ⟨#[]⟩] 36
   rw [EW]
   have hk2:=Bt (Below.refl _ _) hz
   clear EW hz
   refine (R.out _).mono ?_
   rintro e iN ⟨rfl,hb3⟩
   replace X1:=X1.bl hb3
   replace X2:=X2.bl hb3
   replace X3:=X3.bl hb3
   have hk5:=Bt hk2 hb3
   clear hk2
   clear hb3
   obtain ⟨dV,dS,gM⟩:=X2.dx
   go_wp2_with fail
   clear dV dS gM
   refine (R2.out _).mono ?_
   rintro e fQ ⟨rfl,hb6⟩
   replace X1:=X1.bl hb6
   replace X2:=X2.bl hb6
   replace X3:=X3.bl hb6
   have jW:=Bt hk5 hb6
   clear hk5
   clear hb6
   go_wp2_with fail
   obtain ⟨dW,dU,fG⟩:=X1.dx
   obtain ⟨dV,dS,gM⟩:=X2.dx
   refine aC [(.read,0),(.read,2),(.ext,1),(.ext,3),(.ext,4),(.ext,5),(.pure,6),(.pure,7),(.fin,8),(.fin,9)] zk zk zR zP ?_
   repeat (first|(refine ah rfl rfl fun J h=>?_;go_simp;refine h _ ?_;clear h J)|(refine au rfl rfl rfl rfl fun J h=>?_;go_simp;refine h _ ?_;clear h J;try go_simp))
   refine aD rfl rfl (fun oU gQ J hJ=>?_);go_simp
   have gI:Below fQ.heap.size fQ oU:=aA
   clear gQ
   refine (I1.out _).mono ?_
   rintro e dN ⟨v,rfl,dh,gy⟩
   obtain ⟨bA,kV,lA,kX,J4,uR,JZ,uW,rfl,Bo,Bn⟩:=id gy
   refine hJ _ _ dh ?_
   clear hJ J
   have fF:=Bt gI dh
   have QA:=zh gy
   clear gI dh gy Bo Bn
   repeat (first|(refine ah rfl rfl fun J h=>?_;go_simp;refine h _ ?_;clear h J)|(refine au rfl rfl rfl rfl fun J h=>?_;go_simp;refine h _ ?_;clear h J;try go_simp))
   refine aD rfl rfl (fun oN eZ J hJ=>?_);go_simp
   have hh12:Below fQ.heap.size fQ oN:=Bt fF aA
   replace QA:=zh (QA.out.later (show Below dN.heap.size dN oN from aA))
   clear eZ fF
   refine (I2.out _).mono ?_
   rintro e iR ⟨v,rfl,fA,vQ⟩
   obtain ⟨bB,nu,lB,nD,Ob,wM,Ni,xG,rfl,vO,Lf⟩:=id vQ
   refine hJ _ _ fA ?_
   clear hJ J
   have mR:=Bt hh12 fA
   replace QA:=zh (QA.out.later fA)
   have QB:=zh vQ
   clear hh12 fA vQ vO Lf
   repeat (first|(refine ah rfl rfl fun J h=>?_;go_simp;refine h _ ?_;clear h J)|(refine au rfl rfl rfl rfl fun J h=>?_;go_simp;refine h _ ?_;clear h J;try go_simp))
   refine aD rfl rfl (fun r9 uV J hJ=>?_);go_simp
   have vS:Below fQ.heap.size fQ r9:=Bt mR aA
   replace QA:=zh (QA.out.later (show Below iR.heap.size iR r9 from aA))
   replace QB:=zh (QB.out.later (show Below iR.heap.size iR r9 from aA))
   clear uV mR
   refine (OP.out _ _ _ QA.out QB.out).mono ?_
   rintro e kW ⟨v,rfl,iZ,vP⟩
   obtain ⟨bC,Cw,lC,Cz,bCd,Vy,lCd,Xa,rfl,ru,Le⟩:=id vP
   refine hJ _ _ iZ ?_
   clear hJ J
   have oC:=Bt vS iZ
   replace QA:=zh (QA.out.later iZ)
   replace QB:=zh (QB.out.later iZ)
   have QC:=zh vP
   clear vS iZ vP ru Le
   repeat (first|(refine ah rfl rfl fun J h=>?_;go_simp;refine h _ ?_;clear h J)|(refine au rfl rfl rfl rfl fun J h=>?_;go_simp;refine h _ ?_;clear h J;try go_simp))
   refine aD rfl rfl (fun nY mU J hJ=>?_);go_simp
   have oO:Below fQ.heap.size fQ nY:=Bt oC aA
   replace QA:=zh (QA.out.later (show Below kW.heap.size kW nY from aA))
   replace QB:=zh (QB.out.later (show Below kW.heap.size kW nY from aA))
   replace QC:=zh (QC.out.later (show Below kW.heap.size kW nY from aA))
   clear mU oC
   refine (OU.out _ _ QC.out).mono ?_
   rintro e jZ ⟨rfl,iO⟩
   refine hJ _ _ iO ?_
   clear hJ J
   have pY:=Bt oO iO
   replace QA:=zh (QA.out.later iO)
   replace QB:=zh (QB.out.later iO)
   replace QC:=zh (QC.out.later iO)
   clear oO iO
   repeat (first|(refine ah rfl rfl fun J h=>?_;go_simp;refine h _ ?_;clear h J)|(refine au rfl rfl rfl rfl fun J h=>?_;go_simp;refine h _ ?_;clear h J;try go_simp))
   refine aJ [_,_] rfl (fun mI zG=>?_)
   replace QA:=zh (QA.out.later (show Below jZ.heap.size jZ mI from aA))
   replace QB:=zh (QB.out.later (show Below jZ.heap.size jZ mI from aA))
   replace QC:=zh (QC.out.later (show Below jZ.heap.size jZ mI from aA))
   have jg:Below fQ.heap.size fQ mI:=Bt pY aA
   clear zG pY
   clear dW dU fG dV dS gM
   replace X1:=X1.bl jg
   replace X2:=X2.bl jg
   replace X3:=X3.bl jg
   have IW:=Bt jW jg
   clear jW
   clear jg
   clear QA
   clear QB
   clear QC
   obtain ⟨mF,mD,pz⟩:=X3.dx
   have hres:=X3.out
   have gW:=hres.cell
   have gV:=hres.free
   go_wp2_with fail
   refine aP rfl rfl aL Tryz.underlying36 rfl zk ?_
   exact ⟨rfl,aA⟩
theorem tV (a b:Fr) (w:World) (ha:Fits a) (hb:Fits b):Calls Tryz.prog 154 #[a.v,b.v] w (oM w (IC a b)):=by
 unfold oM
 cases h:rd a with
 | none =>
  rw [show IC a b=(Fr.no,20) from pI h]
  have R:=zh (fun W=>iD (b:=false) (by rw [h];rfl) ha W)
  obtain ⟨s,t⟩:=a
  obtain ⟨s',t'⟩:=b
  show Calls _ _ #[.agg #[.string s,.string t],.agg #[.string s',.string t']] _ _
  replace R:Hid (∀ W,Calls Tryz.prog 149 #[.agg #[.string s,.string t]] W (fun e w'=>e= .returned (.bool false)∧Below W.heap.size W w')):=R
  clear h ha hb
  have h0:Below w.heap.size w (((w.alloc (.cells #[.string s,.string t] 36)).alloc (.cells #[.string s',.string t'] 36)).alloc (.cells #[.string ⟨#[]⟩,.string ⟨#[]⟩] 36)):=aA
  have hx:=aB.at2 w (.cells #[.string s,.string t] 36) (.cells #[.string s',.string t'] 36) #[.string ⟨#[]⟩,.string ⟨#[]⟩] 36
  go_enter Tryz.func154,Tryz.ntmps154
  go_wp2_with fail
  refine (R.out _).mono ?_
  rintro e w1 ⟨rfl,hb⟩
  have hr:=hx.later hb
  have cr:=hr.cell
  have fr:=hr.free
  have lr:=hr.lt
  go_wp2_with fail
  refine aP rfl rfl aL Tryz.underlying36 rfl zk ?_
  exact ⟨rfl,aA⟩
 | some p =>
  have R:=zh (fun W=>iD (b:=true) (by rw [h];rfl) ha W)
  cases k:rd b with
  | none =>
   rw [show IC a b=(Fr.no,20) from pG k]
   have R2:=zh (fun W=>iD (b:=false) (by rw [k];rfl) hb W)
   obtain ⟨s,t⟩:=a
   obtain ⟨s',t'⟩:=b
   show Calls _ _ #[.agg #[.string s,.string t],.agg #[.string s',.string t']] _ _
   replace R:Hid (∀ W,Calls Tryz.prog 149 #[.agg #[.string s,.string t]] W (fun e w'=>e= .returned (.bool true)∧Below W.heap.size W w')):=R
   replace R2:Hid (∀ W,Calls Tryz.prog 149 #[.agg #[.string s',.string t']] W (fun e w'=>e= .returned (.bool false)∧Below W.heap.size W w')):=R2
   clear h ha hb k
   go_enter Tryz.func154,Tryz.ntmps154
   go_wp2_with fail
   obtain ⟨cO,EW,hz,X1,X2,X3⟩:=yM w #[.string s,.string t] 36 #[.string s',.string t'] 36 #[.string ⟨#[]⟩,.string ⟨#[]⟩] 36
   rw [EW]
   have hk2:=Bt (Below.refl _ _) hz
   clear EW hz
   refine (R.out _).mono ?_
   rintro e iN ⟨rfl,hb3⟩
   replace X1:=X1.bl hb3
   replace X2:=X2.bl hb3
   replace X3:=X3.bl hb3
   have hk5:=Bt hk2 hb3
   clear hk2
   clear hb3
   obtain ⟨dV,dS,gM⟩:=X2.dx
   go_wp2_with fail
   clear dV dS gM
   refine (R2.out _).mono ?_
   rintro e fQ ⟨rfl,hb6⟩
   replace X1:=X1.bl hb6
   replace X2:=X2.bl hb6
   replace X3:=X3.bl hb6
   have jW:=Bt hk5 hb6
   clear hk5
   clear hb6
   obtain ⟨mF,mD,pz⟩:=X3.dx
   have hres:=X3.out
   have gW:=hres.cell
   have gV:=hres.free
   go_wp2_with fail
   refine aP rfl rfl aL Tryz.underlying36 rfl zk ?_
   exact ⟨rfl,aA⟩
  | some q =>
   rw [show IC a b=wr (p*q) from iL h k]
   have R2:=zh (fun W=>iD (b:=true) (by rw [k];rfl) hb W)
   have I1:=zh (fun W=>vD h W)
   have I2:=zh (fun W=>vD k W)
   have hp:=qZ h
   have hq:=qZ k
   have OP:=zh (fun x y W hx hy=>iM x y p q W hx hy (hp.mono zo) (hq.mono zo))
   have hs:eP 1000 (p*q):=(qU hp hq).mono zo
   obtain ⟨f1,f2⟩:=eP.Nu hs
   have OU:=zh (fun x W hx=>qm x (p*q) W hx f1 f2)
   clear f1 f2 hp hq hs
   generalize p*q=r at *
   obtain ⟨⟨⟨s1,s2⟩,k1⟩,E⟩:∃ y,wr r=y:=⟨_,rfl⟩
   rw [E] at OU ⊢
   obtain ⟨s,t⟩:=a
   obtain ⟨s',t'⟩:=b
   show Calls _ _ #[.agg #[.string s,.string t],.agg #[.string s',.string t']] _ _
   replace R:Hid (∀ W,Calls Tryz.prog 149 #[.agg #[.string s,.string t]] W (fun e w'=>e= .returned (.bool true)∧Below W.heap.size W w')):=R
   replace R2:Hid (∀ W,Calls Tryz.prog 149 #[.agg #[.string s',.string t']] W (fun e w'=>e= .returned (.bool true)∧Below W.heap.size W w')):=R2
   replace I1:Hid (∀ W,Calls Tryz.prog 166 #[.agg #[.string s,.string t]] W (dH W p)):=I1
   replace I2:Hid (∀ W,Calls Tryz.prog 166 #[.agg #[.string s',.string t']] W (dH W q)):=I2
   replace OU:Hid (∀ x W,Ra W x r→Calls Tryz.prog 109 #[x] W (fun e w'=>e= .returned (.tuple #[.agg #[.string s1,.string s2],.int .i64 k1])∧Below W.heap.size W w')):=OU
   clear h ha hb k E
   go_enter Tryz.func154,Tryz.ntmps154
   go_wp2_with fail
   obtain ⟨cO,EW,hz,X1,X2,X3⟩:=yM w #[.string s,.string t] 36 #[.string s',.string t'] 36 #[.string ⟨#[]⟩,.string ⟨#[]⟩] 36
   rw [EW]
   have hk2:=Bt (Below.refl _ _) hz
   clear EW hz
   refine (R.out _).mono ?_
   rintro e iN ⟨rfl,hb3⟩
   replace X1:=X1.bl hb3
   replace X2:=X2.bl hb3
   replace X3:=X3.bl hb3
   have hk5:=Bt hk2 hb3
   clear hk2
   clear hb3
   obtain ⟨dV,dS,gM⟩:=X2.dx
   go_wp2_with fail
   clear dV dS gM
   refine (R2.out _).mono ?_
   rintro e fQ ⟨rfl,hb6⟩
   replace X1:=X1.bl hb6
   replace X2:=X2.bl hb6
   replace X3:=X3.bl hb6
   have jW:=Bt hk5 hb6
   clear hk5
   clear hb6
   go_wp2_with fail
   obtain ⟨dW,dU,fG⟩:=X1.dx
   obtain ⟨dV,dS,gM⟩:=X2.dx
   refine aC [(.read,0),(.read,2),(.ext,1),(.ext,3),(.ext,4),(.ext,5),(.pure,6),(.pure,7),(.fin,8),(.fin,9)] zk zk zR zP ?_
   repeat (first|(refine ah rfl rfl fun J h=>?_;go_simp;refine h _ ?_;clear h J)|(refine au rfl rfl rfl rfl fun J h=>?_;go_simp;refine h _ ?_;clear h J;try go_simp))
   refine aD rfl rfl (fun oU gQ J hJ=>?_);go_simp
   have gI:Below fQ.heap.size fQ oU:=aA
   clear gQ
   refine (I1.out _).mono ?_
   rintro e dN ⟨v,rfl,dh,gy⟩
   obtain ⟨bA,kV,lA,kX,J4,uR,JZ,uW,rfl,Bo,Bn⟩:=id gy
   refine hJ _ _ dh ?_
   clear hJ J
   have fF:=Bt gI dh
   have QA:=zh gy
   clear gI dh gy Bo Bn
   repeat (first|(refine ah rfl rfl fun J h=>?_;go_simp;refine h _ ?_;clear h J)|(refine au rfl rfl rfl rfl fun J h=>?_;go_simp;refine h _ ?_;clear h J;try go_simp))
   refine aD rfl rfl (fun oN eZ J hJ=>?_);go_simp
   have hh12:Below fQ.heap.size fQ oN:=Bt fF aA
   replace QA:=zh (QA.out.later (show Below dN.heap.size dN oN from aA))
   clear eZ fF
   refine (I2.out _).mono ?_
   rintro e iR ⟨v,rfl,fA,vQ⟩
   obtain ⟨bB,nu,lB,nD,Ob,wM,Ni,xG,rfl,vO,Lf⟩:=id vQ
   refine hJ _ _ fA ?_
   clear hJ J
   have mR:=Bt hh12 fA
   replace QA:=zh (QA.out.later fA)
   have QB:=zh vQ
   clear hh12 fA vQ vO Lf
   repeat (first|(refine ah rfl rfl fun J h=>?_;go_simp;refine h _ ?_;clear h J)|(refine au rfl rfl rfl rfl fun J h=>?_;go_simp;refine h _ ?_;clear h J;try go_simp))
   refine aD rfl rfl (fun r9 uV J hJ=>?_);go_simp
   have vS:Below fQ.heap.size fQ r9:=Bt mR aA
   replace QA:=zh (QA.out.later (show Below iR.heap.size iR r9 from aA))
   replace QB:=zh (QB.out.later (show Below iR.heap.size iR r9 from aA))
   clear uV mR
   refine (OP.out _ _ _ QA.out QB.out).mono ?_
   rintro e kW ⟨v,rfl,iZ,vP⟩
   obtain ⟨bC,Cw,lC,Cz,bCd,Vy,lCd,Xa,rfl,ru,Le⟩:=id vP
   refine hJ _ _ iZ ?_
   clear hJ J
   have oC:=Bt vS iZ
   replace QA:=zh (QA.out.later iZ)
   replace QB:=zh (QB.out.later iZ)
   have QC:=zh vP
   clear vS iZ vP ru Le
   repeat (first|(refine ah rfl rfl fun J h=>?_;go_simp;refine h _ ?_;clear h J)|(refine au rfl rfl rfl rfl fun J h=>?_;go_simp;refine h _ ?_;clear h J;try go_simp))
   refine aD rfl rfl (fun nY mU J hJ=>?_);go_simp
   have oO:Below fQ.heap.size fQ nY:=Bt oC aA
   replace QA:=zh (QA.out.later (show Below kW.heap.size kW nY from aA))
   replace QB:=zh (QB.out.later (show Below kW.heap.size kW nY from aA))
   replace QC:=zh (QC.out.later (show Below kW.heap.size kW nY from aA))
   clear mU oC
   refine (OU.out _ _ QC.out).mono ?_
   rintro e jZ ⟨rfl,iO⟩
   refine hJ _ _ iO ?_
   clear hJ J
   have pY:=Bt oO iO
   replace QA:=zh (QA.out.later iO)
   replace QB:=zh (QB.out.later iO)
   replace QC:=zh (QC.out.later iO)
   clear oO iO
   repeat (first|(refine ah rfl rfl fun J h=>?_;go_simp;refine h _ ?_;clear h J)|(refine au rfl rfl rfl rfl fun J h=>?_;go_simp;refine h _ ?_;clear h J;try go_simp))
   refine aJ [_,_] rfl (fun mI zG=>?_)
   replace QA:=zh (QA.out.later (show Below jZ.heap.size jZ mI from aA))
   replace QB:=zh (QB.out.later (show Below jZ.heap.size jZ mI from aA))
   replace QC:=zh (QC.out.later (show Below jZ.heap.size jZ mI from aA))
   have jg:Below fQ.heap.size fQ mI:=Bt pY aA
   clear zG pY
   clear dW dU fG dV dS gM
   replace X1:=X1.bl jg
   replace X2:=X2.bl jg
   replace X3:=X3.bl jg
   have IW:=Bt jW jg
   clear jW
   clear jg
   clear QA
   clear QB
   clear QC
   obtain ⟨mF,mD,pz⟩:=X3.dx
   have hres:=X3.out
   have gW:=hres.cell
   have gV:=hres.free
   go_wp2_with fail
   refine aP rfl rfl aL Tryz.underlying36 rfl zk ?_
   exact ⟨rfl,aA⟩
theorem Ct (a b:Fr) (w:World) (ha:Fits a) (hb:Fits b):Calls Tryz.prog 155 #[a.v,b.v] w (oM w (zN a b)):=by
 unfold oM
 cases h:rd a with
 | none =>
  rw [show zN a b=(Fr.no,20) from pI h]
  have R:=zh (fun W=>iD (b:=false) (by rw [h];rfl) ha W)
  obtain ⟨s,t⟩:=a
  obtain ⟨s',t'⟩:=b
  show Calls _ _ #[.agg #[.string s,.string t],.agg #[.string s',.string t']] _ _
  replace R:Hid (∀ W,Calls Tryz.prog 149 #[.agg #[.string s,.string t]] W (fun e w'=>e= .returned (.bool false)∧Below W.heap.size W w')):=R
  clear h ha hb
  have h0:Below w.heap.size w (((w.alloc (.cells #[.string s,.string t] 36)).alloc (.cells #[.string s',.string t'] 36)).alloc (.cells #[.string ⟨#[]⟩,.string ⟨#[]⟩] 36)):=aA
  have hx:=aB.at2 w (.cells #[.string s,.string t] 36) (.cells #[.string s',.string t'] 36) #[.string ⟨#[]⟩,.string ⟨#[]⟩] 36
  go_enter Tryz.func155,Tryz.ntmps155
  go_wp2_with fail
  refine (R.out _).mono ?_
  rintro e w1 ⟨rfl,hb⟩
  have hr:=hx.later hb
  have cr:=hr.cell
  have fr:=hr.free
  have lr:=hr.lt
  go_wp2_with fail
  refine aP rfl rfl aL Tryz.underlying36 rfl zk ?_
  exact ⟨rfl,aA⟩
 | some p =>
  have R:=zh (fun W=>iD (b:=true) (by rw [h];rfl) ha W)
  cases k:rd b with
  | none =>
   rw [show zN a b=(Fr.no,20) from pG k]
   have R2:=zh (fun W=>iD (b:=false) (by rw [k];rfl) hb W)
   obtain ⟨s,t⟩:=a
   obtain ⟨s',t'⟩:=b
   show Calls _ _ #[.agg #[.string s,.string t],.agg #[.string s',.string t']] _ _
   replace R:Hid (∀ W,Calls Tryz.prog 149 #[.agg #[.string s,.string t]] W (fun e w'=>e= .returned (.bool true)∧Below W.heap.size W w')):=R
   replace R2:Hid (∀ W,Calls Tryz.prog 149 #[.agg #[.string s',.string t']] W (fun e w'=>e= .returned (.bool false)∧Below W.heap.size W w')):=R2
   clear h ha hb k
   go_enter Tryz.func155,Tryz.ntmps155
   go_wp2_with fail
   obtain ⟨cO,EW,hz,X1,X2,X3⟩:=yM w #[.string s,.string t] 36 #[.string s',.string t'] 36 #[.string ⟨#[]⟩,.string ⟨#[]⟩] 36
   rw [EW]
   have hk2:=Bt (Below.refl _ _) hz
   clear EW hz
   refine (R.out _).mono ?_
   rintro e iN ⟨rfl,hb3⟩
   replace X1:=X1.bl hb3
   replace X2:=X2.bl hb3
   replace X3:=X3.bl hb3
   have hk5:=Bt hk2 hb3
   clear hk2
   clear hb3
   obtain ⟨dV,dS,gM⟩:=X2.dx
   go_wp2_with fail
   clear dV dS gM
   refine (R2.out _).mono ?_
   rintro e fQ ⟨rfl,hb6⟩
   replace X1:=X1.bl hb6
   replace X2:=X2.bl hb6
   replace X3:=X3.bl hb6
   have jW:=Bt hk5 hb6
   clear hk5
   clear hb6
   obtain ⟨mF,mD,pz⟩:=X3.dx
   have hres:=X3.out
   have gW:=hres.cell
   have gV:=hres.free
   go_wp2_with fail
   refine aP rfl rfl aL Tryz.underlying36 rfl zk ?_
   exact ⟨rfl,aA⟩
  | some q =>
   have R2:=zh (fun W=>iD (b:=true) (by rw [k];rfl) hb W)
   have hz:=OA k
   by_cases h0:q=0
   ·rw [show zN a b=(Fr.no,7) by rw [show zN a b=if q=0 then (Fr.no,7) else wr (p / q) from iL h k,if_pos h0]]
    rw [decide_eq_true h0] at hz
    obtain ⟨s,t⟩:=a
    obtain ⟨s',t'⟩:=b
    show Calls _ _ #[.agg #[.string s,.string t],.agg #[.string s',.string t']] _ _
    replace hz:(s'.toList == [48])=true:=hz
    replace R:Hid (∀ W,Calls Tryz.prog 149 #[.agg #[.string s,.string t]] W (fun e w'=>e= .returned (.bool true)∧Below W.heap.size W w')):=R
    replace R2:Hid (∀ W,Calls Tryz.prog 149 #[.agg #[.string s',.string t']] W (fun e w'=>e= .returned (.bool true)∧Below W.heap.size W w')):=R2
    clear h ha hb k h0
    go_enter Tryz.func155,Tryz.ntmps155
    go_wp2_with fail
    obtain ⟨cO,EW,hz,X1,X2,X3⟩:=yM w #[.string s,.string t] 36 #[.string s',.string t'] 36 #[.string ⟨#[]⟩,.string ⟨#[]⟩] 36
    rw [EW]
    have hk2:=Bt (Below.refl _ _) hz
    clear EW hz
    refine (R.out _).mono ?_
    rintro e iN ⟨rfl,hb3⟩
    replace X1:=X1.bl hb3
    replace X2:=X2.bl hb3
    replace X3:=X3.bl hb3
    have hk5:=Bt hk2 hb3
    clear hk2
    clear hb3
    obtain ⟨dV,dS,gM⟩:=X2.dx
    go_wp2_with fail
    clear dV dS gM
    refine (R2.out _).mono ?_
    rintro e fQ ⟨rfl,hb6⟩
    replace X1:=X1.bl hb6
    replace X2:=X2.bl hb6
    replace X3:=X3.bl hb6
    have jW:=Bt hk5 hb6
    clear hk5
    clear hb6
    obtain ⟨dV,dS,gM⟩:=X2.dx
    obtain ⟨mF,mD,pz⟩:=X3.dx
    have hres:=X3.out
    have gW:=hres.cell
    have gV:=hres.free
    go_wp2_with fail
    refine aP rfl rfl aL Tryz.underlying36 rfl zk ?_
    exact ⟨rfl,aA⟩
   ·rw [show zN a b=wr (p / q) by rw [show zN a b=if q=0 then (Fr.no,7) else wr (p / q) from iL h k,if_neg h0]]
    rw [decide_eq_false h0] at hz
    have I1:=zh (fun W=>vD h W)
    have I2:=zh (fun W=>vD k W)
    have hp:=qZ h
    have hq:=qZ k
    have OP:=zh (fun x y W hx hy=>Oj x y p q W hx hy (hp.mono zo) (hq.mono zo) h0)
    have hs:eP 1000 (p / q):=by
     rw [Rat.div_def]
     exact (qU hp (Fu hq h0)).mono zo
    obtain ⟨f1,f2⟩:=eP.Nu hs
    have OU:=zh (fun x W hx=>qm x (p / q) W hx f1 f2)
    clear f1 f2 hp hq hs h0
    generalize p / q=r at *
    obtain ⟨⟨⟨s1,s2⟩,k1⟩,E⟩:∃ y,wr r=y:=⟨_,rfl⟩
    rw [E] at OU ⊢
    obtain ⟨s,t⟩:=a
    obtain ⟨s',t'⟩:=b
    show Calls _ _ #[.agg #[.string s,.string t],.agg #[.string s',.string t']] _ _
    replace hz:(s'.toList == [48])=false:=hz
    replace R:Hid (∀ W,Calls Tryz.prog 149 #[.agg #[.string s,.string t]] W (fun e w'=>e= .returned (.bool true)∧Below W.heap.size W w')):=R
    replace R2:Hid (∀ W,Calls Tryz.prog 149 #[.agg #[.string s',.string t']] W (fun e w'=>e= .returned (.bool true)∧Below W.heap.size W w')):=R2
    replace I1:Hid (∀ W,Calls Tryz.prog 166 #[.agg #[.string s,.string t]] W (dH W p)):=I1
    replace I2:Hid (∀ W,Calls Tryz.prog 166 #[.agg #[.string s',.string t']] W (dH W q)):=I2
    replace OU:Hid (∀ x W,Ra W x r→Calls Tryz.prog 109 #[x] W (fun e w'=>e= .returned (.tuple #[.agg #[.string s1,.string s2],.int .i64 k1])∧Below W.heap.size W w')):=OU
    clear h ha hb k E
    go_enter Tryz.func155,Tryz.ntmps155
    go_wp2_with fail
    obtain ⟨cO,EW,hz,X1,X2,X3⟩:=yM w #[.string s,.string t] 36 #[.string s',.string t'] 36 #[.string ⟨#[]⟩,.string ⟨#[]⟩] 36
    rw [EW]
    have hk2:=Bt (Below.refl _ _) hz
    clear EW hz
    refine (R.out _).mono ?_
    rintro e iN ⟨rfl,hb3⟩
    replace X1:=X1.bl hb3
    replace X2:=X2.bl hb3
    replace X3:=X3.bl hb3
    have hk5:=Bt hk2 hb3
    clear hk2
    clear hb3
    obtain ⟨dV,dS,gM⟩:=X2.dx
    go_wp2_with fail
    clear dV dS gM
    refine (R2.out _).mono ?_
    rintro e fQ ⟨rfl,hb6⟩
    replace X1:=X1.bl hb6
    replace X2:=X2.bl hb6
    replace X3:=X3.bl hb6
    have jW:=Bt hk5 hb6
    clear hk5
    clear hb6
    obtain ⟨dV,dS,gM⟩:=X2.dx
    go_wp2_with fail
    clear dV dS gM
    obtain ⟨dW,dU,fG⟩:=X1.dx
    obtain ⟨dV,dS,gM⟩:=X2.dx
    refine aC [(.read,0),(.read,2),(.ext,1),(.ext,3),(.ext,4),(.ext,5),(.pure,6),(.pure,7),(.fin,8),(.fin,9)] zk zk zR zP ?_
    repeat (first|(refine ah rfl rfl fun J h=>?_;go_simp;refine h _ ?_;clear h J)|(refine au rfl rfl rfl rfl fun J h=>?_;go_simp;refine h _ ?_;clear h J;try go_simp))
    refine aD rfl rfl (fun oU gQ J hJ=>?_);go_simp
    have gI:Below fQ.heap.size fQ oU:=aA
    clear gQ
    refine (I1.out _).mono ?_
    rintro e dN ⟨v,rfl,dh,gy⟩
    obtain ⟨bA,kV,lA,kX,J4,uR,JZ,uW,rfl,Bo,Bn⟩:=id gy
    refine hJ _ _ dh ?_
    clear hJ J
    have fF:=Bt gI dh
    have QA:=zh gy
    clear gI dh gy Bo Bn
    repeat (first|(refine ah rfl rfl fun J h=>?_;go_simp;refine h _ ?_;clear h J)|(refine au rfl rfl rfl rfl fun J h=>?_;go_simp;refine h _ ?_;clear h J;try go_simp))
    refine aD rfl rfl (fun oN eZ J hJ=>?_);go_simp
    have hh12:Below fQ.heap.size fQ oN:=Bt fF aA
    replace QA:=zh (QA.out.later (show Below dN.heap.size dN oN from aA))
    clear eZ fF
    refine (I2.out _).mono ?_
    rintro e iR ⟨v,rfl,fA,vQ⟩
    obtain ⟨bB,nu,lB,nD,Ob,wM,Ni,xG,rfl,vO,Lf⟩:=id vQ
    refine hJ _ _ fA ?_
    clear hJ J
    have mR:=Bt hh12 fA
    replace QA:=zh (QA.out.later fA)
    have QB:=zh vQ
    clear hh12 fA vQ vO Lf
    repeat (first|(refine ah rfl rfl fun J h=>?_;go_simp;refine h _ ?_;clear h J)|(refine au rfl rfl rfl rfl fun J h=>?_;go_simp;refine h _ ?_;clear h J;try go_simp))
    refine aD rfl rfl (fun r9 uV J hJ=>?_);go_simp
    have vS:Below fQ.heap.size fQ r9:=Bt mR aA
    replace QA:=zh (QA.out.later (show Below iR.heap.size iR r9 from aA))
    replace QB:=zh (QB.out.later (show Below iR.heap.size iR r9 from aA))
    clear uV mR
    refine (OP.out _ _ _ QA.out QB.out).mono ?_
    rintro e kW ⟨v,rfl,iZ,vP⟩
    obtain ⟨bC,Cw,lC,Cz,bCd,Vy,lCd,Xa,rfl,ru,Le⟩:=id vP
    refine hJ _ _ iZ ?_
    clear hJ J
    have oC:=Bt vS iZ
    replace QA:=zh (QA.out.later iZ)
    replace QB:=zh (QB.out.later iZ)
    have QC:=zh vP
    clear vS iZ vP ru Le
    repeat (first|(refine ah rfl rfl fun J h=>?_;go_simp;refine h _ ?_;clear h J)|(refine au rfl rfl rfl rfl fun J h=>?_;go_simp;refine h _ ?_;clear h J;try go_simp))
    refine aD rfl rfl (fun nY mU J hJ=>?_);go_simp
    have oO:Below fQ.heap.size fQ nY:=Bt oC aA
    replace QA:=zh (QA.out.later (show Below kW.heap.size kW nY from aA))
    replace QB:=zh (QB.out.later (show Below kW.heap.size kW nY from aA))
    replace QC:=zh (QC.out.later (show Below kW.heap.size kW nY from aA))
    clear mU oC
    refine (OU.out _ _ QC.out).mono ?_
    rintro e jZ ⟨rfl,iO⟩
    refine hJ _ _ iO ?_
    clear hJ J
    have pY:=Bt oO iO
    replace QA:=zh (QA.out.later iO)
    replace QB:=zh (QB.out.later iO)
    replace QC:=zh (QC.out.later iO)
    clear oO iO
    repeat (first|(refine ah rfl rfl fun J h=>?_;go_simp;refine h _ ?_;clear h J)|(refine au rfl rfl rfl rfl fun J h=>?_;go_simp;refine h _ ?_;clear h J;try go_simp))
    refine aJ [_,_] rfl (fun mI zG=>?_)
    replace QA:=zh (QA.out.later (show Below jZ.heap.size jZ mI from aA))
    replace QB:=zh (QB.out.later (show Below jZ.heap.size jZ mI from aA))
    replace QC:=zh (QC.out.later (show Below jZ.heap.size jZ mI from aA))
    have jg:Below fQ.heap.size fQ mI:=Bt pY aA
    clear zG pY
    clear dW dU fG dV dS gM
    replace X1:=X1.bl jg
    replace X2:=X2.bl jg
    replace X3:=X3.bl jg
    have IW:=Bt jW jg
    clear jW
    clear jg
    clear QA
    clear QB
    clear QC
    obtain ⟨mF,mD,pz⟩:=X3.dx
    have hres:=X3.out
    have gW:=hres.cell
    have gV:=hres.free
    go_wp2_with fail
    refine aP rfl rfl aL Tryz.underlying36 rfl zk ?_
    exact ⟨rfl,aA⟩
end Go.Proofs.aG
namespace Go.Proofs.adapt
open Go Go.Num Go.dB Go.Proofs.matrix
def Ht (k:Nat) (q:Rat):Prop:=∃ n d:Int,0<d∧d.natAbs≤gK k∧n.natAbs≤gK k∧q=(n:Rat) / (d:Rat)
theorem Dw (k:Nat):0<gK k:=Nat.pow_pos zo
theorem uh (a b:Nat):gK (a+b)=gK a*gK b:=Nat.pow_add _ _ _
theorem Ki {a b:Nat} (h:a≤b):gK a≤gK b:=Nat.pow_le_pow_right zo h
theorem Q6 {a b:Nat} (h:a<b):gK a<gK b:=Nat.pow_lt_pow_right zo h
theorem Ht.mono {a b:Nat} {q:Rat} (h:Ht a q) (k:a≤b):Ht b q:=by
 obtain ⟨n,d,h1,h2,h3,h4⟩:=h
 have:=Ki k
 exact ⟨n,d,h1,by omega,by omega,h4⟩
theorem Ht.ok {a:Nat} {q:Rat} (h:Ht a q) (k:a<600):dA q=true:=by
 obtain ⟨n,d,h1,h2,h3,rfl⟩:=h
 obtain ⟨l1,l2⟩:=aG.yx (n:=n) (d:=d) zo
 have:=Q6 k
 unfold dA JY
 generalize gK 600=X at *
 rw [Bool.and_eq_true]
 exact ⟨decide_eq_true zo,decide_eq_true zo⟩
theorem rG {d:Int} (h:0<d):(d:Rat)≠0:=fun e=>by
 have:d=0:=by exact_mod_cast e
 omega
theorem Ht.mul {a b:Nat} {p q:Rat} (h:Ht a p) (k:Ht b q):Ht (a+b) (p*q):=by
 obtain ⟨n,d,h1,h2,h3,rfl⟩:=h
 obtain ⟨n',d',k1,k2,k3,rfl⟩:=k
 refine ⟨n*n',d*d',Int.mul_pos h1 k1,?_,?_,?_⟩
 ·rw [uh,Int.natAbs_mul];exact Nat.mul_le_mul h2 k2
 ·rw [uh,Int.natAbs_mul];exact Nat.mul_le_mul h3 k3
 ·have e1:=rG h1
  have e2:=rG k1
  rw [Rat.intCast_mul,Rat.intCast_mul]
  grind
theorem Ht.add {a b:Nat} {p q:Rat} (h:Ht a p) (k:Ht b q):Ht (a+b+1) (p+q):=by
 obtain ⟨n,d,h1,h2,h3,rfl⟩:=h
 obtain ⟨n',d',k1,k2,k3,rfl⟩:=k
 have t:gK (a+b+1)=10*(gK a*gK b):=by rw [uh,uh];show _*10=_;omega
 refine ⟨n*d'+n'*d,d*d',Int.mul_pos h1 k1,?_,?_,?_⟩
 ·have:=Nat.mul_le_mul h2 k2
  rw [t,Int.natAbs_mul];omega
 ·have x1:=Nat.mul_le_mul h3 k2
  have x2:=Nat.mul_le_mul k3 h2
  rw [Nat.mul_comm (gK b)] at x2
  have x3:=Int.natAbs_add_le (n*d') (n'*d)
  rw [Int.natAbs_mul,Int.natAbs_mul] at x3
  rw [t];omega
 ·have e1:=rG h1
  have e2:=rG k1
  rw [Rat.intCast_add,Rat.intCast_mul,Rat.intCast_mul,Rat.intCast_mul]
  grind
theorem Ht.neg {a:Nat} {p:Rat} (h:Ht a p):Ht a (-p):=by
 obtain ⟨n,d,h1,h2,h3,rfl⟩:=h
 exact ⟨-n,d,h1,h2,by rw [Int.natAbs_neg];exact h3,by rw [Rat.intCast_neg];grind⟩
theorem Ht.sub {a b:Nat} {p q:Rat} (h:Ht a p) (k:Ht b q):Ht (a+b+1) (p - q):=by
 rw [Rat.sub_eq_add_neg]
 exact h.add k.neg
theorem Ht.zero:Ht 0 0:=⟨0,1,by omega,by decide,by decide,by decide+kernel⟩
theorem Ht.one:Ht 0 1:=⟨1,1,by omega,by decide,by decide,by decide+kernel⟩
theorem Ht.inv {a:Nat} {p:Rat} (h:Ht a p):Ht a (p⁻¹):=by
 obtain ⟨n,d,h1,h2,h3,rfl⟩:=h
 have e1:=rG h1
 rcases Int.lt_trichotomy n 0 with h|rfl|h
 ·have e2:((-n:Int):Rat)≠0:=rG zo
  rw [Rat.intCast_neg] at e2
  refine ⟨-d, -n,by omega,by omega,by omega,?_⟩
  rw [Rat.intCast_neg,Rat.intCast_neg]
  grind
 ·exact ⟨0,1,by omega,by have:=Dw a;omega,by have:=Dw a;omega,by simp [Rat.div_def]⟩
 ·have e2:=rG h
  exact ⟨d,n,h,h3,h2,by grind⟩
theorem Ht.div {a b:Nat} {p q:Rat} (h:Ht a p) (k:Ht b q):Ht (a+b) (p / q):=by
 rw [Rat.div_def]
 exact h.mul k.inv
def Me (f:Nat→Nat→Rat) (t:Nat→Rat) (i:Nat):Rat:=f i 0*t 0+f i 1*t 1+f i 2*t 2
theorem Fy (f:Nat→Nat→Rat) (t:Nat→Rat) (i:Nat) (hi:i<3):fC (mk3 f) t i=Me f t i:=by
 have:i=0∨i=1∨i=2:=by omega
 rcases this with rfl|rfl|rfl<;>exact ax4 _ _ _ _ _ _
theorem L9 {f g:Nat→Nat→Rat} {s t:Nat→Rat} {i:Nat} (h:∀ j,j<3→f i j=g i j) (k:∀ j,j<3→s j=t j):Me f s i=Me g t i:=by
 unfold Me
 rw [h 0 zo,h 1 zo,h 2 zo,k 0 zo,k 1 zo,k 2 zo]
def dg (g:Nat→Rat) (i j:Nat):Rat:=if j=i then g i else 0
def NW (m:Nat):Nat→Nat→Rat:=VT (bg m)
theorem Ub:∀ m,m<4→∀ i,i<3→∀ j,j<3→(NW m i j).num.natAbs≤100000000000000000000∧(NW m i j).den≤100000000000000000000:=by decide+kernel
theorem LU:∀ m,m<4→∀ i,i<3→∀ j,j<3→(kS m i j).num.natAbs≤1000000∧(kS m i j).den≤1000000:=by decide+kernel
theorem Ht.A8 {q:Rat} {k:Nat} (h1:q.num.natAbs≤gK k) (h2:q.den≤gK k):Ht k q :=
 ⟨q.num,q.den,by have:=q.den_pos;omega,by simpa using h2,h1,by have:=Rat.mkRat_self q;rw [Rat.mkRat_eq_div] at this;exact this.symm⟩
theorem Ym {m i j:Nat} (hm:m<4) (hi:i<3) (hj:j<3):Ht 20 (NW m i j):=by
 obtain ⟨h1,h2⟩:=Ub m hm i hi j hj
 exact .A8 (Nat.le_trans h1 zd) (Nat.le_trans h2 zd)
theorem Ac {m i j:Nat} (hm:m<4) (hi:i<3) (hj:j<3):Ht 6 (kS m i j):=by
 obtain ⟨h1,h2⟩:=LU m hm i hi j hj
 exact .A8 (Nat.le_trans h1 zd) (Nat.le_trans h2 zd)
def mG (m:Nat) (g:Nat→Rat):Nat→Nat→Rat:=Bb (Bb (NW m) (dg g)) (kS m)
theorem FU (f:Nat→Nat→Rat) (g:Nat→Rat) (i j:Nat) (hj:j<3):Bb f (dg g) i j=f i j*g j:=by
 have:j=0∨j=1∨j=2:=by omega
 rcases this with rfl|rfl|rfl<;>simp [Bb,dg,Rat.add_zero,Rat.zero_add]
theorem R7 (m:Nat) (g:Nat→Rat) (i j:Nat):mG m g i j=NW m i 0*g 0*kS m 0 j+NW m i 1*g 1*kS m 1 j+NW m i 2*g 2*kS m 2 j:=by
 unfold mG
 show Bb (NW m) (dg g) i 0*_+Bb (NW m) (dg g) i 1*_+Bb (NW m) (dg g) i 2*_=_
 rw [FU _ _ _ _ zo,FU _ _ _ _ zo,FU _ _ _ _ zo]
theorem R8 {m:Nat} {g g':Nat→Rat} (h:∀ i,i<3→g i=g' i) (i j:Nat):mG m g i j=mG m g' i j:=by
 rw [R7,R7,h 0 zo,h 1 zo,h 2 zo]
theorem ap0 {m:Nat} (hm:m<4) {g:Nat→Rat} {a:Nat} (hg:∀ i,i<3→Ht a (g i)) {i j:Nat} (hi:i<3) (hj:j<3):Ht (3*a+80) (mG m g i j):=by
 rw [R7]
 have k:∀ x,x<3→Ht (20+a+6) (NW m i x*g x*kS m x j):=fun x hx=>((Ym hm hi hx).mul (hg x hx)).mul (Ac hm hx hj)
 exact (((k 0 zo).add (k 1 zo)).add (k 2 zo)).mono zo
theorem Oc {f:Nat→Nat→Rat} (h:∀ i,i<3→∀ j,j<3→dA (f i j)=true):gX (mk3 f)=true:=by
 show ((dA (f 0 0)&&(dA (f 0 1)&&(dA (f 0 2)&&true)))&&((dA (f 1 0)&&(dA (f 1 1)&&(dA (f 1 2)&&true)))&&((dA (f 2 0)&&(dA (f 2 1)&&(dA (f 2 2)&&true)))&&true)))=true
 rw [h 0 zo 0 zo,h 0 zo 1 zo,h 0 zo 2 zo,h 1 zo 0 zo,h 1 zo 1 zo,h 1 zo 2 zo,h 2 zo 0 zo,h 2 zo 1 zo,h 2 zo 2 zo]
 rfl
def Wh (t:Nat→Rat):Prop:=∀ i,i<3→Ht 4 (t i)∧0<t i
theorem Wh.ok {t:Nat→Rat} (h:Wh t) (i:Nat) (hi:i<3):dA (t i)=true:=(h i hi).1.ok zo
theorem Wh.cmp {t:Nat→Rat} (h:Wh t) (i:Nat) (hi:i<3):iA (t i) 0=1:=by
 have:=(h i hi).2
 unfold iA
 rw [if_neg (by grind),if_pos this]
theorem Wh.zn {t:Nat→Rat} (h:Wh t):dP (bH t).list=0:=by
 unfold dP
 rw [if_pos]
 show ((rd (Fr.of (t 0))).isSome&&((rd (Fr.of (t 1))).isSome&&((rd (Fr.of (t 2))).isSome&&true)))=true
 rw [iX (h.ok 0 zo),iX (h.ok 1 zo),iX (h.ok 2 zo)]
 rfl
theorem Wh.iU {t:Nat→Rat} (h:Wh t):light.iU (bH t)=0:=by
 unfold light.iU
 rw [if_pos h.zn,if_pos]
 show (decide (0≤(fI (Fr.of (t 0))).1)&&(decide (0≤(fI (Fr.of (t 1))).1)&&(decide (0≤(fI (Fr.of (t 2))).1)&&true)))=true
 rw [mh (h.ok 0 zo),mh (h.ok 1 zo),mh (h.ok 2 zo),h.cmp 0 zo,h.cmp 1 zo,h.cmp 2 zo]
 rfl
theorem Wh.snd {t:Nat→Rat} (h:Wh t):light.jG (bH t)=0:=by
 unfold light.jG
 rw [if_pos h.iU,if_pos]
 show (decide ((fI (Fr.of (t 0))).1≠0)&&(decide ((fI (Fr.of (t 1))).1≠0)&&(decide ((fI (Fr.of (t 2))).1≠0)&&true)))=true
 rw [mh (h.ok 0 zo),mh (h.ok 1 zo),mh (h.ok 2 zo),h.cmp 0 zo,h.cmp 1 zo,h.cmp 2 zo]
 rfl
theorem Ij {q:Rat} (h:dA q=true):qF (Fr.of q)=q:=by unfold qF;rw [iX h];rfl
theorem Wh.q {t:Nat→Rat} (h:Wh t) (i:Nat) (hi:i<3):qT (bH t) i=t i:=by
 have:i=0∨i=1∨i=2:=by omega
 rcases this with rfl|rfl|rfl<;>exact Ij (h.ok _ hi)
def resp (m:Nat) (t:Nat→Rat) (i:Nat):Rat:=Me (kS m) t i
def gn (m:Nat) (d:Rat) (s t:Nat→Rat) (i:Nat):Rat:=jR d (resp m s i) (resp m t i)
theorem yQ {f g:Nat→Rat} (h:∀ i,i<3→f i=g i):fH f=fH g:=by
 unfold fH
 rw [h 0 zo,h 1 zo,h 2 zo]
theorem rH {f:Nat→Rat} (h:∀ i,i<3→dA (f i)=true):dL f=true:=by
 unfold dL
 rw [h 0 zo,h 1 zo,h 2 zo]
 rfl
theorem NI {p q:Rat} (h:q≤p):¬ iA p q<0:=by
 unfold iA
 rw [if_neg (by grind)]
 split<;>omega
theorem WU {p q:Rat} (h:p≤q):¬ 0<iA p q:=by
 unfold iA
 split
 ·omega
 ·rw [if_neg (by grind)]
  omega
theorem Zq {m:Nat} (hm:m<4) {g:Nat→Rat} {a:Nat} (ha:a≤170) (hg:∀ i,i<3→Ht a (g i)):∀ i,i<3→∀ j,j<3→dA (mG m g i j)=true :=
 fun i hi j hj=>(ap0 hm hg hi hj).ok zo
theorem Hf {f:Nat→Rat} (h:fH f=false):∀ i,i<3→f i≠0:=fun i hi=>by
 unfold fH at h
 simp only [Bool.or_eq_false_iff,decide_eq_false_iff_not] at h
 have:i=0∨i=1∨i=2:=by omega
 rcases this with rfl|rfl|rfl
 ·exact h.1.1
 ·exact h.1.2
 ·exact h.2
theorem OB {f:Nat→Rat} (h:fH f=true):∃ i,i<3∧f i=0:=by
 unfold fH at h
 simp only [Bool.or_eq_true,decide_eq_true_eq] at h
 rcases h with (h|h)|h
 ·exact ⟨0,by omega,h⟩
 ·exact ⟨1,by omega,h⟩
 ·exact ⟨2,by omega,h⟩
theorem Lh {x:Fr} {q:Rat} (h:rd x=some q) (hn:x.n.size≤20) (hd:x.d.size≤20):Ht 20 q:=by
 obtain ⟨e, -⟩:=jJ h
 have key:∀ z:Int,(⟨(Lib.itoa z).toArray⟩:ByteArray).size≤20→z.natAbs<gK 20:=fun z hz=>by
  have hz':(Lib.itoa z).length≤20:=hz
  refine (Dx zo).2 ?_
  unfold Lib.itoa at hz'
  split at hz'
  ·simp only [List.length_cons] at hz'
   omega
  ·rw [show z.natAbs=z.toNat by omega]
   exact hz'
 rw [e] at hn hd
 have h1:=key _ hn
 have h2:=key _ hd
 exact Ht.A8 zo zo
def Sd (t:Nat→Rat):Prop:=∃ a b c,a+b+c≤40∧Ht a (t 0)∧Ht b (t 1)∧Ht c (t 2)
theorem Sd.ok {t:Nat→Rat} (h:Sd t) (i:Nat) (hi:i<3):dA (t i)=true:=by
 obtain ⟨a,b,c,hl,h0,h1,h2⟩:=h
 rcases (by omega:i=0∨i=1∨i=2) with rfl|rfl|rfl
 ·exact h0.ok zo
 ·exact h1.ok zo
 ·exact h2.ok zo
theorem Sd.q {t:Nat→Rat} (h:Sd t) (i:Nat) (hi:i<3):qT (bH t) i=t i:=by
 have:i=0∨i=1∨i=2:=by omega
 rcases this with rfl|rfl|rfl<;>exact Ij (h.ok _ hi)
theorem Sd.rh {m:Nat} (hm:m<4) {t:Nat→Rat} (h:Sd t) {i:Nat} (hi:i<3):Ht 60 (resp m t i):=by
 obtain ⟨a,b,c,hl,h0,h1,h2⟩:=h
 have k0:=(Ac hm hi (j:=0) zo).mul h0
 have k1:=(Ac hm hi (j:=1) zo).mul h1
 have k2:=(Ac hm hi (j:=2) zo).mul h2
 exact ((k0.add k1).add k2).mono zo
theorem Sd.fZ {m:Nat} {t:Nat→Rat} (h:Sd t) (i:Nat) (hi:i<3):fZ ((m:Int)+1) (bH t) i=adapt.resp m t i:=by
 unfold adapt.fZ
 rw [show ((m:Int)+1 - 1).toNat=m by omega]
 refine (Fy (kS m) _ i hi).trans (L9 (fun _ _=>rfl) fun j hj=>h.q j hj)
theorem Sd.gh {m:Nat} (hm:m<4) {s t:Nat→Rat} (hs:Sd s) (ht:Sd t) {d:Rat} (hd:Ht 10 d) {i:Nat} (hi:i<3):Ht 142 (gn m d s t i) :=
 (hd.mul ((ht.rh hm hi).div (hs.rh hm hi))).add (Ht.one.sub hd)
theorem Sd.gok {m:Nat} (hm:m<4) {s t:Nat→Rat} (hs:Sd s) (ht:Sd t) {d:Rat} (hd:Ht 10 d) {i:Nat} (hi:i<3):gU d (resp m s i) (resp m t i)=true:=by
 have h1:=(ht.rh hm hi).div (hs.rh hm hi)
 have h2:=hd.mul h1
 have h3:=Ht.one.sub hd
 have h4:=h2.add h3
 unfold gU jR
 rw [h1.ok zo,h2.ok zo,h3.ok zo,h4.ok zo]
 rfl
theorem LJ {m:Nat} (hm:m<4) {s t:Nat→Rat} (hs:Sd s) (ht:Sd t) (as':light.jG (bH s)=0) (at':light.jG (bH t)=0) {d:Rat} (hd:Ht 10 d) (d0:0≤d) (d1:d≤1) :
  jh ((m:Int)+1) (bH s) (bH t) (Fr.of d)=if fH (resp m s) then 7 else 0:=by
 have hok:=hd.ok zo
 have ha:tJ ((m:Int)+1) (bH s) (bH t) (Fr.of d)=0:=by
  unfold tJ
  have hc:jL ((m:Int)+1)=0:=by unfold jL;rw [if_neg zo]
  have hk:zn (Fr.of d)=0:=tF (by rw [iX hok];rfl)
  rw [hc,as',at',hk,Ij hok]
  simp only [ne_eq,not_true_eq_false,if_false]
  rw [if_neg]
  intro h
  rcases h with h|h
  ·exact NI d0 h
  ·exact WU d1 h
 unfold jh
 rw [ha,if_neg zo,rH (f:=fZ ((m:Int)+1) (bH s)) (fun i hi=>by rw [hs.fZ i hi];exact (hs.rh hm hi).ok zo),
  rH (f:=fZ ((m:Int)+1) (bH t)) (fun i hi=>by rw [ht.fZ i hi];exact (ht.rh hm hi).ok zo),
  if_neg zd,if_neg zd,yQ hs.fZ,Ij hok,
  hs.fZ 0 zo,hs.fZ 1 zo,hs.fZ 2 zo,ht.fZ 0 zo,ht.fZ 1 zo,ht.fZ 2 zo,
  hs.gok hm ht hd (i:=0) zo,hs.gok hm ht hd (i:=1) zo,hs.gok hm ht hd (i:=2) zo]
 simp
theorem vT {m:Nat} {s t:Nat→Rat} (hs:Sd s) (ht:Sd t) {d:Rat} (hd:Ht 10 d) (i:Nat) (hi:i<3):iJ ((m:Int)+1) (bH s) (bH t) (Fr.of d) i=gn m d s t i:=by
 unfold iJ adapt.gn
 rw [Ij (hd.ok zo),hs.fZ i hi,ht.fZ i hi]
theorem VL {m:Nat} (hm:m<4) {s t:Nat→Rat} (hs:Sd s) (ht:Sd t) (as':light.jG (bH s)=0) (at':light.jG (bH t)=0) {d:Rat} (hd:Ht 10 d) (d0:0≤d) (d1:d≤1) :
  yu ((m:Int)+1) (bH s) (bH t) (Fr.of d)=(if fH (resp m s) then 7 else 0)∧gX (mo ((m:Int)+1) (bH s) (bH t) (Fr.of d))=true∧gX (pX ((m:Int)+1) (bH s) (bH t) (Fr.of d))=true:=by
 have hg:∀ i,i<3→iJ ((m:Int)+1) (bH s) (bH t) (Fr.of d) i=adapt.gn m d s t i:=vT hs ht hd
 have h1:mo ((m:Int)+1) (bH s) (bH t) (Fr.of d)=mk3 (Bb (NW m) (dg (iJ ((m:Int)+1) (bH s) (bH t) (Fr.of d)))):=by
  unfold mo
  rw [show ((m:Int)+1 - 1).toNat=m by omega]
  exact Nf (NW m) (dg (iJ ((m:Int)+1) (bH s) (bH t) (Fr.of d)))
 have h2:pX ((m:Int)+1) (bH s) (bH t) (Fr.of d)=mk3 (mG m (adapt.gn m d s t)):=by
  unfold pX
  rw [h1,show ((m:Int)+1 - 1).toNat=m by omega]
  refine (Nf (Bb (NW m) (dg (iJ ((m:Int)+1) (bH s) (bH t) (Fr.of d)))) (kS m)).trans (Po fun i hi j hj=>?_)
  exact R8 hg i j
 have a1:gX (mo ((m:Int)+1) (bH s) (bH t) (Fr.of d))=true:=by
  rw [h1]
  refine Oc fun i hi j hj=>?_
  rw [FU _ _ _ _ hj,hg j hj]
  exact ((Ym hm hi hj).mul (hs.gh hm ht hd hj)).ok zo
 have a2:gX (pX ((m:Int)+1) (bH s) (bH t) (Fr.of d))=true:=by
  rw [h2]
  exact Oc (Zq hm (a:=142) zo fun i hi=>hs.gh hm ht hd hi)
 refine ⟨?_,a1,a2⟩
 unfold yu
 rw [LJ hm hs ht as' at' hd d0 d1,a1,a2]
 by_cases hz:fH (resp m s)=true
 ·rw [if_pos hz];rfl
 ·rw [if_neg hz];rfl
end Go.Proofs.adapt
