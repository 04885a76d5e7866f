/- Lemmas for the proof. No condition. -/
import Derived.Test.YtneajphgfdlmhaaGreatDoorUB36
import Derived.Laws.StructEq
set_option linter.unusedVariables false
set_option linter.unusedSimpArgs false
set_option maxRecDepth 100000
set_option maxHeartbeats 16000000
open Bool renaming and_eq_true → aG
open Go.Ending renaming returned → ah
open Go.IntKind renaming i64 → I
open Go.Value renaming agg → au, bool → ak, int → Z, slice → aj, string → O, tuple → aD
open Nat renaming le_trans → ay
namespace Go.Proofs.aH
open Go Go.RowKit Go.SW Go.Num Go.Mem Go.Proofs Go.Dec Go.Proofs.aF Go.gB
theorem zx {s:ByteArray} {b:Bool} (h:(whole s.data.toList).isSome=b) (hs:s.size≤4611686018427387904) (W:World) :
  Calls Tryz.prog 205 #[O s] W (fun e w'=>e= ah (ak b)∧Below W.heap.size W w') :=
 (aF.EN s W hs).mono fun _ _ h'=>⟨h ▸ h'.1,h'.2 ▸ Below.refl _ _⟩
def Fits (a:Fr):Prop:=a.n.size≤4611686018427387904∧a.d.size≤4611686018427387904
theorem QS {s t:ByteArray} (h:whole s.data.toList=none):rd ⟨s,t⟩=none:=by unfold rd;simp only [h]
theorem QT {s t:ByteArray} (h:whole t.data.toList=none):rd ⟨s,t⟩=none:=by
 unfold rd;simp only [h];cases whole s.data.toList<;>rfl
theorem af8 {s t:ByteArray} {n d:Int} (h1:whole s.data.toList=some n) (h2:whole t.data.toList=some d):(rd ⟨s,t⟩).isSome=(decide (0<d)&&(Nat.gcd n.natAbs d.natAbs == 1)):=by
 unfold rd;simp only [h1,h2]
 by_cases h:0<d∧n.natAbs.Coprime d.natAbs
 ·rw [dif_pos h];rw [decide_eq_true h.1,show Nat.gcd n.natAbs d.natAbs=1 from h.2];rfl
 ·rw [dif_neg h];refine (Bool.eq_false_iff.2 fun e=>h ?_).symm;rw [aG,decide_eq_true_iff,beq_iff_eq] at e;exact e
theorem Ce {bs:List UInt8} {z:Int} (h:whole bs=some z):sz 10000 z.natAbs≤201:=by
 have h1:=kY (fZ.2 (nZ h).2);have:=Co h1;omega
theorem JR:(Lib.itoa ((1:Nat):Int)).toArray=#[49]:=by decide+kernel
theorem toList_inj {a b:ByteArray} (h:a.toList=b.toList):a=b:=by
 rw [ByteArray.toList_eq,ByteArray.toList_eq] at h;exact EF h
theorem YQ {g:Nat} (h:g≠1):((⟨(Lib.itoa (g:Int)).toArray⟩:ByteArray) == ⟨#[49]⟩)=false:=by
 rw [beq_toListBytes,beq_eq_false_iff_ne];intro e;have e:=toList_inj e;simp only [ByteArray.mk.injEq] at e;rw [← JR] at e;have:=yF (List.toArray_inj e);omega
theorem ai2:((⟨(Lib.itoa ((1:Nat):Int)).toArray⟩:ByteArray) == ⟨#[49]⟩)=true:=by rw [JR,beq_toListBytes];exact beq_self_eq_true _
theorem EN (s t:ByteArray) (w:World) (h1:s.size≤4611686018427387904) (h2:t.size≤4611686018427387904) :
  Calls Tryz.prog 132 #[au #[O s,O t]] w (fun e w'=>e= ah (ak (rd ⟨s,t⟩).isSome)∧Below w.heap.size w w'):=by
 cases e1:whole s.data.toList with
 | none =>
  rw [QS e1];have R1:=zh (fun W=>zx (b:=false) (by rw [e1];rfl) h1 W);clear e1 h1 h2;go_enter Tryz.func132,Tryz.ntmps132
  go_wp2_with fail
  refine (R1.out _).mono ?_;rintro e w1 ⟨rfl,hb⟩;go_wp2_with fail
  go_ret
  exact ⟨rfl,Bt aJ hb⟩
 | some n =>
  have R1:=zh (fun W=>zx (b:=true) (by rw [e1];rfl) h1 W);cases e2:whole t.data.toList with
  | none =>
   rw [QT e2];have R2:=zh (fun W=>zx (b:=false) (by rw [e2];rfl) h2 W);have h0:Below w.heap.size w (w.alloc (.cells #[O s,O t] 32)):=aJ;have hx:=aB.new w #[O s,O t] 32;clear e1 h1 h2 e2;go_enter Tryz.func132,Tryz.ntmps132
   go_wp2_with fail
   refine (R1.out _).mono ?_;rintro e w1 ⟨rfl,hb⟩;have cx:=(hx.later hb).cell;have lx:=(hx.later hb).lt;go_wp2_with fail
   refine (R2.out _).mono ?_;rintro e w2 ⟨rfl,hb2⟩;go_wp2_with fail
   go_ret
   exact ⟨rfl,Bt (Bt h0 hb) hb2⟩
  | some d =>
   have R2:=zh (fun W=>zx (b:=true) (by rw [e2];rfl) h2 W);rw [af8 e1 e2];have I1:=zh (fun W=>aF.GN s n W e1);have I2:=zh (fun W=>aF.GN t d W e2);have K1:=zh (ay (Ce e1) (show 201≤274877906944 by omega));have K2:=zh (ay (Ce e2) (show 201≤274877906944 by omega))
   have hg:0<d→sz 10000 ((Nat.gcd n.natAbs d.natAbs:Nat):Int).natAbs≤1073741824:=fun h=>by
    rw [Int.natAbs_natCast];have h3:=fB (B:=10000) zo (Nat.le_of_dvd (by omega:0<d.natAbs) (Nat.gcd_dvd_right n.natAbs d.natAbs));have h4:=Ce e2;omega
   have DV:=zh (fun x y W hx hy=>xU x y n d W hx hy K1.out K2.out);generalize Nat.gcd n.natAbs d.natAbs=g at *
   rcases Int.lt_trichotomy d 0 with hd|hd|hd
   ·have HD:=zh hd;rw [decide_eq_false (show ¬ 0<d by omega),Bool.false_and];clear e1 e2 h1 h2 hg hd;go_enter Tryz.func132,Tryz.ntmps132
    go_wp2_with fail
    obtain ⟨oC,EW,hz,X1⟩:=zD w #[O s,O t] 32;rw [EW];have hk2:=Bt (Below.refl _ _) hz;clear EW hz;refine (R1.out _).mono ?_;rintro e pG ⟨rfl,hb3⟩;replace X1:=X1.bl hb3;have hk5:=Bt hk2 hb3;clear hk2;clear hb3;obtain ⟨nK,nI,oq⟩:=X1.clf;go_wp2_with fail
    clear nK nI oq;refine (R2.out _).mono ?_;rintro e wM ⟨rfl,hb6⟩;replace X1:=X1.bl hb6;have LD:=Bt hk5 hb6;clear hk5;clear hb6;go_wp2_with fail
    obtain ⟨nK,nI,oq⟩:=X1.clf;refine aO [(.pure,0),(.read,1),(.pure,3),(.read,4),(.ext,2),(.ext,5),(.alloc #[ak false,aj none 0 0] 161,6),(.alloc #[ak false,aj none 0 0] 161,7),(.fin,8),(.fin,9)] zk zk zR zP ?_;refine zV ?_;refine aU rfl rfl (fun Fh uD J hJ=>?_);go_simp;have qg:Below wM.heap.size wM Fh:=aJ;clear uD;refine (I1.out _).mono ?_;rintro e mQ ⟨v,rfl,jW,rz⟩;obtain ⟨bA,mK,lA,mP,rfl⟩:=rz.agg;refine hJ _ _ jW ?_;clear hJ J;have qD:=Bt qg jW;clear qg jW rz;refine zV ?_;refine aU rfl rfl (fun Qr Ww J hJ=>?_);go_simp;have hh12:Below wM.heap.size wM Qr:=Bt qD aJ;clear Ww qD;refine (I2.out _).mono ?_;rintro e Qs ⟨v,rfl,Bn,hv⟩;obtain ⟨bB,pz,lB,pF,rfl⟩:=hv.agg;have hb1:bB=true:=hv.nm.2.trans (decide_eq_true HD.out);subst hb1;refine hJ _ _ Bn ?_;clear hJ J;have Dl:=Bt hh12 Bn
    clear hh12 Bn hv;refine zV ?_;refine eX rfl (fun uq av1 Kh lI yK Dv jV=>?_);go_simp;replace jV:aB _ _ _ _:=jV;have Dt:w.heap.size≤uq:=(by first|omega|exact ay (Below.size (B:=w.heap.size) aJ) lI);refine eX rfl (fun sG av0 AL lg yJ uY nR=>?_);go_simp;replace nR:aB _ _ _ _:=nR;have Dr:w.heap.size≤sG:=(by first|omega|exact ay (Below.size (B:=w.heap.size) aJ) lg);replace jV:=aB.later jV AL;have hne:uq≠sG:=fun h=>uY (by simp [h]);have hne2:sG≠uq:=fun h=>hne h.symm;refine dD [_,_] rfl (fun Fg Dm=>?_);have Dk:Below wM.heap.size wM Fg:=Bt Dl aJ;have hq0:=jV.later Dm;have WX:=hq0.cell;have WC:=hq0.free;have hq1:=nR.later Dm;have ZC:=hq1.cell;have Zn:=hq1.free;clear jV nR Dm Dl;clear nK nI oq
    go_wp2_with fail
    obtain ⟨GZ,EW⟩:∃ y,((((Fg.setCell ⟨uq,0,none⟩ (ak bA)).setCell ⟨uq,1,none⟩ (aj mK lA mP)).setCell ⟨sG,0,none⟩ (ak true)).setCell ⟨sG,1,none⟩ (aj pz lB pF))=y:=⟨_,rfl⟩;have hz:Below wM.heap.size wM GZ:=by rw [← EW];exact ((((Dk.setCell lI _).setCell lI _).setCell lg _).setCell lg _)
    have X3:Hid (aB GZ sG #[ak true,aj pz lB pF] 161):=zh (by rw [← EW];exact ((((hq1.setOther _ (by first|exact hne|exact hne2)).setOther _ (by first|exact hne|exact hne2)).set 0 _).set 1 _));rw [EW];clear EW hq0 WX WC hq1 ZC Zn Dk;replace X1:=X1.bl hz;have Sj:=Bt LD hz;clear LD;clear hz;clear Kh Dv uY Dt Dr AL;have Wq:=lI;have Wp:=lg;clear lI lg yK yJ;go_wp2_with fail
    go_ret
    exact ⟨rfl,Sj⟩
   ·have HD:=zh hd;rw [decide_eq_false (show ¬ 0<d by omega),Bool.false_and];clear e1 e2 h1 h2 hg hd;go_enter Tryz.func132,Tryz.ntmps132
    go_wp2_with fail
    obtain ⟨oC,EW,hz,X1⟩:=zD w #[O s,O t] 32;rw [EW];have hk2:=Bt (Below.refl _ _) hz;clear EW hz;refine (R1.out _).mono ?_;rintro e pG ⟨rfl,hb3⟩;replace X1:=X1.bl hb3;have hk5:=Bt hk2 hb3;clear hk2;clear hb3;obtain ⟨nK,nI,oq⟩:=X1.clf;go_wp2_with fail
    clear nK nI oq;refine (R2.out _).mono ?_;rintro e wM ⟨rfl,hb6⟩;replace X1:=X1.bl hb6;have LD:=Bt hk5 hb6;clear hk5;clear hb6;go_wp2_with fail
    obtain ⟨nK,nI,oq⟩:=X1.clf;refine aO [(.pure,0),(.read,1),(.pure,3),(.read,4),(.ext,2),(.ext,5),(.alloc #[ak false,aj none 0 0] 161,6),(.alloc #[ak false,aj none 0 0] 161,7),(.fin,8),(.fin,9)] zk zk zR zP ?_;refine zV ?_;refine aU rfl rfl (fun Fh uD J hJ=>?_);go_simp;have qg:Below wM.heap.size wM Fh:=aJ;clear uD;refine (I1.out _).mono ?_;rintro e mQ ⟨v,rfl,jW,rz⟩;obtain ⟨bA,mK,lA,mP,rfl⟩:=rz.agg;refine hJ _ _ jW ?_;clear hJ J;have qD:=Bt qg jW;clear qg jW rz;refine zV ?_;refine aU rfl rfl (fun Qr Ww J hJ=>?_);go_simp;have hh12:Below wM.heap.size wM Qr:=Bt qD aJ;clear Ww qD;refine (I2.out _).mono ?_;rintro e Qs ⟨v,rfl,Bn,hv⟩;obtain ⟨bB,pz,lB,pF,rfl⟩:=hv.agg;have hb1:bB=false:=hv.nm.2.trans (decide_eq_false (by have:=HD.out;omega));subst hb1;have hl0:lB=0:=hv.nm.1.ah8 (by have:=HD.out;omega)
    subst hl0;refine hJ _ _ Bn ?_;clear hJ J;have Dl:=Bt hh12 Bn;clear hh12 Bn hv;refine zV ?_;refine eX rfl (fun uq av1 Kh lI yK Dv jV=>?_);go_simp;replace jV:aB _ _ _ _:=jV;have Dt:w.heap.size≤uq:=(by first|omega|exact ay (Below.size (B:=w.heap.size) aJ) lI);refine eX rfl (fun sG av0 AL lg yJ uY nR=>?_);go_simp;replace nR:aB _ _ _ _:=nR;have Dr:w.heap.size≤sG:=(by first|omega|exact ay (Below.size (B:=w.heap.size) aJ) lg);replace jV:=aB.later jV AL;have hne:uq≠sG:=fun h=>uY (by simp [h]);have hne2:sG≠uq:=fun h=>hne h.symm;refine dD [_,_] rfl (fun Fg Dm=>?_);have Dk:Below wM.heap.size wM Fg:=Bt Dl aJ;have hq0:=jV.later Dm;have WX:=hq0.cell;have WC:=hq0.free
    have hq1:=nR.later Dm;have ZC:=hq1.cell;have Zn:=hq1.free;clear jV nR Dm Dl;clear nK nI oq;go_wp2_with fail
    obtain ⟨GZ,EW⟩:∃ y,((((Fg.setCell ⟨uq,0,none⟩ (ak bA)).setCell ⟨uq,1,none⟩ (aj mK lA mP)).setCell ⟨sG,0,none⟩ (ak false)).setCell ⟨sG,1,none⟩ (aj pz 0 pF))=y:=⟨_,rfl⟩;have hz:Below wM.heap.size wM GZ:=by rw [← EW];exact ((((Dk.setCell lI _).setCell lI _).setCell lg _).setCell lg _)
    have X3:Hid (aB GZ sG #[ak false,aj pz 0 pF] 161):=zh (by rw [← EW];exact ((((hq1.setOther _ (by first|exact hne|exact hne2)).setOther _ (by first|exact hne|exact hne2)).set 0 _).set 1 _));rw [EW];clear EW hq0 WX WC hq1 ZC Zn Dk;replace X1:=X1.bl hz;have Sj:=Bt LD hz;clear LD;clear hz;clear Kh Dv uY Dt Dr AL;have Wq:=lI;have Wp:=lg;clear lI lg yK yJ;go_wp2_with fail
    go_ret
    exact ⟨rfl,Sj⟩
   ·have HD:=zh hd;have HG:=zh (hg hd);have TX:=zh (fun x W hx=>Qf x (g:Int) W hx HG.out);obtain ⟨b,hb⟩:∃ b,(decide (0<d)&&(g == 1))=b:=⟨_,rfl⟩
    have hT:((⟨(Lib.itoa (g:Int)).toArray⟩:ByteArray) == ⟨#[49]⟩)=b:=by
     rw [← hb,decide_eq_true hd,Bool.true_and]
     by_cases h:g=1
     ·rw [h];exact ai2
     ·rw [YQ h];exact (beq_eq_false_iff_ne.2 h).symm
    rw [hb];rw [beq_toListBytes,ByteArray.toList_eq (⟨#[49]⟩:ByteArray)] at hT;replace hT:((⟨(Lib.itoa (g:Int)).toArray⟩:ByteArray).toList == [49])=b:=hT;generalize (⟨(Lib.itoa (g:Int)).toArray⟩:ByteArray)=T at *;clear e1 e2 h1 h2 hg hd hb;go_enter Tryz.func132,Tryz.ntmps132
    go_wp2_with fail
    obtain ⟨oC,EW,hz,X1⟩:=zD w #[O s,O t] 32;rw [EW];have hk2:=Bt (Below.refl _ _) hz;clear EW hz;refine (R1.out _).mono ?_;rintro e pG ⟨rfl,hb3⟩;replace X1:=X1.bl hb3;have hk5:=Bt hk2 hb3;clear hk2;clear hb3;obtain ⟨nK,nI,oq⟩:=X1.clf;go_wp2_with fail
    clear nK nI oq;refine (R2.out _).mono ?_;rintro e wM ⟨rfl,hb6⟩;replace X1:=X1.bl hb6;have LD:=Bt hk5 hb6;clear hk5;clear hb6;go_wp2_with fail
    obtain ⟨nK,nI,oq⟩:=X1.clf;refine aO [(.pure,0),(.read,1),(.pure,3),(.read,4),(.ext,2),(.ext,5),(.alloc #[ak false,aj none 0 0] 161,6),(.alloc #[ak false,aj none 0 0] 161,7),(.fin,8),(.fin,9)] zk zk zR zP ?_;refine zV ?_;refine aU rfl rfl (fun Fh uD J hJ=>?_);go_simp;have qg:Below wM.heap.size wM Fh:=aJ;clear uD;refine (I1.out _).mono ?_;rintro e mQ ⟨v,rfl,jW,rz⟩;obtain ⟨bA,mK,lA,mP,rfl⟩:=rz.agg;refine hJ _ _ jW ?_;clear hJ J;have qD:=Bt qg jW;have NA:=zh rz;clear qg jW rz;refine zV ?_;refine aU rfl rfl (fun Qr Ww J hJ=>?_);go_simp;have hh12:Below wM.heap.size wM Qr:=Bt qD aJ;replace NA:=zh (NA.out.later (show Below mQ.heap.size mQ Qr from aJ));clear Ww qD;refine (I2.out _).mono ?_;rintro e Qs ⟨v,rfl,Bn,hv⟩;obtain ⟨bB,pz,lB,pF,rfl⟩:=hv.agg
    have hb1:bB=false:=hv.nm.2.trans (decide_eq_false (by have:=HD.out;omega));subst hb1;have hl0:0<lB:=hv.nm.1.ah7 (by have:=HD.out;omega);refine hJ _ _ Bn ?_;clear hJ J;have Dl:=Bt hh12 Bn;replace NA:=zh (NA.out.later Bn);have NB:=zh hv;clear hh12 Bn hv;refine zV ?_;refine eX rfl (fun uq av1 Kh lI yK Dv jV=>?_);go_simp;replace jV:aB _ _ _ _:=jV;have Dt:w.heap.size≤uq:=(by first|omega|exact ay (Below.size (B:=w.heap.size) aJ) lI);refine eX rfl (fun sG av0 AL lg yJ uY nR=>?_);go_simp;replace nR:aB _ _ _ _:=nR;have Dr:w.heap.size≤sG:=(by first|omega|exact ay (Below.size (B:=w.heap.size) aJ) lg);replace jV:=aB.later jV AL;have hne:uq≠sG:=fun h=>uY (by simp [h]);have hne2:sG≠uq:=fun h=>hne h.symm
    refine dD [_,_] rfl (fun Fg Dm=>?_);replace NA:=zh (NA.out.later (show Below Qs.heap.size Qs Fg from aJ));replace NB:=zh (NB.out.later (show Below Qs.heap.size Qs Fg from aJ));have Dk:Below wM.heap.size wM Fg:=Bt Dl aJ;have hq0:=jV.later Dm;have WX:=hq0.cell;have WC:=hq0.free;have hq1:=nR.later Dm;have ZC:=hq1.cell;have Zn:=hq1.free;clear jV nR Dm Dl;clear nK nI oq;go_wp2_with fail
    obtain ⟨GZ,EW⟩:∃ y,((((Fg.setCell ⟨uq,0,none⟩ (ak bA)).setCell ⟨uq,1,none⟩ (aj mK lA mP)).setCell ⟨sG,0,none⟩ (ak false)).setCell ⟨sG,1,none⟩ (aj pz lB pF))=y:=⟨_,rfl⟩;have hz:Below wM.heap.size wM GZ:=by rw [← EW];exact ((((Dk.setCell lI _).setCell lI _).setCell lg _).setCell lg _)
    have X2:Hid (aB GZ uq #[ak bA,aj mK lA mP] 161):=zh (by rw [← EW];exact ((((hq0.set 0 _).set 1 _).setOther _ (by first|exact hne|exact hne2)).setOther _ (by first|exact hne|exact hne2)));have X3:Hid (aB GZ sG #[ak false,aj pz lB pF] 161):=zh (by rw [← EW];exact ((((hq1.setOther _ (by first|exact hne|exact hne2)).setOther _ (by first|exact hne|exact hne2)).set 0 _).set 1 _));have t:=((((NA.out.setOther hq0 zd 0 (ak bA)).setOther (hq0.set 0 _) zd 1 (aj mK lA mP)).setOther ((hq1.setOther _ (by first|exact hne|exact hne2)).setOther _ (by first|exact hne|exact hne2)) zd 0 (ak false)).setOther (((hq1.setOther _ (by first|exact hne|exact hne2)).setOther _ (by first|exact hne|exact hne2)).set 0 _) zd 1 (aj pz lB pF));rw [EW] at t;replace NA:=zh t;clear t
    have t:=((((NB.out.setOther hq0 zd 0 (ak bA)).setOther (hq0.set 0 _) zd 1 (aj mK lA mP)).setOther ((hq1.setOther _ (by first|exact hne|exact hne2)).setOther _ (by first|exact hne|exact hne2)) zd 0 (ak false)).setOther (((hq1.setOther _ (by first|exact hne|exact hne2)).setOther _ (by first|exact hne|exact hne2)).set 0 _) zd 1 (aj pz lB pF));rw [EW] at t;replace NB:=zh t;clear t;rw [EW];clear EW hq0 WX WC hq1 ZC Zn Dk;replace X1:=X1.bl hz;have Sj:=Bt LD hz;clear LD;clear hz;clear Kh Dv uY Dt Dr AL;have Wq:=lI;have Wp:=lg;clear lI lg yK yJ;go_wp2_with fail
    refine (DV.out _ _ _ NA.out NB.out).mono ?_;rintro e UL ⟨v,rfl,Dq,Ni⟩;obtain ⟨bC,paC,lC,caC,rfl⟩:=Ni.agg;clear X1;replace X2:=X2.bl Dq;replace X3:=X3.bl Dq;replace NA:=zh (NA.out.later Dq);replace NB:=zh (NB.out.later Dq);have ay1:=Bt Sj Dq;clear Sj;have NC:=zh Ni;clear Dq Ni;go_wp2_with fail
    refine (TX.out _ _ NC.out).mono ?_;rintro e aT2 ⟨rfl,Dp⟩;replace X2:=X2.bl Dp;replace X3:=X3.bl Dp;replace NA:=zh (NA.out.later Dp);replace NB:=zh (NB.out.later Dp);replace NC:=zh (NC.out.later Dp);have aJ1:=Bt ay1 Dp;clear ay1;clear Dp;go_wp2_with fail
    go_ret
    exact ⟨rfl,aJ1⟩
theorem jg {a:Fr} {b:Bool} (h:(rd a).isSome=b) (hf:Fits a) (W:World):Calls Tryz.prog 132 #[a.v] W (fun e w'=>e= ah (ak b)∧Below W.heap.size W w') :=
 h ▸ EN a.n a.d W hf.1 hf.2
theorem iT (a:Fr) (w:World) (hf:Fits a):Calls Tryz.prog 169 #[a.v] w (fun e w'=>e= ah (Z I (A8 a))∧Below w.heap.size w w'):=by
 unfold A8;cases h:(rd a).isSome with
 | true =>
  have R:=fun W=>jg h hf W;refine Fx.door Tryz.func169 rfl (.nil w []) ?_;refine Fx.new [] 1 #[O a.n,O a.d] 32 [] [] fun fT=>?_;refine Fx.bJ [3] 4 [] [] R ?_;exact Fx.rV [2] [] (fun W M=>⟨rfl,M.below⟩)
 | false =>
  have R:=fun W=>jg h hf W;refine Fx.door Tryz.func169 rfl (.nil w []) ?_;refine Fx.new [] 1 #[O a.n,O a.d] 32 [] [] fun fT=>?_;refine Fx.bJ [3] 4 [] [] R ?_;exact Fx.rV [1] [] (fun W M=>⟨rfl,M.below⟩)
theorem Vg {s t:ByteArray} {q:Rat} (h:rd ⟨s,t⟩=some q):whole s.data.toList=some q.num∧whole t.data.toList=some (q.den:Int):=by
 unfold rd at h;split at h
 ·rename_i n d e1 e2;split at h
  ·rename_i hk;simp only [Option.some.injEq] at h;subst h;refine ⟨e1,e2.trans ?_⟩
   congr 1
   have:=hk.1
   show d=((d.natAbs:Nat):Int)
   omega
  ·cases h
 ·cases h
theorem GN (s t:ByteArray) (q:Rat) (w:World) (h:rd ⟨s,t⟩=some q):Calls Tryz.prog 135 #[au #[O s,O t]] w (ow w q):=by
 obtain ⟨e1,e2⟩:=Vg h;have I1:=fun W=>(aF.GN s q.num W e1).mono fun _ _ q=>Rz q;have I2:=fun W=>(aF.GN t (q.den:Int) W e2).mono fun _ _ q=>Rz q;refine Fx.door Tryz.func135 rfl (.nil w []) ?_;have B0:=Fx.Fa.nil w;refine Fx.new [] 1 #[O s,O t] 32 [] [] fun fT=>?_;refine Fx.aV [] 2 163 [] [] fun fJ=>?_;refine Fx.draw [] [0,1,3,4,2,5,6,7] [] [] [] ?_;refine Fx.je [3,3] 5 [(7,O t)] [] (fun W M=>I1 _) ?_;rintro W w3 e M ⟨b1,p1,l1,c1,rfl,D3,Q1⟩;refine ⟨D3,fun M3=>?_⟩;have B3:=B0.next M3
 refine Fx.je [] 8 [] [] (fun W M=>I2 _) ?_;rintro W w4 e M ⟨b2,p2,l2,c2,rfl,D4,Q2⟩;refine ⟨D4,fun M4=>?_⟩;replace Q1:=Q1.keep (M3.keep M4);have B4:=B3.next M4
 exact Fx.iy (cs:=#[ak b1,aj p1 l1 c1,ak b2,aj p2 l2 c2]) 1 fJ [4] [(1,#[ak b1,aj p1 l1 c1,ak b2,aj p2 l2 c2])] (fun W M=>by have HB:=(B4.at M);exact ⟨_,rfl,HB,_,_,_,_,_,_,_,_,rfl,(Q1.keep (M4.keep M)),(Q2.keep (M4.keep M))⟩)
end Go.Proofs.aH
namespace Go.Proofs.aH
open Go Go.RowKit Go.SW Go.Num Go.Mem Go.Proofs Go.Dec Go.Proofs.aF Go.gB Go.Fx
theorem og {a:Fr} {q:Rat} (h:rd a=some q):jy 67 q:=mU (oK h).2
theorem jy.AQ {q:Rat} (h:jy 1000 q):sz 10000 q.num.natAbs≤1073741824∧sz 10000 q.den≤1073741824:=by
 have h1:=Co h.1;have h2:=Co h.2;exact ⟨by omega,by omega⟩
theorem Ho {k:Nat} {p q:Rat} (h:jy k p) (i:jy k q):jy (2*k+1) (p - q):=by
 rw [Rat.sub_eq_add_neg];exact vQ h (vP i)
theorem um {a:Fr} {q:Rat} (h:rd a=some q) (W:World):Calls Tryz.prog 135 #[a.v] W (ow W q):=GN a.n a.d q W h
theorem ae1:((0:Int):Rat) / ((1:Int):Rat)=0:=by decide+kernel
theorem nV (a:Fr) (w:World) (hf:Fits a):Calls Tryz.prog 180 #[a.v] w (fun e w'=>e= ah (aD #[Z I (iK a).1,Z I (iK a).2])∧Below w.heap.size w w'):=by
 unfold iK;cases h:rd a with
 | none =>
  have R:=fun W=>jg (b:=false) (by rw [h];rfl) hf W;refine Fx.door Tryz.func180 rfl (.nil w []) ?_;refine Fx.new [] 1 #[O a.n,O a.d] 32 [] [] fun fT=>?_;refine Fx.bJ [3] 5 [] [] R ?_;exact Fx.Vf [1] [] (fun W M=>⟨rfl,M.below⟩)
 | some q =>
  have R:=fun W=>jg (b:=true) (by rw [h];rfl) hf W;have bN:=fun W=>(um h W).mono fun _ _ q=>jT q;have dX:=fun W=>(vI 0 1 zo zo zo zo zo W).mono fun _ _ q=>jT q;rw [ae1] at dX;have hq:=(og h).mono (show 67≤10000000000 by omega);have Jj:=fun x y W hx hy=>lS x y q 0 W hx hy hq ⟨by decide+kernel,by decide+kernel⟩
  dsimp only
  generalize qL q 0=cc at *;refine Fx.door Tryz.func180 rfl (.nil w []) ?_;refine Fx.new [] 1 #[O a.n,O a.d] 32 [] [] fun fT=>?_;refine Fx.bJ [3] 5 [] [] R ?_;refine Fx.iR [2,3] 8 [] [] (fun W M=>bN _) ?_;rintro W wx2 e M ⟨n1,p1,l1,c1,m1,q1,j1,d1,rfl,B2,Q1⟩;refine ⟨B2,fun M2=>?_⟩;have M:=M2;have HZ2:=M.below;refine Fx.iR [] 9 [] [] (fun W M=>dX _) ?_;rintro W wx3 e M ⟨n2,p2,l2,c2,m2,q2,j2,d2,rfl,B3,Q2⟩;refine ⟨B3,fun M3=>?_⟩;have M:=M3;replace Q1:=Q1.later M.below;have HZ3:=(Bt HZ2 M.below);refine Fx.call [] 10 [] [] (fun W M=>Jj _ _ _ (Q1.later M.below) (Q2.later M.below)) ?_;exact Fx.Vf [] [] (fun W M=>⟨rfl,(Bt HZ3 M.below)⟩)
theorem Qp {b:Fr} {q:Rat} (h:rd b=some q):(b.n.toList == [48])=decide (q=0):=by
 have e:b.n=⟨(Lib.itoa q.num).toArray⟩:=by rw [(oK h).1];rfl
 have z0:Lib.itoa 0=[48]:=by decide+kernel
 rw [e,ByteArray.toList_mk]
 by_cases h0:q=0
 ·rw [decide_eq_true h0,h0];show (Lib.itoa 0 == [48])=true;rw [z0];rfl
 ·rw [decide_eq_false h0,beq_eq_false_iff_ne];intro e;rw [← z0] at e;exact h0 (Rat.num_eq_zero.1 (yF e))
theorem uj (a b:Fr) (w:World) (ha:Fits a) (hb:Fits b):Calls Tryz.prog 170 #[a.v,b.v] w (rO w (tY a b)):=by
 unfold rO;cases h:rd a with
 | none =>
  rw [show tY a b=(Fr.no,20) from pY h];have R:=fun W=>jg (b:=false) (by rw [h];rfl) ha W;refine Fx.door Tryz.func170 rfl (.nil w []) ?_;refine Fx.new [] 2 #[O a.n,O a.d] 32 [] [] fun fT=>?_;refine Fx.new [] 3 #[O b.n,O b.d] 32 [] [] fun fJ=>?_;refine Fx.aV [] 4 32 [] [] fun fF=>?_;refine Fx.bJ [3] 7 [] [] R ?_;exact Fx.dQ 2 fF [0,0,1,5] [(2,#[O ⟨#[]⟩,O ⟨#[]⟩])] (fun W M=>⟨rfl,M.below⟩)
 | some p =>
  have R:=fun W=>jg (b:=true) (by rw [h];rfl) ha W;cases k:rd b with
  | none =>
   rw [show tY a b=(Fr.no,20) from qW k];have R2:=fun W=>jg (b:=false) (by rw [k];rfl) hb W;refine Fx.door Tryz.func170 rfl (.nil w []) ?_;refine Fx.new [] 2 #[O a.n,O a.d] 32 [] [] fun fT=>?_;refine Fx.new [] 3 #[O b.n,O b.d] 32 [] [] fun fJ=>?_;refine Fx.aV [] 4 32 [] [] fun fF=>?_;refine Fx.bJ [3] 7 [] [] R ?_;refine Fx.bJ [4] 11 [(9,ak false)] [] R2 ?_;exact Fx.dQ 2 fF [1,5] [(2,#[O ⟨#[]⟩,O ⟨#[]⟩])] (fun W M=>⟨rfl,M.below⟩)
  | some q =>
   have R2:=fun W=>jg (b:=true) (by rw [k];rfl) hb W;rw [show tY a b=wr (p+q) from lM h k];have I1:=fun W=>(um h W).mono fun _ _ q=>jT q;have I2:=fun W=>(um k W).mono fun _ _ q=>jT q;have hp:=og h;have hq:=og k;have OP:=fun x y W hx hy=>(qX x y p q W hx hy (hp.mono zo) (hq.mono zo)).mono fun _ _ q=>jT q;have hs:jy 1000 (p+q):=(vQ hp hq).mono zo;obtain ⟨f1,f2⟩:=jy.AQ hs;have OU:=fun x W hx=>rM x (p+q) W hx f1 f2;generalize p+q=r at *;obtain ⟨⟨⟨s1,s2⟩,k1⟩,E⟩:∃ y,wr r=y:=⟨_,rfl⟩;rw [E] at OU ⊢;refine Fx.door Tryz.func170 rfl (.nil w []) ?_;refine Fx.new [] 2 #[O a.n,O a.d] 32 [] [] fun fT=>?_;refine Fx.new [] 3 #[O b.n,O b.d] 32 [] [] fun fJ=>?_;refine Fx.aV [] 4 32 [] [] fun fF=>?_;refine Fx.bJ [3] 7 [] [] R ?_;refine Fx.bJ [4] 11 [(9,ak false)] [] R2 ?_
   refine Fx.draw [2] [0,2,1,3,4,5,6,7,8,5009] [] [] [] ?_;refine Fx.iR [3,4] 16 [(17,au #[O b.n,O b.d])] [] (fun W M=>I1 _) ?_;rintro W wx4 e M ⟨n1,p1,l1,c1,m1,q1,j1,d1,rfl,B4,Q1⟩;refine ⟨B4,fun M4=>?_⟩;have M:=M4;have Ug:=M.below;refine Fx.iR [] 18 [] [] (fun W M=>I2 _) ?_;rintro W wx5 e M ⟨n2,p2,l2,c2,m2,q2,j2,d2,rfl,B5,Q2⟩;refine ⟨B5,fun M5=>?_⟩;have M:=M5;replace Q1:=Q1.later M.below;have Uf:=(Bt Ug M.below);refine Fx.iR [] 19 [] [] (fun W M=>OP _ _ _ (Q1.later M.below) (Q2.later M.below)) ?_;rintro W wx6 e M ⟨n3,p3,l3,c3,m3,q3,j3,d3,rfl,B6,Q3⟩;refine ⟨B6,fun M6=>?_⟩;have M:=M6;replace Q1:=Q1.later M.below;replace Q2:=Q2.later M.below;have HZ6:=(Bt Uf M.below);refine Fx.call [] 20 [] [] (fun W M=>OU _ _ (Q3.later M.below)) ?_;refine Fx.part 3 [] [(21,au #[O s1,O s2]),(22,Z I k1)] [] ?_;refine Fx.back M6 ?_;refine Fx.back M5 ?_
   refine Fx.back M4 ?_;exact Fx.dQ 2 fF [5] [(2,#[O s1,O s2])] (fun W M=>⟨rfl,M.below⟩)
--iff aH.Sub
theorem xP (a b:Fr) (w:World) (ha:Fits a) (hb:Fits b):Calls Tryz.prog 173 #[a.v,b.v] w (rO w (rT a b)):=by
 unfold rO;cases h:rd a with
 | none =>
  rw [show rT a b=(Fr.no,20) from pY h];have R:=fun W=>jg (b:=false) (by rw [h];rfl) ha W;refine Fx.door Tryz.func173 rfl (.nil w []) ?_;refine Fx.new [] 2 #[O a.n,O a.d] 32 [] [] fun fT=>?_;refine Fx.new [] 3 #[O b.n,O b.d] 32 [] [] fun fJ=>?_;refine Fx.aV [] 4 32 [] [] fun fF=>?_;refine Fx.bJ [3] 7 [] [] R ?_;exact Fx.dQ 2 fF [0,0,1,5] [(2,#[O ⟨#[]⟩,O ⟨#[]⟩])] (fun W M=>⟨rfl,M.below⟩)
 | some p =>
  have R:=fun W=>jg (b:=true) (by rw [h];rfl) ha W;cases k:rd b with
  | none =>
   rw [show rT a b=(Fr.no,20) from qW k];have R2:=fun W=>jg (b:=false) (by rw [k];rfl) hb W;refine Fx.door Tryz.func173 rfl (.nil w []) ?_;refine Fx.new [] 2 #[O a.n,O a.d] 32 [] [] fun fT=>?_;refine Fx.new [] 3 #[O b.n,O b.d] 32 [] [] fun fJ=>?_;refine Fx.aV [] 4 32 [] [] fun fF=>?_;refine Fx.bJ [3] 7 [] [] R ?_;refine Fx.bJ [4] 11 [(9,ak false)] [] R2 ?_;exact Fx.dQ 2 fF [1,5] [(2,#[O ⟨#[]⟩,O ⟨#[]⟩])] (fun W M=>⟨rfl,M.below⟩)
  | some q =>
   have R2:=fun W=>jg (b:=true) (by rw [k];rfl) hb W;rw [show rT a b=wr (p - q) from lM h k];have I1:=fun W=>(um h W).mono fun _ _ q=>jT q;have I2:=fun W=>(um k W).mono fun _ _ q=>jT q;have hp:=og h;have hq:=og k;have OP:=fun x y W hx hy=>(oV x y p q W hx hy (hp.mono zo) (hq.mono zo)).mono fun _ _ q=>jT q;have hs:jy 1000 (p - q):=(Ho hp hq).mono zo;obtain ⟨f1,f2⟩:=jy.AQ hs;have OU:=fun x W hx=>rM x (p - q) W hx f1 f2;generalize p - q=r at *;obtain ⟨⟨⟨s1,s2⟩,k1⟩,E⟩:∃ y,wr r=y:=⟨_,rfl⟩;rw [E] at OU ⊢;refine Fx.door Tryz.func173 rfl (.nil w []) ?_;refine Fx.new [] 2 #[O a.n,O a.d] 32 [] [] fun fT=>?_;refine Fx.new [] 3 #[O b.n,O b.d] 32 [] [] fun fJ=>?_;refine Fx.aV [] 4 32 [] [] fun fF=>?_;refine Fx.bJ [3] 7 [] [] R ?_;refine Fx.bJ [4] 11 [(9,ak false)] [] R2 ?_
   refine Fx.draw [2] [0,2,1,3,4,5,6,7,8,5009] [] [] [] ?_;refine Fx.iR [3,4] 16 [(17,au #[O b.n,O b.d])] [] (fun W M=>I1 _) ?_;rintro W wx4 e M ⟨n1,p1,l1,c1,m1,q1,j1,d1,rfl,B4,Q1⟩;refine ⟨B4,fun M4=>?_⟩;have M:=M4;have Ug:=M.below;refine Fx.iR [] 18 [] [] (fun W M=>I2 _) ?_;rintro W wx5 e M ⟨n2,p2,l2,c2,m2,q2,j2,d2,rfl,B5,Q2⟩;refine ⟨B5,fun M5=>?_⟩;have M:=M5;replace Q1:=Q1.later M.below;have Uf:=(Bt Ug M.below);refine Fx.iR [] 19 [] [] (fun W M=>OP _ _ _ (Q1.later M.below) (Q2.later M.below)) ?_;rintro W wx6 e M ⟨n3,p3,l3,c3,m3,q3,j3,d3,rfl,B6,Q3⟩;refine ⟨B6,fun M6=>?_⟩;have M:=M6;replace Q1:=Q1.later M.below;replace Q2:=Q2.later M.below;have HZ6:=(Bt Uf M.below);refine Fx.call [] 20 [] [] (fun W M=>OU _ _ (Q3.later M.below)) ?_;refine Fx.part 3 [] [(21,au #[O s1,O s2]),(22,Z I k1)] [] ?_;refine Fx.back M6 ?_;refine Fx.back M5 ?_
   refine Fx.back M4 ?_;exact Fx.dQ 2 fF [5] [(2,#[O s1,O s2])] (fun W M=>⟨rfl,M.below⟩)
--iff aH.Mul
theorem ug (a b:Fr) (w:World) (ha:Fits a) (hb:Fits b):Calls Tryz.prog 172 #[a.v,b.v] w (rO w (kM a b)):=by
 unfold rO;cases h:rd a with
 | none =>
  rw [show kM a b=(Fr.no,20) from pY h];have R:=fun W=>jg (b:=false) (by rw [h];rfl) ha W;refine Fx.door Tryz.func172 rfl (.nil w []) ?_;refine Fx.new [] 2 #[O a.n,O a.d] 32 [] [] fun fT=>?_;refine Fx.new [] 3 #[O b.n,O b.d] 32 [] [] fun fJ=>?_;refine Fx.aV [] 4 32 [] [] fun fF=>?_;refine Fx.bJ [3] 7 [] [] R ?_;exact Fx.dQ 2 fF [0,0,1,5] [(2,#[O ⟨#[]⟩,O ⟨#[]⟩])] (fun W M=>⟨rfl,M.below⟩)
 | some p =>
  have R:=fun W=>jg (b:=true) (by rw [h];rfl) ha W;cases k:rd b with
  | none =>
   rw [show kM a b=(Fr.no,20) from qW k];have R2:=fun W=>jg (b:=false) (by rw [k];rfl) hb W;refine Fx.door Tryz.func172 rfl (.nil w []) ?_;refine Fx.new [] 2 #[O a.n,O a.d] 32 [] [] fun fT=>?_;refine Fx.new [] 3 #[O b.n,O b.d] 32 [] [] fun fJ=>?_;refine Fx.aV [] 4 32 [] [] fun fF=>?_;refine Fx.bJ [3] 7 [] [] R ?_;refine Fx.bJ [4] 11 [(9,ak false)] [] R2 ?_;exact Fx.dQ 2 fF [1,5] [(2,#[O ⟨#[]⟩,O ⟨#[]⟩])] (fun W M=>⟨rfl,M.below⟩)
  | some q =>
   have R2:=fun W=>jg (b:=true) (by rw [k];rfl) hb W;rw [show kM a b=wr (p*q) from lM h k];have I1:=fun W=>(um h W).mono fun _ _ q=>jT q;have I2:=fun W=>(um k W).mono fun _ _ q=>jT q;have hp:=og h;have hq:=og k;have OP:=fun x y W hx hy=>(jr x y p q W hx hy (hp.mono zo) (hq.mono zo)).mono fun _ _ q=>jT q;have hs:jy 1000 (p*q):=(nO hp hq).mono zo;obtain ⟨f1,f2⟩:=jy.AQ hs;have OU:=fun x W hx=>rM x (p*q) W hx f1 f2;generalize p*q=r at *;obtain ⟨⟨⟨s1,s2⟩,k1⟩,E⟩:∃ y,wr r=y:=⟨_,rfl⟩;rw [E] at OU ⊢;refine Fx.door Tryz.func172 rfl (.nil w []) ?_;refine Fx.new [] 2 #[O a.n,O a.d] 32 [] [] fun fT=>?_;refine Fx.new [] 3 #[O b.n,O b.d] 32 [] [] fun fJ=>?_;refine Fx.aV [] 4 32 [] [] fun fF=>?_;refine Fx.bJ [3] 7 [] [] R ?_;refine Fx.bJ [4] 11 [(9,ak false)] [] R2 ?_
   refine Fx.draw [2] [0,2,1,3,4,5,6,7,8,5009] [] [] [] ?_;refine Fx.iR [3,4] 16 [(17,au #[O b.n,O b.d])] [] (fun W M=>I1 _) ?_;rintro W wx4 e M ⟨n1,p1,l1,c1,m1,q1,j1,d1,rfl,B4,Q1⟩;refine ⟨B4,fun M4=>?_⟩;have M:=M4;have Ug:=M.below;refine Fx.iR [] 18 [] [] (fun W M=>I2 _) ?_;rintro W wx5 e M ⟨n2,p2,l2,c2,m2,q2,j2,d2,rfl,B5,Q2⟩;refine ⟨B5,fun M5=>?_⟩;have M:=M5;replace Q1:=Q1.later M.below;have Uf:=(Bt Ug M.below);refine Fx.iR [] 19 [] [] (fun W M=>OP _ _ _ (Q1.later M.below) (Q2.later M.below)) ?_;rintro W wx6 e M ⟨n3,p3,l3,c3,m3,q3,j3,d3,rfl,B6,Q3⟩;refine ⟨B6,fun M6=>?_⟩;have M:=M6;replace Q1:=Q1.later M.below;replace Q2:=Q2.later M.below;have HZ6:=(Bt Uf M.below);refine Fx.call [] 20 [] [] (fun W M=>OU _ _ (Q3.later M.below)) ?_;refine Fx.part 3 [] [(21,au #[O s1,O s2]),(22,Z I k1)] [] ?_;refine Fx.back M6 ?_;refine Fx.back M5 ?_
   refine Fx.back M4 ?_;exact Fx.dQ 2 fF [5] [(2,#[O s1,O s2])] (fun W M=>⟨rfl,M.below⟩)
theorem xV (a b:Fr) (w:World) (ha:Fits a) (hb:Fits b):Calls Tryz.prog 55 #[a.v,b.v] w (rO w (oN a b)):=by
 unfold rO;cases h:rd a with
 | none =>
  rw [show oN a b=(Fr.no,20) from pY h];have R:=fun W=>jg (b:=false) (by rw [h];rfl) ha W;refine Fx.door Tryz.func55 rfl (.nil w []) ?_;refine Fx.new [] 2 #[O a.n,O a.d] 32 [] [] fun fT=>?_;refine Fx.new [] 3 #[O b.n,O b.d] 32 [] [] fun fJ=>?_;refine Fx.aV [] 4 32 [] [] fun fF=>?_;refine Fx.bJ [3] 7 [] [] R ?_;exact Fx.dQ 2 fF [0,0,1,5] [(2,#[O ⟨#[]⟩,O ⟨#[]⟩])] (fun W M=>⟨rfl,M.below⟩)
 | some p =>
  have R:=fun W=>jg (b:=true) (by rw [h];rfl) ha W;cases k:rd b with
  | none =>
   rw [show oN a b=(Fr.no,20) from qW k];have R2:=fun W=>jg (b:=false) (by rw [k];rfl) hb W;refine Fx.door Tryz.func55 rfl (.nil w []) ?_;refine Fx.new [] 2 #[O a.n,O a.d] 32 [] [] fun fT=>?_;refine Fx.new [] 3 #[O b.n,O b.d] 32 [] [] fun fJ=>?_;refine Fx.aV [] 4 32 [] [] fun fF=>?_;refine Fx.bJ [3] 7 [] [] R ?_;refine Fx.bJ [4] 11 [(9,ak false)] [] R2 ?_;exact Fx.dQ 2 fF [1,5] [(2,#[O ⟨#[]⟩,O ⟨#[]⟩])] (fun W M=>⟨rfl,M.below⟩)
  | some q =>
   have R2:=fun W=>jg (b:=true) (by rw [k];rfl) hb W;have hz:(b.n.toList == (⟨#[48]⟩:ByteArray).toList)=decide (q=0):=by rw [ByteArray.toList_eq (⟨#[48]⟩:ByteArray)];exact Qp k
   by_cases h0:q=0
   ·rw [show oN a b=(Fr.no,7) by rw [show oN a b=if q=0 then (Fr.no,7) else wr (p / q) from lM h k,if_pos h0]];rw [decide_eq_true h0] at hz;refine Fx.door Tryz.func55 rfl (.nil w []) ?_;refine Fx.new [] 2 #[O a.n,O a.d] 32 [] [] fun fT=>?_;refine Fx.new [] 3 #[O b.n,O b.d] 32 [] [] fun fJ=>?_;refine Fx.aV [] 4 32 [] [] fun fF=>?_;refine Fx.bJ [3] 7 [] [] R ?_;refine Fx.bJ [4] 11 [(9,ak false)] [] R2 ?_;refine Fx.part 13 [2,4] [(17,ak (b.n.toList == (⟨#[48]⟩:ByteArray).toList))] [] ?_;refine Fx.kF true (hz) ?_;exact Fx.dQ 2 fF [1,5] [(2,#[O ⟨#[]⟩,O ⟨#[]⟩])] (fun W M=>⟨rfl,M.below⟩)
   ·rw [show oN a b=wr (p / q) by rw [show oN a b=if q=0 then (Fr.no,7) else wr (p / q) from lM h k,if_neg h0]];rw [decide_eq_false h0] at hz;have I1:=fun W=>(um h W).mono fun _ _ q=>jT q;have I2:=fun W=>(um k W).mono fun _ _ q=>jT q;have hp:=og h;have hq:=og k;have OP:=fun x y W hx hy=>(Z4 x y p q W hx hy (hp.mono zo) (hq.mono zo) h0).mono fun _ _ q=>jT q;have hs:jy 1000 (p / q):=by rw [Rat.div_def];exact (nO hp (OQ hq h0)).mono zo
    obtain ⟨f1,f2⟩:=jy.AQ hs;have OU:=fun x W hx=>rM x (p / q) W hx f1 f2;generalize p / q=r at *;obtain ⟨⟨⟨s1,s2⟩,k1⟩,E⟩:∃ y,wr r=y:=⟨_,rfl⟩;rw [E] at OU ⊢;refine Fx.door Tryz.func55 rfl (.nil w []) ?_;refine Fx.new [] 2 #[O a.n,O a.d] 32 [] [] fun fT=>?_;refine Fx.new [] 3 #[O b.n,O b.d] 32 [] [] fun fJ=>?_;refine Fx.aV [] 4 32 [] [] fun fF=>?_;refine Fx.bJ [3] 7 [] [] R ?_;refine Fx.bJ [4] 11 [(9,ak false)] [] R2 ?_;refine Fx.part 13 [2,4] [(17,ak (b.n.toList == (⟨#[48]⟩:ByteArray).toList))] [] ?_;refine Fx.kF false (hz) ?_;refine Fx.draw [2] [0,2,1,3,4,5,6,7,8,5009] [] [] [] ?_;refine Fx.iR [3,4] 20 [(21,au #[O b.n,O b.d])] [] (fun W M=>I1 _) ?_;rintro W wx4 e M ⟨n1,p1,l1,c1,m1,q1,j1,d1,rfl,B4,Q1⟩;refine ⟨B4,fun M4=>?_⟩;have M:=M4;have Ug:=M.below;refine Fx.iR [] 22 [] [] (fun W M=>I2 _) ?_
    rintro W wx5 e M ⟨n2,p2,l2,c2,m2,q2,j2,d2,rfl,B5,Q2⟩;refine ⟨B5,fun M5=>?_⟩;have M:=M5;replace Q1:=Q1.later M.below;have Uf:=(Bt Ug M.below);refine Fx.iR [] 23 [] [] (fun W M=>OP _ _ _ (Q1.later M.below) (Q2.later M.below)) ?_;rintro W wx6 e M ⟨n3,p3,l3,c3,m3,q3,j3,d3,rfl,B6,Q3⟩;refine ⟨B6,fun M6=>?_⟩;have M:=M6;replace Q1:=Q1.later M.below;replace Q2:=Q2.later M.below;have HZ6:=(Bt Uf M.below);refine Fx.call [] 24 [] [] (fun W M=>OU _ _ (Q3.later M.below)) ?_;refine Fx.part 3 [] [(25,au #[O s1,O s2]),(26,Z I k1)] [] ?_;refine Fx.back M6 ?_;refine Fx.back M5 ?_;refine Fx.back M4 ?_;exact Fx.dQ 2 fF [5] [(2,#[O s1,O s2])] (fun W M=>⟨rfl,M.below⟩)
end Go.Proofs.aH
