/- Lemmas for the proof. No condition. -/
import Derived.Test.YtneajphgfdlmhaaGreatDoorUB29
import Derived.Test.YtneajphgfdlmhaaGreatDoorUB45
set_option linter.unusedVariables false
set_option linter.unusedSimpArgs false
set_option maxRecDepth 100000
set_option maxHeartbeats 16000000
open Bool renaming and_eq_true → aG
open Go.Ending renaming returned → ah
open Go.IntKind renaming i64 → I
open Go.Value renaming agg → au, bool → ak, int → Z, pointer → aA, slice → aj, string → O, tuple → aD
open List renaming all_cons → fO, mem_cons → dR, not_mem_nil → jP, take_of_length_le → dN
open Nat renaming lt_or_ge → aR, pow_le_pow_right → bH
namespace Go.Proofs.aS
open Go Go.RowKit Go.SW Go.Num Go.Mem Go.Proofs Go.Dec Go.gB Go.Proofs.aW Go.Proofs.aH Go.Proofs.aF Go.Proofs.kT Go.Fx
theorem aa0 (x y z t:Int) (w:World) (h:¬ (gM x y=true∧gM z t=true)):Calls Tryz.prog 185 #[au #[Z I x,Z I y],au #[Z I z,Z I t]] w (fun e w'=>e= ah (dZ ((0,0),30))∧Below w.heap.size w w'):=by
 have R1:=fun W=>iQ x y W;have R2:=fun W=>iQ z t W;cases h1:gM x y
 ·rw [h1] at R1;refine Fx.door Tryz.func185 rfl (.nil w []) ?_;refine Fx.new [] 2 #[Z I x,Z I y] 40 [] [] fun fT=>?_;refine Fx.new [] 3 #[Z I z,Z I t] 40 [] [] fun fJ=>?_;refine Fx.aV [] 4 40 [] [] fun fF=>?_;refine Fx.bJ [3] 12 [] [] R1 ?_;exact Fx.dQ 2 fF [0,0,1,5] [(2,#[Z I 0,Z I 0])] (fun W M=>⟨rfl,M.below⟩)
 ·have h2:gM z t=false:=by
   cases h2:gM z t
   ·rfl
   ·exact absurd ⟨h1,h2⟩ h
  rw [h1] at R1;rw [h2] at R2;refine Fx.door Tryz.func185 rfl (.nil w []) ?_;refine Fx.new [] 2 #[Z I x,Z I y] 40 [] [] fun fT=>?_;refine Fx.new [] 3 #[Z I z,Z I t] 40 [] [] fun fJ=>?_;refine Fx.aV [] 4 40 [] [] fun fF=>?_;refine Fx.bJ [3] 12 [] [] R1 ?_;refine Fx.bJ [4] 16 [(14,ak false)] [] R2 ?_;exact Fx.dQ 2 fF [1,5] [(2,#[Z I 0,Z I 0])] (fun W M=>⟨rfl,M.below⟩)
def prods (a b:Int × Int):List Rat:=[un a.1*un b.1,un a.1*un b.2,un a.2*un b.1,un a.2*un b.2]
def sel (a:Int × Int) (k:Nat):Int:=if k=0 then a.1 else a.2
theorem MH (a b:Int × Int) {k j:Nat} (hk:k<2) (hj:j<2):(prods a b).take (2*k+(j+1))=(prods a b).take (2*k+j)++[un (sel a k)*un (sel b j)]:=by
 have h1:k=0∨k=1:=by omega
 have h2:j=0∨j=1:=by omega
 rcases h1 with rfl|rfl<;>rcases h2 with rfl|rfl<;>rfl
theorem Va (a:Int × Int) {k:Nat} (hk:k<2) (W:World):(Instr.index 199 (au #[Z I a.1,Z I a.2]) (Z I (k:Int))).run Tryz.prog W= .ok (Z I (sel a k)) W:=by
 have h1:k=0∨k=1:=by omega
 rcases h1 with rfl|rfl
 ·show _=_;kernel_rfl
 ·show _=_;kernel_rfl
theorem XD (x y z t:Int) (w:World) (h1:gM x y=true) (h2:gM z t=true):Calls Tryz.prog 185 #[au #[Z I x,Z I y],au #[Z I z,Z I t]] w (fun e w'=>e= ah (dZ (Hz (x,y) (z,t)))∧Below w.heap.size w w'):=by
  obtain ⟨i0,hi,hz0,hz1,hz2⟩:=info_parts ai4;have R1:=zh (fun W=>h1 ▸ iQ x y W);have R2:=zh (fun W=>h2 ▸ iQ z t W);obtain ⟨b1,b2,b3⟩:=Ai h1;obtain ⟨b4,b5,b6⟩:=Ai h2;have bs:∀ k, -9223372036854775808≤sel (x,y) k∧sel (x,y) k≤9223372036854775807:=fun k=>by unfold sel;split<;>simp only<;>omega
  have cs:∀ k, -9223372036854775808≤sel (z,t) k∧sel (z,t) k≤9223372036854775807:=fun k=>by unfold sel;split<;>simp only<;>omega
  have V1:=zh (fun k W=>iX (sel (x,y) k) (bs k).1 (bs k).2 W);have V2:=zh (fun k W=>iX (sel (z,t) k) (cs k).1 (cs k).2 W);have s1:=fun k=>o8 (sel (x,y) k) (bs k).1 (bs k).2;have s2:=fun k=>o8 (sel (z,t) k) (cs k).1 (cs k).2;have T1:=zh (fun k j v v' W (h:Ra W v (un (sel (x,y) k))) (h':Ra W v' (un (sel (z,t) j)))=>(jr v v' _ _ W h h' ((s1 k).mono zo) ((s2 j).mono zo)).mono fun _ _ q=>jT q)
  have sp:∀ q∈prods (x,y) (z,t),jy 30 q:=fun q hq=>by
   unfold prods at hq;simp only [dR,jP,or_false] at hq
   rcases hq with rfl|rfl|rfl|rfl
   ·exact (nO (s1 0) (s2 0)).mono zo
   ·exact (nO (s1 0) (s2 1)).mono zo
   ·exact (nO (s1 1) (s2 0)).mono zo
   ·exact (nO (s1 1) (s2 1)).mono zo
  have BT:Hid (∀ v W,EO W v (prods (x,y) (z,t))→Calls Tryz.prog 217 #[v] W (fun e w'=>e= ah (dZ (Hz (x,y) (z,t)))∧Below W.heap.size W w')):=zh fun v W h=>by
   have:=ED v (un x*un z) [un x*un t,un y*un z,un y*un t] 4 W h rfl zo sp;rw [show jJ (un x*un z) [un x*un t,un y*un z,un y*un t]=jJ (un (x,y).1*un (z,t).1) [un (x,y).1*un (z,t).2,un (x,y).2*un (z,t).1,un (x,y).2*un (z,t).2] from rfl,show gW (un x*un z) [un x*un t,un y*un z,un y*un t]=gW (un (x,y).1*un (z,t).1) [un (x,y).1*un (z,t).2,un (x,y).2*un (z,t).1,un (x,y).2*un (z,t).2] from rfl,Qx] at this;exact this
  have I1:=zh (fun k (hk:k<2) W=>Va (x,y) hk W);have I2:=zh (fun k (hk:k<2) W=>Va (z,t) hk W);have PT:=zh (fun k j (hk:k<2) (hj:j<2)=>MH (x,y) (z,t) hk hj);have PL:Hid ((prods (x,y) (z,t)).length=4):=zh rfl;obtain ⟨e1,e2,ek,ex⟩:=sF (Hz (x,y) (z,t));rw [ex] at BT ⊢;unfold dZ at BT ⊢;generalize prods (x,y) (z,t)=P at *;clear h1 h2 b1 b2 b3 b4 b5 b6 bs cs s1 s2 sp ex;go_enter Tryz.func185,Tryz.ntmps185
  go_wp2_with fail
  obtain ⟨u0,EW,hz,HX,HY,HR⟩:=LK w #[Z I x,Z I y] 40 #[Z I z,Z I t] 40 #[Z I 0,Z I 0] 40;rw [EW];have HB:=zh hz;clear EW hz;refine (R1.out _).mono ?_;rintro e u1 ⟨rfl,h⟩;replace HX:=zh (HX.out.later h);replace HY:=zh (HY.out.later h);replace HR:=zh (HR.out.later h);replace HB:=zh (Bt HB.out h);clear h;have cHY:=HY.out.cell;have lHY:=HY.out.lt;go_wp2_with fail
  clear cHY lHY;refine (R2.out _).mono ?_;rintro e u2 ⟨rfl,h⟩;replace HX:=zh (HX.out.later h);replace HY:=zh (HY.out.later h);replace HR:=zh (HR.out.later h);replace HB:=zh (Bt HB.out h);clear h;have xL:=HX.out.cell;have xE:=HX.out.lt;go_wp2_with fail
  clear xL xE;clear HX
  go_loopw [6,25] (fun ov iv wr=>∃ k:Nat,iv= Z I (k:Int)∧k≤2∧Hid (nH wr u2.heap.size 163 4 Xx ov (P.take (2*k)))∧Below u2.heap.size u2 wr) (fun _ iv _=>2 - (intOf iv).toNat)
  case atStart=>exact ⟨0,rfl,by omega,zh (nH.nil _ _ _ _ _),Below.refl _ _⟩
  case round =>
   obtain ⟨k,rfl,hk,HG,hb⟩:=hrel
   rcases aR k 2 with hlt|hge
   ·obtain ⟨ov,cv,rfl⟩:=HG.out.at (n:=2*k) (by rw [List.length_take,PL.out];omega);have hix:∀ W,(Instr.index 199 (au #[Z I x,Z I y]) (Z I (k:Int))).run Tryz.prog W= .ok (Z I (sel (x,y) k)) W:=I1.out k hlt;have hkk:(k:Int)<2:=by omega
    have VK:=zh (V1.out k);obtain ⟨X,hX⟩:∃ X,sel (x,y) k=X:=⟨_,rfl⟩;have TK:=zh (T1.out k);have PK:=zh (fun j=>PT.out k j hlt);rw [hX] at hix VK TK;simp only [hX] at PK;have hby:=HY.out.later hb;have cy:=hby.cell;have ly:=hby.lt;have HBo:=zh hb;clear hX hb;go_wp2_with fail
    clear cy ly hby hix hkk
    go_loopw [6,33] (fun ov iv wr=>∃ j:Nat,iv= Z I (j:Int)∧j≤2∧Hid (nH wr u2.heap.size 163 4 Xx ov (P.take (2*k+j)))∧Below u2.heap.size u2 wr) (fun _ iv _=>2 - (intOf iv).toNat)
    case atStart=>exact ⟨0,rfl,by omega,HG,HBo.out⟩
    case round =>
     obtain ⟨j,rfl,hj,HG2,hbi⟩:=hrel
     rcases aR j 2 with hjlt|aX9
     ·obtain ⟨ov2,cv2,rfl⟩:=HG2.out.at (n:=2*k+j) (by rw [List.length_take,PL.out];omega);have hix:∀ W,(Instr.index 199 (au #[Z I z,Z I t]) (Z I (j:Int))).run Tryz.prog W= .ok (Z I (sel (z,t) j)) W:=I2.out j hjlt;have hjj:(j:Int)<2:=by omega
      have VJ:=zh (V2.out j);have TJ:=zh (TK.out j);have PJ:=zh (PK.out j hjlt);obtain ⟨Y,hY⟩:∃ Y,sel (z,t) j=Y:=⟨_,rfl⟩;rw [hY] at hix VJ TJ PJ;have HB:=zh hbi;clear hbi hY;go_wp2_with fail
      clear hix hjj;have Qm:=zh (Below.refl wr.heap.size wr);refine (VK.out _).mono ?_;rintro e u11 ⟨v1,rfl,h,hm⟩;replace HB:=zh (Bt HB.out h);replace Qm:=zh (Bt Qm.out h);clear h;have F1:=zh hm;clear hm;go_wp2_with fail
      refine (VJ.out _).mono ?_;rintro e u12 ⟨v2,rfl,h,hm⟩;replace F1:=zh (F1.out.later h);replace HB:=zh (Bt HB.out h);replace Qm:=zh (Bt Qm.out h);clear h;have F2:=zh hm;clear hm;go_wp2_with fail
      refine (TJ.out _ _ _ F1.out F2.out).mono ?_;rintro e u13 ⟨bn,pn,ln,cn,bd,pd,ld,cd,rfl,h,hm⟩;replace F1:=zh (F1.out.later h);replace F2:=zh (F2.out.later h);replace HB:=zh (Bt HB.out h);replace Qm:=zh (Bt Qm.out h);clear h;have HA:=zh hm;clear hm;have HG3:=zh (HG2.out.later (show Below wr.heap.size wr u13 from by have:=Qm.out;exact this) (Xx.stay zi));clear HG2 F1 F2 Qm;go_wp2_with (at_builtin;refine Jo (w0:=u2) rfl (.tmp 36) (.tmp 42) 226 rfl 163 i0 (au #[ak false,aj none 0 0,ak false,aj none 0 0]) 4 64 Tryz.underlying226 hi hz0 hz1 hz2 rfl zd Xx _ (P.take (2*k+j)) rfl (HG3.out.later aJ (Xx.stay zi)) (Bt HB.out aJ) _ [ak bn,aj pn ln cn,ak bd,aj pd ld cd] (un X*un Y) rfl (aB.new _ _ _) rfl ?c1 ⟨_,_,_,_,_,_,_,_,rfl,HA.out.later aJ⟩ (Xx.stay zi) ?c2 zo ?_)
      case c1=>intro u hu;simp only [dR,jP,or_false] at hu;rcases hu with rfl|rfl|rfl|rfl<;>rfl
      case c2=>rw [List.length_take,PL.out];omega
      intro v' w2 hg hb2 _;have HG4:Hid (nH w2 u2.heap.size 163 4 Xx v' (P.take (2*k+(j+1)))):=zh (by rw [PJ.out];exact hg);clear hg HG3 HB HA;go_wp2_with fail
      go_roundw
      case rel=>exact ⟨j+1,by go_num,by omega,HG4,hb2⟩
      case measure=>exact zM
     ·obtain rfl:j=2:=by omega
      go_wp2_with fail
      go_roundw
      case rel=>exact ⟨k+1,by go_num,by omega,HG2,hbi⟩
      case measure=>exact zM
   ·obtain rfl:k=2:=by omega
    have e:P.take (2*2)=P:=dN (by rw [PL.out];omega);rw [e] at HG;have HV:Hid (EO wr _ _):=zh HG.out.slV;obtain ⟨ov,cv,rfl⟩:=HG.out.at (n:=4) PL.out;replace HB:=zh (Bt HB.out hb);replace HR:=zh (HR.out.later hb);clear HG hb HY;go_wp2_with fail
    refine (BT.out _ _ HV.out).mono ?_;rintro e wz ⟨rfl,h⟩;have hr:=HR.out.later h;have cr:=hr.cell;have fr:=hr.free;have hb:=Bt HB.out h;clear h;go_wp2_with fail

    refine bK rfl rfl ((hr.set 0 _).set 1 _) Tryz.underlying40 rfl zk ?_;exact ⟨rfl,(hb.setCell (p:=⟨w.heap.size+1+1,0,none⟩) (by show w.heap.size≤w.heap.size+1+1;omega) _).setCell (p:=⟨w.heap.size+1+1,1,none⟩) (by show w.heap.size≤w.heap.size+1+1;omega) _⟩
theorem ug (a b:Int × Int) (w:World):Calls Tryz.prog 185 #[au #[Z I a.1,Z I a.2],au #[Z I b.1,Z I b.2]] w (fun e w'=>e= ah (dZ (aW.uR a b))∧Below w.heap.size w w'):=by
 unfold aW.uR okB;simp only [fO,List.all_nil,Bool.and_true]
 by_cases h:gM a.1 a.2=true∧gM b.1 b.2=true
 ·rw [if_pos (by simp [h.1,h.2])];exact XD _ _ _ _ w h.1 h.2
 ·rw [if_neg (by simpa using h)];exact aa0 _ _ _ _ w h
end Go.Proofs.aS
namespace Go.Proofs.aQ
open Go Go.RowKit Go.SW Go.Num Go.Mem Go.Proofs Go.gB Go.Fx
def got (E:Int) (r:(Int × Int) × Int):(Int × Int) × Int:=if E=0 then (if r.2=0 then (r.1,0) else ((0,0),r.2)) else ((0,0),E)
theorem aP0 (x y:Int) (b:Nat) (w:World) (X:aB w b #[Z I 0] 100) :
  Calls Tryz.prog 56 #[aA (some ⟨b,0,none⟩),au #[Z I x,Z I y],Z I 0] w (fun e w'=>e= ah (au #[Z I x,Z I y])∧nW [b] w w'∧aB w' b #[Z I 0] 100):=by
 refine Fx.door Tryz.func56 rfl (.one X) ?_;refine Fx.new [] 4 #[Z I x,Z I y] 40 [] [] fun fT=>?_;refine Fx.aV [] 6 40 [] [] fun fJ=>?_;exact Fx.iy 2 fJ [3,1,3,3,2,4,5] [(0,#[Z I 0]),(2,#[Z I x,Z I y])] (fun W M=>⟨rfl,M.vH,M.box (b:=b) 0⟩)
theorem aO9 (x y k:Int) (hk:k≠0) (b:Nat) (w:World) (X:aB w b #[Z I 0] 100) :
  Calls Tryz.prog 56 #[aA (some ⟨b,0,none⟩),au #[Z I x,Z I y],Z I k] w (fun e w'=>e= ah (au #[Z I 0,Z I 0])∧nW [b] w w'∧aB w' b #[Z I k] 100):=by
 refine Fx.door Tryz.func56 rfl (.one X) ?_;refine Fx.new [] 4 #[Z I x,Z I y] 40 [] [] fun fT=>?_;refine Fx.aV [] 6 40 [] [] fun fJ=>?_;refine Fx.part 29 [3,1,3,3] [(20,ak (!(k == 0)))] [(0,#[Z I k])] ?_;refine Fx.kF true (by simp [hk]) ?_;exact Fx.iy 2 fJ [1,5] [(2,#[Z I 0,Z I 0])] (fun W M=>⟨rfl,M.vH,M.box (b:=b) 0⟩)
theorem aO8 (x y k E:Int) (hk:E≠0) (b:Nat) (w:World) (X:aB w b #[Z I E] 100) :
  Calls Tryz.prog 56 #[aA (some ⟨b,0,none⟩),au #[Z I x,Z I y],Z I k] w (fun e w'=>e= ah (au #[Z I 0,Z I 0])∧nW [b] w w'∧aB w' b #[Z I E] 100):=by
 refine Fx.door Tryz.func56 rfl (.one X) ?_;refine Fx.new [] 4 #[Z I x,Z I y] 40 [] [] fun fT=>?_;refine Fx.aV [] 6 40 [] [] fun fJ=>?_;refine Fx.part 10 [3] [(11,ak (E == 0))] [] ?_;refine Fx.kF false (by simp [hk]) ?_;refine Fx.part 13 [2,3] [(20,ak (!(E == 0)))] [] ?_;refine Fx.kF true (by simp [hk]) ?_;exact Fx.iy 2 fJ [1,5] [(2,#[Z I 0,Z I 0])] (fun W M=>⟨rfl,M.vH,M.box (b:=b) 0⟩)
theorem E5 {x y k E u v F:Int} (h:got E ((x,y),k)=((u,v),F)) {b:Nat} {w:World} (X:aB w b #[Z I E] 100) :
  Calls Tryz.prog 56 #[aA (some ⟨b,0,none⟩),au #[Z I x,Z I y],Z I k] w (fun e w'=>e= ah (au #[Z I u,Z I v])∧nW [b] w w'∧aB w' b #[Z I F] 100):=by
 unfold got at h;split at h
 ·rename_i h0;subst h0;split at h
  ·rename_i h1;cases h
   have h1':k=0:=h1;subst h1';exact aP0 x y b w X
  ·rename_i h1;cases h
   exact aO9 x y k h1 b w X
 ·rename_i h0;cases h
  exact aO8 x y k E h0 b w X
theorem Lx {E p q r s u v F:Int} (h:got E (aW.kH (p,q) (r,s))=((u,v),F)) {b:Nat} {w:World} (X:aB w b #[Z I E] 100) :
  Calls Tryz.prog 111 #[aA (some ⟨b,0,none⟩),au #[Z I p,Z I q],au #[Z I r,Z I s]] w (fun e w'=>e= ah (au #[Z I u,Z I v])∧nW [b] w w'∧aB w' b #[Z I F] 100):=by
 obtain ⟨⟨⟨x,y⟩,k⟩,hr⟩:∃ z,aW.kH (p,q) (r,s)=z:=⟨_,rfl⟩;have C:=fun W=>aS.uj (p,q) (r,s) W;rw [hr] at C h;refine Fx.door Tryz.func111 rfl (.one X) ?_;refine Fx.new [] 4 #[Z I p,Z I q] 40 [] [] fun fT=>?_;refine Fx.new [] 5 #[Z I r,Z I s] 40 [] [] fun fJ=>?_;refine Fx.aV [] 6 40 [] [] fun fF=>?_;refine Fx.bJ [4,5] 12 [] [] C ?_;refine Fx.aV [] 7 40 [(13,au #[Z I x,Z I y]),(14,Z I k)] [] fun uF=>?_;refine Fx.gK [7,7] 18 0 [] [(4,#[Z I x,Z I y])] (fun W M=>E5 h (M.box (b:=b) 0)) ?_;exact Fx.iy 3 fF [6] [(3,#[Z I u,Z I v])] (fun W M=>⟨rfl,M.vH,M.box (b:=b) 0⟩)
theorem Qh {E p q r s u v F:Int} (h:got E (aW.wH (p,q) (r,s))=((u,v),F)) {b:Nat} {w:World} (X:aB w b #[Z I E] 100) :
  Calls Tryz.prog 58 #[aA (some ⟨b,0,none⟩),au #[Z I p,Z I q],au #[Z I r,Z I s]] w (fun e w'=>e= ah (au #[Z I u,Z I v])∧nW [b] w w'∧aB w' b #[Z I F] 100):=by
 obtain ⟨⟨⟨x,y⟩,k⟩,hr⟩:∃ z,aW.wH (p,q) (r,s)=z:=⟨_,rfl⟩;have C:=fun W=>aS.xP (p,q) (r,s) W;rw [hr] at C h;refine Fx.door Tryz.func58 rfl (.one X) ?_;refine Fx.new [] 4 #[Z I p,Z I q] 40 [] [] fun fT=>?_;refine Fx.new [] 5 #[Z I r,Z I s] 40 [] [] fun fJ=>?_;refine Fx.aV [] 6 40 [] [] fun fF=>?_;refine Fx.bJ [4,5] 12 [] [] C ?_;refine Fx.aV [] 7 40 [(13,au #[Z I x,Z I y]),(14,Z I k)] [] fun uF=>?_;refine Fx.gK [7,7] 18 0 [] [(4,#[Z I x,Z I y])] (fun W M=>E5 h (M.box (b:=b) 0)) ?_;exact Fx.iy 3 fF [6] [(3,#[Z I u,Z I v])] (fun W M=>⟨rfl,M.vH,M.box (b:=b) 0⟩)
theorem wT {E p q r s u v F:Int} (h:got E (aW.uR (p,q) (r,s))=((u,v),F)) {b:Nat} {w:World} (X:aB w b #[Z I E] 100) :
  Calls Tryz.prog 112 #[aA (some ⟨b,0,none⟩),au #[Z I p,Z I q],au #[Z I r,Z I s]] w (fun e w'=>e= ah (au #[Z I u,Z I v])∧nW [b] w w'∧aB w' b #[Z I F] 100):=by
 obtain ⟨⟨⟨x,y⟩,k⟩,hr⟩:∃ z,aW.uR (p,q) (r,s)=z:=⟨_,rfl⟩;have C:=fun W=>aS.ug (p,q) (r,s) W;rw [hr] at C h;refine Fx.door Tryz.func112 rfl (.one X) ?_;refine Fx.new [] 4 #[Z I p,Z I q] 40 [] [] fun fT=>?_;refine Fx.new [] 5 #[Z I r,Z I s] 40 [] [] fun fJ=>?_;refine Fx.aV [] 6 40 [] [] fun fF=>?_;refine Fx.bJ [4,5] 12 [] [] C ?_;refine Fx.aV [] 7 40 [(13,au #[Z I x,Z I y]),(14,Z I k)] [] fun uF=>?_;refine Fx.gK [7,7] 18 0 [] [(4,#[Z I x,Z I y])] (fun W M=>E5 h (M.box (b:=b) 0)) ?_;exact Fx.iy 3 fF [6] [(3,#[Z I u,Z I v])] (fun W M=>⟨rfl,M.vH,M.box (b:=b) 0⟩)
theorem oW {E u v F:Int} {s t:ByteArray} (h:got E (aW.eF ⟨s,t⟩)=((u,v),F)) (hf:aH.Fits ⟨s,t⟩) {b:Nat} {w:World} (X:aB w b #[Z I E] 100) :
  Calls Tryz.prog 67 #[aA (some ⟨b,0,none⟩),au #[O s,O t]] w (fun e w'=>e= ah (au #[Z I u,Z I v])∧nW [b] w w'∧aB w' b #[Z I F] 100):=by
 obtain ⟨⟨⟨x,y⟩,k⟩,hr⟩:∃ z,aW.eF ⟨s,t⟩=z:=⟨_,rfl⟩;have C:=fun W=>aS.Ap ⟨s,t⟩ W hf;rw [hr] at C h;refine Fx.door Tryz.func67 rfl (.one X) ?_;refine Fx.new [] 3 #[O s,O t] 32 [] [] fun fT=>?_;refine Fx.aV [] 4 40 [] [] fun fJ=>?_;refine Fx.bJ [4] 9 [] [] C ?_;refine Fx.aV [] 5 40 [(10,au #[Z I x,Z I y]),(11,Z I k)] [] fun fF=>?_;refine Fx.gK [6,6] 15 0 [] [(3,#[Z I x,Z I y])] (fun W M=>E5 h (M.box (b:=b) 0)) ?_;exact Fx.iy 2 fJ [5] [(2,#[Z I u,Z I v])] (fun W M=>⟨rfl,M.vH,M.box (b:=b) 0⟩)
end Go.Proofs.aQ
namespace Go.Proofs.aP
open Go Go.RowKit Go.SW Go.Num Go.Mem Go.Proofs Go.Dec Go.gB
theorem mE (n d:Int) (h1: -9223372036854775808≤n) (h2:n≤9223372036854775807) (h3: -9223372036854775808≤d) (h4:d≤9223372036854775807) (w:World) :
  Calls Tryz.prog 40 #[Z I n,Z I d] w (fun e w'=>e= ah (nk n d).1.v∧Below w.heap.size w w'):=by
 have H1:=fun W=>aH.mE n d h1 h2 h3 h4 W;obtain ⟨⟨⟨s1,s2⟩,k⟩,E⟩:∃ y,nk n d=y:=⟨_,rfl⟩;rw [E] at H1 ⊢;refine Fx.door Tryz.func40 rfl (.nil w []) ?_;refine Fx.aV [] 4 32 [] [] fun fT=>?_;refine Fx.bJ [] 10 [] [] H1 ?_;refine Fx.aV [] 5 32 [(11,au #[O s1,O s2]),(12,Z I k)] [] fun fJ=>?_;exact Fx.iy 0 fT [4,4,3] [(0,#[O s1,O s2]),(1,#[O s1,O s2])] (fun W M=>⟨rfl,M.below⟩)
theorem VN {k:Nat} (h:4≤k):2000<jR k:=by
 unfold jR;have:=bH (n:=10) zo h;omega
theorem Vu {q:Rat} (h1:q.num.natAbs≤2000) (h2:q.den≤2000):uQ q=true:=by
 have ht:2000<jR 600:=VN zo;unfold uQ kS;rw [aG];exact ⟨decide_eq_true zo,decide_eq_true zo⟩
theorem Vw {n:Int} (h1:1≤n) (h2:n≤2000) (w:World):Calls Tryz.prog 40 #[Z I n,Z I 1000] w (fun e w'=>e= ah (Fr.of (fM.q2 n 1000)).v∧Below w.heap.size w w'):=by
 have h:=mE n 1000 zo zo zo zo w
 have e:(nk n 1000).1=Fr.of (fM.q2 n 1000):=by
  unfold nk wr fM.q2;rw [if_neg zo]
  have hk:uQ ((n:Rat) / (1000:Int))=true:=by
   obtain ⟨l1,l2⟩:=aH.Ab (n:=n) (d:=1000) zo;exact Vu zo zo
  rw [if_pos hk]
 rw [e] at h;exact h
theorem Xr (a b c:Int) (ha:0≤a∧a≤65535) (hb:0≤b∧b≤65535) (hc:0≤c∧c≤65535) (w:World) :
  Calls Tryz.prog 12 #[au #[Z .u16 a,Z .u16 b,Z .u16 c]] w (fun e w'=>e= ah (fM.tq (1+a%2000) (1+b%2000) (1+c%2000) 1000).v∧Below w.heap.size w w'):=by
 have H1:=fun W=>Vw (n:=1+a%2000) zo zo W;have H2:=fun W=>Vw (n:=1+b%2000) zo zo W;have H3:=fun W=>Vw (n:=1+c%2000) zo zo W;have ta:=Int.tmod_eq_emod_of_nonneg (b:=2000) ha.1;have tb:=Int.tmod_eq_emod_of_nonneg (b:=2000) hb.1;have tc:=Int.tmod_eq_emod_of_nonneg (b:=2000) hc.1;rw [← ta,← tb,← tc];rw [← ta] at H1;rw [← tb] at H2;rw [← tc] at H3;obtain ⟨⟨⟨s1,t1⟩,⟨s2,t2⟩,⟨s3,t3⟩⟩,E⟩:∃ y,fM.tq (1+Int.tmod a 2000) (1+Int.tmod b 2000) (1+Int.tmod c 2000) 1000=y:=⟨_,rfl⟩;rw [E];unfold fM.tq at E
 injection E with E1 E2 E3
 rw [E1] at H1;rw [E2] at H2;rw [E3] at H3;refine Fx.door Tryz.func12 rfl (.nil w []) ?_;refine Fx.new [] 1 #[Z .u16 a,Z .u16 b,Z .u16 c] 24 [] [] fun fT=>?_;refine Fx.aV [] 2 34 [] [] fun fJ=>?_;refine Fx.draw [] [0,1,2,3,4,6,7,8,9,10,12,13,14,15,16,5,11,17,18,19] [] [] [] ?_;refine Fx.part 3 [3] [(5,Z I (I.wrap a))] [] ?_;refine Fx.nX (Z I (a)) (Fx.wrap_i64 zo zo) ?_;refine Fx.part 2 [] [(7,Z I (I.wrap (1+(Int.tmod (a) 2000))))] [] ?_;refine Fx.nX (Z I (1+(Int.tmod (a) 2000))) (Fx.wrap_i64 zo zo) ?_;refine Fx.part 3 [3] [(11,Z I (I.wrap b))] [] ?_;refine Fx.nX (Z I (b)) (Fx.wrap_i64 zo zo) ?_;refine Fx.part 2 [] [(13,Z I (I.wrap (1+(Int.tmod (b) 2000))))] [] ?_;refine Fx.nX (Z I (1+(Int.tmod (b) 2000))) (Fx.wrap_i64 zo zo) ?_
 refine Fx.part 3 [3] [(17,Z I (I.wrap c))] [] ?_;refine Fx.nX (Z I (c)) (Fx.wrap_i64 zo zo) ?_;refine Fx.part 2 [] [(19,Z I (I.wrap (1+(Int.tmod (c) 2000))))] [] ?_;refine Fx.nX (Z I (1+(Int.tmod (c) 2000))) (Fx.wrap_i64 zo zo) ?_;refine Fx.bJ [] 8 [] [] H1 ?_;refine Fx.bJ [] 14 [] [] H2 ?_;refine Fx.bJ [] 20 [] [] H3 ?_;exact Fx.iy 1 fJ [4] [(1,#[O s1,O t1,O s2,O t2,O s3,O t3])] (fun W M=>⟨rfl,M.below⟩)
end Go.Proofs.aP
namespace Go.Proofs.aP
open Go Go.RowKit Go.SW Go.Num Go.Mem Go.Proofs Go.Dec Go.gB Go.Proofs.aH
end Go.Proofs.aP
namespace Go.Proofs.aP
open Go Go.RowKit Go.SW Go.Num Go.Mem Go.Proofs Go.gB Go.Fx Go.Proofs.aH
def zF:Fr:=⟨⟨#[48]⟩,⟨#[49]⟩⟩
theorem aF4:nk 0 1=(zF,0):=by decide+kernel
def gu (E:Int) (r:Fr × Int):Fr × Int:=if E=0 then (if r.2=0 then (r.1,0) else (zF,r.2)) else (zF,E)
theorem gOf (W:World):Calls Tryz.prog 40 #[Z I 0,Z I 1] W (fun e w'=>e= ah (au #[O ⟨#[48]⟩,O ⟨#[49]⟩])∧Below W.heap.size W w'):=by
 have:=mE 0 1 zo zo zo zo W;rw [aF4] at this;exact this
theorem aD4 (s t:ByteArray) (b:Nat) (w:World) (X:aB w b #[Z I 0] 130) :
  Calls Tryz.prog 106 #[aA (some ⟨b,0,none⟩),au #[O s,O t],Z I 0] w (fun e w'=>e= ah (au #[O s,O t])∧nW [b] w w'∧aB w' b #[Z I 0] 130):=by
 refine Fx.door Tryz.func106 rfl (.one X) ?_;refine Fx.new [] 4 #[O s,O t] 32 [] [] fun fT=>?_;refine Fx.aV [] 6 32 [] [] fun fJ=>?_;exact Fx.iy 2 fJ [3,1,3,3,2,4,5] [(0,#[Z I 0]),(2,#[O s,O t])] (fun W M=>⟨rfl,M.vH,M.box (b:=b) 0⟩)
theorem aD3 (s t:ByteArray) (k:Int) (hk:k≠0) (b:Nat) (w:World) (X:aB w b #[Z I 0] 130) :
  Calls Tryz.prog 106 #[aA (some ⟨b,0,none⟩),au #[O s,O t],Z I k] w (fun e w'=>e= ah (au #[O ⟨#[48]⟩,O ⟨#[49]⟩])∧nW [b] w w'∧aB w' b #[Z I k] 130):=by
 refine Fx.door Tryz.func106 rfl (.one X) ?_;refine Fx.new [] 4 #[O s,O t] 32 [] [] fun fT=>?_;refine Fx.aV [] 6 32 [] [] fun fJ=>?_;refine Fx.part 29 [3,1,3,3] [(20,ak (!(k == 0)))] [(0,#[Z I k])] ?_;refine Fx.kF true (by simp [hk]) ?_;refine Fx.call [1] 21 [] [] (fun W M=>gOf _) ?_;exact Fx.iy 2 fJ [5] [(2,#[O (⟨#[48]⟩),O (⟨#[49]⟩)])] (fun W M=>⟨rfl,M.vH,M.box (b:=b) 0⟩)
theorem aD2 (s t:ByteArray) (k E:Int) (hk:E≠0) (b:Nat) (w:World) (X:aB w b #[Z I E] 130) :
  Calls Tryz.prog 106 #[aA (some ⟨b,0,none⟩),au #[O s,O t],Z I k] w (fun e w'=>e= ah (au #[O ⟨#[48]⟩,O ⟨#[49]⟩])∧nW [b] w w'∧aB w' b #[Z I E] 130):=by
 refine Fx.door Tryz.func106 rfl (.one X) ?_;refine Fx.new [] 4 #[O s,O t] 32 [] [] fun fT=>?_;refine Fx.aV [] 6 32 [] [] fun fJ=>?_;refine Fx.part 10 [3] [(11,ak (E == 0))] [] ?_;refine Fx.kF false (by simp [hk]) ?_;refine Fx.part 13 [2,3] [(20,ak (!(E == 0)))] [] ?_;refine Fx.kF true (by simp [hk]) ?_;refine Fx.call [1] 21 [] [] (fun W M=>gOf _) ?_;exact Fx.iy 2 fJ [5] [(2,#[O (⟨#[48]⟩),O (⟨#[49]⟩)])] (fun W M=>⟨rfl,M.vH,M.box (b:=b) 0⟩)
theorem xS {s t x y:ByteArray} {k E F:Int} (h:gu E (⟨s,t⟩,k)=(⟨x,y⟩,F)) {b:Nat} {w:World} (X:aB w b #[Z I E] 130) :
  Calls Tryz.prog 106 #[aA (some ⟨b,0,none⟩),au #[O s,O t],Z I k] w (fun e w'=>e= ah (au #[O x,O y])∧nW [b] w w'∧aB w' b #[Z I F] 130):=by
 unfold gu at h;split at h
 ·rename_i h0;subst h0;split at h
  ·rename_i h1;cases h
   have h1':k=0:=h1;subst h1';exact aD4 s t b w X
  ·rename_i h1;cases h
   exact aD3 s t k h1 b w X
 ·rename_i h0;cases h
  exact aD2 s t k E h0 b w X
theorem Lx {E F:Int} {p q r s x y:ByteArray} (h:gu E (tY ⟨p,q⟩ ⟨r,s⟩)=(⟨x,y⟩,F)) (hf:Fits ⟨p,q⟩) (hg:Fits ⟨r,s⟩) {b:Nat} {w:World} (X:aB w b #[Z I E] 130) :
  Calls Tryz.prog 87 #[aA (some ⟨b,0,none⟩),au #[O p,O q],au #[O r,O s]] w (fun e w'=>e= ah (au #[O x,O y])∧nW [b] w w'∧aB w' b #[Z I F] 130):=by
 obtain ⟨⟨⟨u,v⟩,k⟩,hr⟩:∃ z,tY ⟨p,q⟩ ⟨r,s⟩=z:=⟨_,rfl⟩;have C0:=fun W=>aH.uj ⟨p,q⟩ ⟨r,s⟩ W hf hg;rw [hr] at C0 h;have C:∀ W,Calls Tryz.prog 170 #[au #[O p,O q],au #[O r,O s]] W (fun e w'=>e= ah (aD #[au #[O u,O v],Z I k])∧Below W.heap.size W w'):=C0;refine Fx.door Tryz.func87 rfl (.one X) ?_;refine Fx.new [] 4 #[O p,O q] 32 [] [] fun fT=>?_;refine Fx.new [] 5 #[O r,O s] 32 [] [] fun fJ=>?_;refine Fx.aV [] 6 32 [] [] fun fF=>?_;refine Fx.bJ [4,5] 12 [] [] C ?_;refine Fx.aV [] 7 32 [(13,au #[O u,O v]),(14,Z I k)] [] fun uF=>?_;refine Fx.gK [7,7] 18 0 [] [(4,#[O u,O v])] (fun W M=>xS h (M.box (b:=b) 0)) ?_;exact Fx.iy 3 fF [6] [(3,#[O x,O y])] (fun W M=>⟨rfl,M.vH,M.box (b:=b) 0⟩)
theorem Qh {E F:Int} {p q r s x y:ByteArray} (h:gu E (rT ⟨p,q⟩ ⟨r,s⟩)=(⟨x,y⟩,F)) (hf:Fits ⟨p,q⟩) (hg:Fits ⟨r,s⟩) {b:Nat} {w:World} (X:aB w b #[Z I E] 130) :
  Calls Tryz.prog 93 #[aA (some ⟨b,0,none⟩),au #[O p,O q],au #[O r,O s]] w (fun e w'=>e= ah (au #[O x,O y])∧nW [b] w w'∧aB w' b #[Z I F] 130):=by
 obtain ⟨⟨⟨u,v⟩,k⟩,hr⟩:∃ z,rT ⟨p,q⟩ ⟨r,s⟩=z:=⟨_,rfl⟩;have C0:=fun W=>aH.xP ⟨p,q⟩ ⟨r,s⟩ W hf hg;rw [hr] at C0 h;have C:∀ W,Calls Tryz.prog 173 #[au #[O p,O q],au #[O r,O s]] W (fun e w'=>e= ah (aD #[au #[O u,O v],Z I k])∧Below W.heap.size W w'):=C0;refine Fx.door Tryz.func93 rfl (.one X) ?_;refine Fx.new [] 4 #[O p,O q] 32 [] [] fun fT=>?_;refine Fx.new [] 5 #[O r,O s] 32 [] [] fun fJ=>?_;refine Fx.aV [] 6 32 [] [] fun fF=>?_;refine Fx.bJ [4,5] 12 [] [] C ?_;refine Fx.aV [] 7 32 [(13,au #[O u,O v]),(14,Z I k)] [] fun uF=>?_;refine Fx.gK [7,7] 18 0 [] [(4,#[O u,O v])] (fun W M=>xS h (M.box (b:=b) 0)) ?_;exact Fx.iy 3 fF [6] [(3,#[O x,O y])] (fun W M=>⟨rfl,M.vH,M.box (b:=b) 0⟩)
theorem wT {E F:Int} {p q r s x y:ByteArray} (h:gu E (kM ⟨p,q⟩ ⟨r,s⟩)=(⟨x,y⟩,F)) (hf:Fits ⟨p,q⟩) (hg:Fits ⟨r,s⟩) {b:Nat} {w:World} (X:aB w b #[Z I E] 130) :
  Calls Tryz.prog 92 #[aA (some ⟨b,0,none⟩),au #[O p,O q],au #[O r,O s]] w (fun e w'=>e= ah (au #[O x,O y])∧nW [b] w w'∧aB w' b #[Z I F] 130):=by
 obtain ⟨⟨⟨u,v⟩,k⟩,hr⟩:∃ z,kM ⟨p,q⟩ ⟨r,s⟩=z:=⟨_,rfl⟩;have C0:=fun W=>aH.ug ⟨p,q⟩ ⟨r,s⟩ W hf hg;rw [hr] at C0 h;have C:∀ W,Calls Tryz.prog 172 #[au #[O p,O q],au #[O r,O s]] W (fun e w'=>e= ah (aD #[au #[O u,O v],Z I k])∧Below W.heap.size W w'):=C0;refine Fx.door Tryz.func92 rfl (.one X) ?_;refine Fx.new [] 4 #[O p,O q] 32 [] [] fun fT=>?_;refine Fx.new [] 5 #[O r,O s] 32 [] [] fun fJ=>?_;refine Fx.aV [] 6 32 [] [] fun fF=>?_;refine Fx.bJ [4,5] 12 [] [] C ?_;refine Fx.aV [] 7 32 [(13,au #[O u,O v]),(14,Z I k)] [] fun uF=>?_;refine Fx.gK [7,7] 18 0 [] [(4,#[O u,O v])] (fun W M=>xS h (M.box (b:=b) 0)) ?_;exact Fx.iy 3 fF [6] [(3,#[O x,O y])] (fun W M=>⟨rfl,M.vH,M.box (b:=b) 0⟩)
theorem XO {E F:Int} {p q r s x y:ByteArray} (h:gu E (oN ⟨p,q⟩ ⟨r,s⟩)=(⟨x,y⟩,F)) (hf:Fits ⟨p,q⟩) (hg:Fits ⟨r,s⟩) {b:Nat} {w:World} (X:aB w b #[Z I E] 130) :
  Calls Tryz.prog 86 #[aA (some ⟨b,0,none⟩),au #[O p,O q],au #[O r,O s]] w (fun e w'=>e= ah (au #[O x,O y])∧nW [b] w w'∧aB w' b #[Z I F] 130):=by
 obtain ⟨⟨⟨u,v⟩,k⟩,hr⟩:∃ z,oN ⟨p,q⟩ ⟨r,s⟩=z:=⟨_,rfl⟩;have C0:=fun W=>aH.xV ⟨p,q⟩ ⟨r,s⟩ W hf hg;rw [hr] at C0 h;have C:∀ W,Calls Tryz.prog 55 #[au #[O p,O q],au #[O r,O s]] W (fun e w'=>e= ah (aD #[au #[O u,O v],Z I k])∧Below W.heap.size W w'):=C0;refine Fx.door Tryz.func86 rfl (.one X) ?_;refine Fx.new [] 4 #[O p,O q] 32 [] [] fun fT=>?_;refine Fx.new [] 5 #[O r,O s] 32 [] [] fun fJ=>?_;refine Fx.aV [] 6 32 [] [] fun fF=>?_;refine Fx.bJ [4,5] 12 [] [] C ?_;refine Fx.aV [] 7 32 [(13,au #[O u,O v]),(14,Z I k)] [] fun uF=>?_;refine Fx.gK [7,7] 18 0 [] [(4,#[O u,O v])] (fun W M=>xS h (M.box (b:=b) 0)) ?_;exact Fx.iy 3 fF [6] [(3,#[O x,O y])] (fun W M=>⟨rfl,M.vH,M.box (b:=b) 0⟩)
theorem Gm (z:Int):(Lib.itoa z).length=(Lib.decDigits z.natAbs).length+(if z<0 then 1 else 0):=by
 unfold Lib.itoa;split
 ·rfl
 ·rename_i h;rw [show z.natAbs=z.toNat by omega];rfl
theorem qE {q:Rat} (h:uQ q=true):Fits (Fr.of q):=by
 unfold uQ at h;rw [aG] at h;have h1:=fZ.1 h.1;have h2:=fZ.1 h.2;have h3:=Gm q.num;have h4:=Gm (q.den:Int);rw [Int.natAbs_natCast] at h4;have h5:(Lib.itoa q.num).length≤601:=by rw [h3];split<;>omega
 have h6:(Lib.itoa (q.den:Int)).length≤601:=by rw [h4];split<;>omega
 exact ⟨by show (Lib.itoa q.num).length≤_;omega,by show (Lib.itoa (q.den:Int)).length≤_;omega⟩
theorem yQ (q:Rat):Fits (wr q).1:=by
 unfold wr;split
 ·rename_i hq;exact qE hq
 ·exact ⟨by decide,by decide⟩
theorem jo {E F:Int} {r:Fr × Int} {x:Fr} (hr:Fits r.1) (h:gu E r=(x,F)):Fits x:=by
 have hz:Fits zF:=⟨by decide,by decide⟩;unfold gu at h;split at h
 ·split at h<;>cases h
  ·exact hr
  ·exact hz
 ·cases h;exact hz
theorem yR:Fits Fr.no:=⟨by decide,by decide⟩
theorem yS {f:Rat→Rat→Fr × Int} (hf:∀ p q,Fits (f p q).1) (a b:Fr):Fits (bin f a b).1:=by
 unfold bin;split
 ·exact hf _ _
 ·exact yR
theorem KF (a b:Fr):Fits (tY a b).1:=yS (fun p q=>yQ (p+q)) a b
theorem Kz (a b:Fr):Fits (rT a b).1:=yS (fun p q=>yQ (p - q)) a b
theorem vo (a b:Fr):Fits (kM a b).1:=yS (fun p q=>yQ (p*q)) a b
theorem DK (a b:Fr):Fits (oN a b).1:=yS (fun p q=>by split;exact yR;exact yQ (p / q)) a b
end Go.Proofs.aP
