/- Lemmas for the proof. No condition. -/
import Derived.Test.YtneajphgfdlmhaaGreatDoorUB27
import Derived.RegionTactic
import Derived.ChangeAlike
set_option linter.unusedVariables false
set_option linter.unusedSimpArgs false
set_option maxRecDepth 100000
set_option maxHeartbeats 16000000
open Go.Ending renaming returned → ah
open Go.IntKind renaming i64 → I
open Go.Value renaming agg → au, int → Z, slice → aj, tuple → aD
open List renaming all_eq_true → eZ
open Nat renaming le_refl → aC, lt_or_ge → aR
namespace Go.Proofs.power
open Go Go.RowKit Go.Shelf Go.SW Go.Num Go.Mem Go.Proofs Go.Dec Go.gB Go.Proofs.whole Go.Proofs.aW
theorem Lj (a:Option Addr) (n cap:Nat) (k:Int) (h:n=0∧k=2∨8<n∧k=3) (w:World) :
  Calls Tryz.prog 71 #[aj a n cap] w (fun e w'=>e= ah (dZ ((0,0),k))∧Below w.heap.size w w'):=by
 unfold dZ;simp only
 rcases h with ⟨h,rfl⟩|⟨h,rfl⟩
 ·subst h;go_enter Tryz.func71,Tryz.ntmps71
  go_wp2_with fail
  go_step3
  go_wp2_with fail
  rw [Exit.noGoto_ret];exact bodyPost_ret (v:=aD #[au #[Z I 0,Z I 0],Z I 2]) (by simp [results,Tryz.results71,go_sem]) rfl ⟨rfl,aJ⟩
 ·have q1:((n:Int) == 0)=false:=beq_eq_false_iff_ne.2 zo;have q2:decide ((8:Int)<(n:Int))=true:=by simp;omega
  go_enter Tryz.func71,Tryz.ntmps71
  go_wp2_with fail
  go_step3
  go_wp2_with fail
  rw [Exit.noGoto_ret];exact bodyPost_ret (v:=aD #[au #[Z I 0,Z I 0],Z I 3]) (by simp [results,Tryz.results71,go_sem]) rfl ⟨rfl,aJ⟩
theorem XC (a:Option Addr) (cap:Nat) (T:TypeId) (bs:List (Int × Int)) (h1:1≤bs.length) (h8:bs.length≤8) (hok:okB bs=false) (w:World) (hv:zG w T (aj a bs.length cap) bs) :
  Calls Tryz.prog 71 #[aj a bs.length cap] w (fun e w'=>e= ah (dZ ((0,0),30))∧Below w.heap.size w w'):=by
 have q1:((bs.length:Int) == 0)=false:=beq_eq_false_iff_ne.2 zo;have q2:decide ((8:Int)<(bs.length:Int))=false:=by simp;omega
 have HOK:=zh hok;have HL:=zh h8
 have hread:∀ k (_:k<bs.length),∃ b off,a=some ⟨b,off,none⟩∧b<w.heap.size∧w.cell? ⟨b,off+k*2,none⟩=some (.int .i64 bs[k].1)∧w.cell? ⟨b,off+k*2+1,none⟩=some (.int .i64 bs[k].2):=by
  obtain ⟨a',cap',e, -, -, h⟩:=hv.read;cases e
  exact h
 have HRD:=zh hread;clear hread hv hok h8;unfold dZ;simp only;go_enter Tryz.func71,Tryz.ntmps71
 go_wp2_with fail
 go_step3
 go_wp2_with fail
 go_step3
 obtain ⟨wx,EW,hz,R,E3,E⟩:=LK w #[Z I 0,Z I 0] 40 #[Z I 0] 43 #[Z I 0] 43;rw [EW];clear EW;obtain ⟨bx,eb⟩:∃ y,w.heap.size=y:=⟨_,rfl⟩;rw [eb] at R E3 E ⊢;go_wp2_with fail
 go_loopw [20] (fun i wr=>∃ k:Nat,i= Z I k∧k≤bs.length∧Below w.heap.size w wr∧Hid (aB wr bx #[Z I 0,Z I 0] 40)∧Hid (aB wr (bx+1) #[Z I 0] 43)∧Hid (aB wr (bx+1+1) #[Z I 0] 43)∧Hid (∀ j (h:j<bs.length),j<k→gM bs[j].1 bs[j].2=true))
  (fun i _=>bs.length - (intOf i).toNat)
 case atStart=>exact ⟨0,rfl,Nat.zero_le _,hz,R,E3,E,zh fun j _ h=>absurd h zo⟩
 case round =>
  clear R E3 E hz;obtain ⟨k,rfl,hk,hnx,R,E3,E,HK⟩:=hrel
  have hw1:wrap64 ((k:Int)+1)=((k+1:Nat):Int):=by
   have:=HL.out;unfold wrap64;omega
  by_cases hlt:k<bs.length
  ·obtain ⟨b,off,rfl,hbl,hx1,hx2⟩:=HRD.out k hlt;have hc1:=(hnx.cell (p:=⟨b,off+k*2,none⟩) hbl).trans hx1;have hc2:=(hnx.cell (p:=⟨b,off+k*2+1,none⟩) hbl).trans hx2;clear hx1 hx2;have HC:=zh (fun W=>iT bs[k].1 bs[k].2 W);obtain ⟨bk,EK⟩:∃ y,gM bs[k].1 bs[k].2=y:=⟨_,rfl⟩;rw [EK] at HC;have HEK:=zh EK;have HB:=zh hbl;clear hbl EK;generalize e1:bs[k].1=y1 at *;generalize e2:bs[k].2=y2 at *;have Uk:=zh e1;have HE2:=zh e2;clear e1 e2;go_wp2_with fail
   refine (HC.out _).mono ?_;rintro e w1 ⟨rfl,hc3⟩;have HN:=zh (hnx.alloc hnx.size (.cells #[Z I y1,Z I y2] 40));replace R:=(zh (R.out.alloc (.cells #[Z I y1,Z I y2] 40))).bl hc3;replace E3:=(zh (E3.out.alloc (.cells #[Z I y1,Z I y2] 40))).bl hc3;replace E:=(zh (E.out.alloc (.cells #[Z I y1,Z I y2] 40))).bl hc3;replace HN:=zh (Bt HN.out hc3);clear hc3 hnx hc1 hc2;have cE:=E.out.cell;have fE:=E.out.free;have lE:=E.out.lt;cases bk
   ·go_wp2_with fail
    have hn:=HN.out;have r1:aB (w1.setCell ⟨bx+1+1,0,none⟩ (Z I 30)) bx #[Z I 0,Z I 0] 40:=aB.setOther R.out _ (by simp;omega);have r2:aB (w1.setCell ⟨bx+1+1,0,none⟩ (Z I 30)) (bx+1) #[Z I 0] 43:=aB.setOther E3.out _ zi;have r3:aB (w1.setCell ⟨bx+1+1,0,none⟩ (Z I 30)) (bx+1+1) #[Z I 30] 43:=aB.set E.out 0 _;have hn2:Below w.heap.size w (w1.setCell ⟨bx+1+1,0,none⟩ (Z I 30)):=hn.setCell (p:=⟨bx+1+1,0,none⟩) (by simp;omega) _;generalize w1.setCell ⟨bx+1+1,0,none⟩ (Z I 30)=w2 at *;clear R E3 E cE fE lE;have c1:=r1.cell;have c2:=r2.cell;have c3:=r3.cell;have f1:=r1.free;have f2:=r2.free;have l1:=r1.lt;have l2:=r2.lt;have l3:=r3.lt;go_region
    go_wp2_with fail
    rw [Exit.noGoto_ret];have g1:aB (((w2.setCell ⟨bx,0,none⟩ (Z I 0)).setCell ⟨bx,1,none⟩ (Z I 0)).setCell ⟨bx+1,0,none⟩ (Z I 30)).drew bx #[Z I 0,Z I 0] 40:=aB.drew (aB.setOther ((r1.set 0 _).set 1 _) _ zi);have g2:aB (((w2.setCell ⟨bx,0,none⟩ (Z I 0)).setCell ⟨bx,1,none⟩ (Z I 0)).setCell ⟨bx+1,0,none⟩ (Z I 30)).drew (bx+1) #[Z I 30] 43:=aB.drew (aB.set (aB.setOther (aB.setOther r2 _ zi) _ zi) 0 _);have hW:=(((hn2.setCell (p:=⟨bx,0,none⟩) (by simp;omega) (Z I 0)).setCell (p:=⟨bx,1,none⟩) (by simp;omega) (Z I 0)).setCell (p:=⟨bx+1,0,none⟩) (by simp;omega) (Z I 30)).drew;generalize (((w2.setCell ⟨bx,0,none⟩ (Z I 0)).setCell ⟨bx,1,none⟩ (Z I 0)).setCell ⟨bx+1,0,none⟩ (Z I 30)).drew=w3 at *;have h1:=g1.cell 0;have h2:=g1.cell 1;have h3:=g2.cell 0
    exact bodyPost_ret (v:=aD #[au #[Z I 0,Z I 0],Z I 30]) (by simp [results,Tryz.results71,go_sem,h1,h2,h3]) rfl ⟨rfl,hW⟩
   ·go_wp2_with fail
    go_roundw
    case rel =>
     have hn:=HN.out;rw [eb] at hn;have r:=R.out;have e3:=E3.out;have e4:=E.out;rw [eb];refine ⟨k+1,by rw [hw1],by omega,aJ,zh bI,zh bI,zh (e4.set 0 _),zh fun j hj hjk=>?_⟩
     rcases aR j k with h|h
     ·exact HK.out j hj h
     ·obtain rfl:j=k:=by omega
      rw [Uk.out,HE2.out];exact HEK.out
    case measure =>
     rw [hw1];simp only [intOf,Int.toNat_natCast];omega
  ·obtain rfl:k=bs.length:=by omega
   have hyes:okB bs=true:=by
    unfold okB;rw [eZ];intro x hx;obtain ⟨j,hj,rfl⟩:=List.getElem_of_mem hx;exact HK.out j hj hj
   rw [HOK.out] at hyes;cases hyes
theorem Z9 (v:Value) (T:TypeId) (bs:List (Int × Int)) (w:World) (hv:zG w T v bs) (ht:jN.Pow w) (he:Er w) :
  Calls Tryz.prog 71 #[v] w (fun e w'=>e= ah (dZ (YP bs))∧Below w.heap.size w w'):=by
 obtain ⟨a,cap,rfl, -⟩:=hv.read;unfold YP
 by_cases h0:bs.length=0
 ·rw [if_pos h0];exact Lj a _ cap 2 (Or.inl ⟨h0,rfl⟩) w
 ·rw [if_neg h0]
  by_cases h8:8<bs.length
  ·rw [if_pos h8];exact Lj a _ cap 3 (Or.inr ⟨h8,rfl⟩) w
  ·rw [if_neg h8];cases hk:okB bs
   ·rw [if_pos rfl];exact XC a cap T bs zo zo hk w hv
   ·rw [if_neg zi];exact T9 a cap T bs zo zo hk w hv ht he
end Go.Proofs.power
namespace Go.Proofs.power
open Go Go.RowKit Go.SW Go.Num Go.Mem Go.Proofs Go.Proofs.aW
end Go.Proofs.power
namespace Go.gB
theorem zG.nil {w:Go.World} {T:Go.TypeId}:zG w T (aj none 0 0) []:=⟨none,0,rfl,aC _,by omega,fun _ h=>by cases h⟩
end Go.gB
namespace Go.Proofs.power
open Go Go.RowKit Go.SW Go.Num Go.Mem Go.Proofs Go.gB Go.Proofs.aW
end Go.Proofs.power
