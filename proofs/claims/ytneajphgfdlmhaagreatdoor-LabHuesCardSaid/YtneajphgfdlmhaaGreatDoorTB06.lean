/- Lemmas for the proof. No condition. -/
import Derived.Test.YtneajphgfdlmhaaGreatDoorTB01
import Derived.Test.YtneajphgfdlmhaaGreatDoorTB03
import Derived.Test.YtneajphgfdlmhaaGreatDoorTB05
import Derived.RegionTactic
import Derived.ChangeAlike
set_option linter.unusedVariables false
set_option linter.unusedSimpArgs false
set_option maxRecDepth 100000
set_option maxHeartbeats 16000000
namespace Go.Proofs.power
open Go Go.RowKit Go.Shelf Go.SW Go.Num Go.Mem Go.Proofs Go.Dec Go.eF Go.Proofs.whole Go.Proofs.aL
theorem Sr (a:Option Addr) (n cap:Nat) (k:Int) (h:n=0∧k=2∨8<n∧k=3) (w:World) :
  Calls Tryz.prog 71 #[.slice a n cap] w (fun e w'=>e= .returned (bK ((0,0),k))∧Below w.heap.size w w'):=by
 unfold bK;simp only
 rcases h with ⟨h,rfl⟩|⟨h,rfl⟩
 ·subst h;go_enter Tryz.func71,Tryz.ntmps71
  go_wp2_with fail
  go_step3
  go_wp2_with fail
  rw [Exit.noGoto_ret];exact bodyPost_ret (v:=.tuple #[.agg #[.int .i64 0,.int .i64 0],.int .i64 2]) (by simp [results,Tryz.results71,go_sem]) rfl ⟨rfl,au⟩
 ·have q1:((n:Int) == 0)=false:=beq_eq_false_iff_ne.2 zo;have q2:decide ((8:Int)<(n:Int))=true:=by simp;omega
  go_enter Tryz.func71,Tryz.ntmps71
  go_wp2_with fail
  go_step3
  go_wp2_with fail
  rw [Exit.noGoto_ret];exact bodyPost_ret (v:=.tuple #[.agg #[.int .i64 0,.int .i64 0],.int .i64 3]) (by simp [results,Tryz.results71,go_sem]) rfl ⟨rfl,au⟩
theorem ar1 (a:Option Addr) (cap:Nat) (T:TypeId) (bs:List (Int × Int)) (h1:1≤bs.length) (h8:bs.length≤8) (hok:okB bs=false) (w:World) (hv:Bq w T (.slice a bs.length cap) bs) :
  Calls Tryz.prog 71 #[.slice a bs.length cap] w (fun e w'=>e= .returned (bK ((0,0),30))∧Below w.heap.size w w'):=by
 have q1:((bs.length:Int) == 0)=false:=beq_eq_false_iff_ne.2 zo;have q2:decide ((8:Int)<(bs.length:Int))=false:=by simp;omega
 have HOK:=zh hok;have HL:=zh h8
 have hread:∀ k (_:k<bs.length),∃ b off,a=some ⟨b,off,none⟩∧b<w.heap.size∧w.cell? ⟨b,off+k*2,none⟩=some (.int .i64 bs[k].1)∧w.cell? ⟨b,off+k*2+1,none⟩=some (.int .i64 bs[k].2):=by
  obtain ⟨a',cap',e, -, -, h⟩:=hv.read;cases e
  exact h
 have HRD:=zh hread;clear hread hv hok h8;unfold bK;simp only;go_enter Tryz.func71,Tryz.ntmps71
 go_wp2_with fail
 go_step3
 go_wp2_with fail
 go_step3
 obtain ⟨wx,EW,hz,R,E3,E⟩:=yx w #[.int .i64 0,.int .i64 0] 40 #[.int .i64 0] 43 #[.int .i64 0] 43;rw [EW];clear EW;obtain ⟨bx,eb⟩:∃ y,w.heap.size=y:=⟨_,rfl⟩;rw [eb] at R E3 E ⊢;go_wp2_with fail
 go_loopw [20] (fun i wr=>∃ k:Nat,i= .int .i64 k∧k≤bs.length∧Below w.heap.size w wr∧Hid (ah wr bx #[.int .i64 0,.int .i64 0] 40)∧Hid (ah wr (bx+1) #[.int .i64 0] 43)∧Hid (ah wr (bx+1+1) #[.int .i64 0] 43)∧Hid (∀ j (h:j<bs.length),j<k→dA bs[j].1 bs[j].2=true))
  (fun i _=>bs.length - (intOf i).toNat)
 case atStart=>exact ⟨0,rfl,Nat.zero_le _,hz,R,E3,E,zh fun j _ h=>absurd h zo⟩
 case round =>
  clear R E3 E hz;obtain ⟨k,rfl,hk,hnx,R,E3,E,HK⟩:=hrel
  have hw1:wrap64 ((k:Int)+1)=((k+1:Nat):Int):=by
   have:=HL.out;unfold wrap64;omega
  by_cases hlt:k<bs.length
  ·obtain ⟨b,off,rfl,hbl,hx1,hx2⟩:=HRD.out k hlt;have hc1:=(hnx.cell (p:=⟨b,off+k*2,none⟩) hbl).trans hx1;have hc2:=(hnx.cell (p:=⟨b,off+k*2+1,none⟩) hbl).trans hx2;clear hx1 hx2;have HC:=zh (fun W=>iQ bs[k].1 bs[k].2 W);obtain ⟨bk,EK⟩:∃ y,dA bs[k].1 bs[k].2=y:=⟨_,rfl⟩;rw [EK] at HC;have HEK:=zh EK;have HB:=zh hbl;clear hbl EK;generalize e1:bs[k].1=y1 at *;generalize e2:bs[k].2=y2 at *;have OI:=zh e1;have HE2:=zh e2;clear e1 e2;go_wp2_with fail
   refine (HC.out _).mono ?_;rintro e w1 ⟨rfl,hc3⟩;have HN:=zh (hnx.alloc hnx.size (.cells #[.int .i64 y1,.int .i64 y2] 40));replace R:=(zh (R.out.alloc (.cells #[.int .i64 y1,.int .i64 y2] 40))).bl hc3;replace E3:=(zh (E3.out.alloc (.cells #[.int .i64 y1,.int .i64 y2] 40))).bl hc3;replace E:=(zh (E.out.alloc (.cells #[.int .i64 y1,.int .i64 y2] 40))).bl hc3;replace HN:=zh (Bt HN.out hc3);clear hc3 hnx hc1 hc2;have cE:=E.out.cell;have fE:=E.out.free;have lE:=E.out.lt;cases bk
   ·go_wp2_with fail
    have hn:=HN.out;have r1:ah (w1.setCell ⟨bx+1+1,0,none⟩ (.int .i64 30)) bx #[.int .i64 0,.int .i64 0] 40:=ah.setOther R.out _ (by simp;omega);have r2:ah (w1.setCell ⟨bx+1+1,0,none⟩ (.int .i64 30)) (bx+1) #[.int .i64 0] 43:=ah.setOther E3.out _ zi;have r3:ah (w1.setCell ⟨bx+1+1,0,none⟩ (.int .i64 30)) (bx+1+1) #[.int .i64 30] 43:=ah.set E.out 0 _;have hn2:Below w.heap.size w (w1.setCell ⟨bx+1+1,0,none⟩ (.int .i64 30)):=hn.setCell (p:=⟨bx+1+1,0,none⟩) (by simp;omega) _;generalize w1.setCell ⟨bx+1+1,0,none⟩ (.int .i64 30)=w2 at *;clear R E3 E cE fE lE;have c1:=r1.cell;have c2:=r2.cell;have c3:=r3.cell;have f1:=r1.free;have f2:=r2.free;have l1:=r1.lt;have l2:=r2.lt;have l3:=r3.lt;go_region
    go_wp2_with fail
    rw [Exit.noGoto_ret];have g1:ah (((w2.setCell ⟨bx,0,none⟩ (.int .i64 0)).setCell ⟨bx,1,none⟩ (.int .i64 0)).setCell ⟨bx+1,0,none⟩ (.int .i64 30)).drew bx #[.int .i64 0,.int .i64 0] 40:=ah.drew (ah.setOther ((r1.set 0 _).set 1 _) _ zi);have g2:ah (((w2.setCell ⟨bx,0,none⟩ (.int .i64 0)).setCell ⟨bx,1,none⟩ (.int .i64 0)).setCell ⟨bx+1,0,none⟩ (.int .i64 30)).drew (bx+1) #[.int .i64 30] 43:=ah.drew (ah.set (ah.setOther (ah.setOther r2 _ zi) _ zi) 0 _);have hW:=(((hn2.setCell (p:=⟨bx,0,none⟩) (by simp;omega) (.int .i64 0)).setCell (p:=⟨bx,1,none⟩) (by simp;omega) (.int .i64 0)).setCell (p:=⟨bx+1,0,none⟩) (by simp;omega) (.int .i64 30)).drew;generalize (((w2.setCell ⟨bx,0,none⟩ (.int .i64 0)).setCell ⟨bx,1,none⟩ (.int .i64 0)).setCell ⟨bx+1,0,none⟩ (.int .i64 30)).drew=w3 at *;have h1:=g1.cell 0;have h2:=g1.cell 1;have h3:=g2.cell 0
    exact bodyPost_ret (v:=.tuple #[.agg #[.int .i64 0,.int .i64 0],.int .i64 30]) (by simp [results,Tryz.results71,go_sem,h1,h2,h3]) rfl ⟨rfl,hW⟩
   ·go_wp2_with fail
    go_roundw
    case rel =>
     have hn:=HN.out;rw [eb] at hn;have r:=R.out;have e3:=E3.out;have e4:=E.out;rw [eb];refine ⟨k+1,by rw [hw1],by omega,au,zh aJ,zh aJ,zh (e4.set 0 _),zh fun j hj hjk=>?_⟩
     rcases Nat.lt_or_ge j k with h|h
     ·exact HK.out j hj h
     ·obtain rfl:j=k:=by omega
      rw [OI.out,HE2.out];exact HEK.out
    case measure =>
     rw [hw1];simp only [intOf,Int.toNat_natCast];omega
  ·obtain rfl:k=bs.length:=by omega
   have hyes:okB bs=true:=by
    unfold okB;rw [List.all_eq_true];intro x hx;obtain ⟨j,hj,rfl⟩:=List.getElem_of_mem hx;exact HK.out j hj hj
   rw [HOK.out] at hyes;cases hyes
theorem aC9 (v:Value) (T:TypeId) (bs:List (Int × Int)) (w:World) (hv:Bq w T v bs) (ht:fM.Pow w) (he:Er w) :
  Calls Tryz.prog 71 #[v] w (fun e w'=>e= .returned (bK (ay0 bs))∧Below w.heap.size w w'):=by
 obtain ⟨a,cap,rfl, -⟩:=hv.read;unfold ay0
 by_cases h0:bs.length=0
 ·rw [if_pos h0];exact Sr a _ cap 2 (Or.inl ⟨h0,rfl⟩) w
 ·rw [if_neg h0]
  by_cases h8:8<bs.length
  ·rw [if_pos h8];exact Sr a _ cap 3 (Or.inr ⟨h8,rfl⟩) w
  ·rw [if_neg h8];cases hk:okB bs
   ·rw [if_pos rfl];exact ar1 a cap T bs zo zo hk w hv
   ·rw [if_neg zi];exact ac2 a cap T bs zo zo hk w hv ht he
end Go.Proofs.power
namespace Go.Proofs.power
open Go Go.RowKit Go.SW Go.Num Go.Mem Go.Proofs Go.Proofs.aL
end Go.Proofs.power
namespace Go.eF
theorem Bq.nil {w:Go.World} {T:Go.TypeId}:Bq w T (.slice none 0 0) []:=⟨none,0,rfl,Nat.le_refl _,by omega,fun _ h=>by cases h⟩
end Go.eF
namespace Go.Proofs.power
open Go Go.RowKit Go.SW Go.Num Go.Mem Go.Proofs Go.eF Go.Proofs.aL
end Go.Proofs.power
