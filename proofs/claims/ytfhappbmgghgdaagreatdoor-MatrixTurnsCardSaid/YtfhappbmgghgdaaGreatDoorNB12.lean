/- Lemmas for the proof. No condition. -/
import Derived.Test.YtfhappbmgghgdaaGreatDoorNB01
import Derived.Test.YtfhappbmgghgdaaGreatDoorNB02
import Derived.Test.YtfhappbmgghgdaaGreatDoorNB03
import Derived.Test.YtfhappbmgghgdaaGreatDoorNB04
import Derived.Test.YtfhappbmgghgdaaGreatDoorNB05
import Derived.Test.YtfhappbmgghgdaaGreatDoorNB08
import Derived.Test.YtfhappbmgghgdaaGreatDoorNB10
import Derived.Test.YtfhappbmgghgdaaGreatDoorNB11
import Derived.Deep.CutRange
import Derived.Deep.Cut
set_option linter.unusedVariables false
set_option linter.unusedSimpArgs false
set_option maxRecDepth 100000
set_option maxHeartbeats 16000000
namespace Go.Proofs.matrix
open Go Go.RowKit Go.SW Go.Num Go.Mem Go.Proofs Go.Dec Go.Fra
def grow (S:Nat):Nat→Nat
 | 0=>S
 | k+1=>2*grow S k+1
theorem grow_le {S k:Nat} (h:k≤4):grow S k≤16*S+15:=by
 have:k=0∨k=1∨k=2∨k=3∨k=4:=by omega
 rcases this with rfl|rfl|rfl|rfl|rfl<;>simp [grow]<;>omega
def ElimPost (w:World) (B off n:Nat) (R:Int × Bool × IM) (e:Ending) (w':World):Prop :=
 ∃ v,e= .returned (.tuple #[v,.bool R.2.1])∧Near w w' B∧IntV w' v R.1∧RowsB w' B off n (fun i=>R.2.2.getD i [])
def mix (rs:IM) (k:Nat) (p:Int) (i j:Nat):List Int:=if j<i then clearRow rs k p j else rs.getD j []
theorem mix_step (rs:IM) (k:Nat) (p:Int) (i j:Nat):(if j=i then clearRow rs k p i else mix rs k p i j)=mix rs k p (i+1) j:=by
 unfold mix
 by_cases h:j=i
 ·subst h;simp
 ·rw [if_neg h]
  by_cases h2:j<i
  ·rw [if_pos h2,if_pos zo]
  ·rw [if_neg h2,if_neg zo]
theorem mix_skip (rs:IM) (k:Nat) (p:Int) (j:Nat):mix rs k p k j=mix rs k p (k+1) j:=by
 rw [← mix_step]
 by_cases h:j=k
 ·subst h;rw [if_pos rfl];simp [mix,clearRow]
 ·rw [if_neg h]
theorem mix_self (rs:IM) (k:Nat) (p:Int) (i:Nat):mix rs k p i i=rs.getD i []:=by unfold mix;rw [if_neg zo]
theorem mix_zero (rs:IM) (k:Nat) (p:Int) (j:Nat):mix rs k p 0 j=rs.getD j []:=by unfold mix;rw [if_neg zo]
theorem mix_k (rs:IM) (k:Nat) (p:Int) (i:Nat):mix rs k p i k=rs.getD k []:=by
 unfold mix clearRow
 split<;>simp
theorem eliminate_ok (B off n c cap S:Nat) (rs:IM) (w:World) (h:RowsB w B off n (fun i=>rs.getD i [])) (hf:rs.fits n c S) (h1:1≤n) (hn:n≤4) (hnc:n≤c) (hc:c≤1000) (hS:S≤10000000) (hS1:1≤S) (hcap:n≤cap) (hcap2:cap≤9223372036854775807) :
  Calls Tryz.prog 73 #[.slice (some ⟨B,off,none⟩) n cap] w (ElimPost w B off n (elim n 0 rs 1 false)):=by
 have H0:=zh h.rowsF
 have HF:=zh hf
 have HS:=zh hS
 have hlt:=h.rowsF.lt
 obtain ⟨R,ER⟩:∃ R,Hid (elim n 0 rs 1 false=R):=⟨_,zh rfl⟩
 rw [ER.out]
 clear h hf hS
 go_enter Tryz.func73,Tryz.ntmps73
 go_wp2_with fail
 obtain ⟨w1,Ew1⟩:∃ y:World,Hid (((w.alloc (.cells #[.slice (some ⟨w.heap.size+1,0,none⟩) 1 1,.bool false] 112)).alloc (.cells #[.int .u32 1] 65))=y):=⟨_,zh rfl⟩
 have hb1:Below w.heap.size w w1:=by rw [← Ew1.out];exact belA
 have hP0:Box w1 w.heap.size #[.slice (some ⟨w.heap.size+1,0,none⟩) 1 1,.bool false] 112:=by rw [← Ew1.out];exact boxA
 have hP:Box w1 w.heap.size #[.slice (some ⟨w.heap.size+1,0,none⟩) 1 1,.bool (decide ((1:Int)<0))] 112:=hP0
 have hZ1:sz 1000000000 (1:Int).natAbs≤grow S 0:=by
  have:sz 1000000000 (1:Int).natAbs=1:=by decide+kernel
  rw [this];exact hS1
 have HZ1:=zh hZ1
 have hM1:Mag w1 (.slice (some ⟨w.heap.size+1,0,none⟩) 1 1) ((1:Int).natAbs):=by
  rw [← Ew1.out]
  have:=Mag.lit (w:=w.alloc (.cells #[.slice (some ⟨w.heap.size+1,0,none⟩) 1 1,.bool false] 112)) (d:=1) zo zo
  simpa using this
 have HR1:=zh (H0.out.later hb1)
 have HN1:=zh ((Near.refl w B).below hb1)
 have HP1:=zh hP
 have HM1:=zh hM1
 rw [Ew1.out]
 have hne:B≠w.heap.size:=by omega
 have hne2:w.heap.size≠B:=by omega
 clear hP hP0 hM1 hb1 hZ1 H0
 go_loopw [12,3] (fun kv tv wr=>∃ (k:Nat) (t:Bool) (rk:IM) (p:Int) (pa:Option Addr) (l ca:Nat),kv= .int .i64 (k:Int)∧tv= .bool t∧k≤n∧Hid (elim (n - k) k rk p t=R)∧Hid (rk.fits n c (grow S k))∧Hid (p≠0)∧Hid (sz 1000000000 p.natAbs≤grow S k) ∧
  Hid (RowsF wr w.heap.size B off n (fun i=>rk.getD i []))∧Hid (Box wr w.heap.size #[.slice pa l ca,.bool (decide (p<0))] 112)∧Hid (Mag wr (.slice pa l ca) p.natAbs)∧Hid (Near w wr B)) (fun kv _ _=>n - (intOf kv).toNat)
 case atStart=>exact ⟨0,false,rs,1,_,_,_,rfl,rfl,by omega,by rw [Nat.sub_zero];exact ER,HF,zh zd,HZ1,HR1,HP1,HM1,HN1⟩
 case round =>
  clear HR1 HN1 HP1 HM1 HF ER Ew1 HZ1
  obtain ⟨k,t,rk,p,pa,l,ca,rfl,rfl,hk,HE,HF,H0,HZ,HR,HP,HM,HN⟩:=hrel
  obtain ⟨wo,hwo⟩:∃ y,y=wr:=⟨_,rfl⟩
  subst hwo
  have cP:=HP.out.cell
  have fP:=HP.out.free
  have lP:=HP.out.lt
  have lB:=HR.out.lt
  rcases Nat.lt_or_ge k n with hlt|hge
  ·have hlt2:(k:Int)<(n:Int):=by omega
   go_wp2_with fail
   go_step3
   go_wp2_with fail
   go_step3
   go_wp2_with fail
   go_loopw [6,5] (fun iv av wr=>∃ i:Nat,iv= .int .i64 (i:Int)∧av= .int .i64 (-1)∧k≤i∧i≤n∧wr=wo∧Hid (∀ j,k≤j→j<i→rk.at j k=0)) (fun iv _ _=>n - (intOf iv).toNat)
   case atStart=>exact ⟨k,rfl,rfl,Nat.le_refl _,by omega,rfl,zh (fun j h1 h2=>by omega)⟩
   case round =>
    obtain ⟨i,rfl,rfl,hki,hin,hwr,H0s⟩:=hrel
    subst hwr
    rcases Nat.lt_or_ge i n with hli|hgi
    ·have hli2:(i:Int)<(n:Int):=by omega
     obtain ⟨a,cc,ci,hl1,hl2,hiv,hoff⟩:=HR.out.get hli
     obtain ⟨f1,f2,f3⟩:=HF.out
     obtain ⟨b,o,pe,ne,ce,rfl, -, lb,ce1,ce2,hme⟩:=hiv.elem hoff (show k<(rk.getD i []).length by rw [f2 i hli];omega)
     rw [f2 i hli] at hl1 ci
     have HME:=zh hme
     have HAT:Hid ((rk.getD i []).getD k 0=rk.at i k):=zh rfl
     rw [HAT.out] at HME
     have hkc:k<c:=by omega
     clear hiv hoff hme f1 f2 f3
     go_wp2_with fail
     refine (zero_ok _ _ _ HME.out).mono ?_
     rintro e w1 ⟨rfl,rfl⟩
     by_cases hz:rk.at i k=0
     ·have HZ0:=zh hz
      have b1:decide ((rk.at i k).natAbs=0)=true:=by rw [hz];rfl
      rw [b1]
      clear hz b1
      go_wp2_with fail
      go_roundw
      case rel=>exact ⟨i+1,by go_num,rfl,by omega,by omega,trivial,zh fun j h1 h2=>by
       rcases Nat.lt_or_ge j i with h|h
       ·exact H0s.out j h1 h
       ·obtain rfl:j=i:=by omega
        exact HZ0.out⟩
      case measure=>exact zM
     ·have HZ0:=zh hz
      have b1:decide ((rk.at i k).natAbs=0)=false:=by simp [hz]
      have bneg:decide ((i:Int)<0)=false:=by simp
      rw [b1]
      clear b1 hz ci ce1 ce2
      go_upto_if 38 with fail
      obtain ⟨rs1,ER1⟩:∃ y:IM,Hid ((if i=k then rk else swapR rk i k)=y):=⟨_,zh rfl⟩
      obtain ⟨t1,ET1⟩:∃ y:Bool,Hid ((if i=k then t else !t)=y):=⟨_,zh rfl⟩
      go_cut [3] from 13 to 85 (fun tv wx=>tv= .bool t1∧Hid (RowsF wx w.heap.size B off n (fun j=>rs1.getD j []))∧Hid (Box wx w.heap.size #[.slice pa l ca,.bool (decide (p<0))] 112)∧Hid (Mag wx (.slice pa l ca) p.natAbs)∧Hid (Near w wx B))
      case first =>
       by_cases hik:i=k
       ·have b2:((i:Int) != (k:Int))=false:=by simp [hik]
        have EI:=zh hik
        clear hik
        go_wp2_with fail
        go_meet
        case rel =>
         rw [if_pos EI.out] at ER1 ET1
         exact ⟨by rw [ET1.out],by rw [← ER1.out];exact HR,HP,HM,HN⟩
       ·have b2:((i:Int) != (k:Int))=true:=by simp;omega
        have EI:=zh hik
        clear hik
        obtain ⟨ai,cci,ci1, -, -, hiv1,hoff1⟩:=HR.out.get hli
        obtain ⟨ak,cck,ci2, -, -, hiv2,hoff2⟩:=HR.out.get hlt
        have f2:=HF.out.2.1
        rw [f2 i hli] at ci1 hiv1 hoff1
        rw [f2 k hlt] at ci2 hiv2 hoff2
        clear f2
        have HI1:=zh hiv1
        have HI2:=zh hiv2
        have HO1:=zh hoff1
        have HO2:=zh hoff2
        have fB:=HR.out.free
        clear hiv1 hiv2 hoff1 hoff2
        go_wp2_with fail
        refine wp_region_walk [(.pure,0),(.pure,1),(.pure,2),(.pure,3),(.pure,4),(.pure,5),(.pure,6),(.read,7),(.pure,8),(.pure,9),(.pure,10),(.read,11),(.pure,12),(.fin,13),(.fin,14),(.fin,15)] zk zk zR zP ?_
        repeat (first|(refine walk_pure0 rfl rfl fun J h=>?_;go_simp;refine h _ ?_;clear h J)|(refine walk_load rfl rfl rfl rfl fun J h=>?_;go_simp;refine h _ ?_;clear h J;try go_simp))
        refine walk_fin [_,_,_] rfl (fun w2 hb2=>?_)
        have hb2':Below wr.heap.size wr w2:=belA
        replace HR:=zh (HR.out.later hb2')
        replace HI1:=zh (HI1.out.later hb2')
        replace HI2:=zh (HI2.out.later hb2')
        replace HM:=zh (HM.out.later hb2')
        replace HN:=zh (HN.out.below hb2')
        replace HP:=zh (HP.out.later hb2')
        have isB:=HR.out.isT
        replace fB:=HR.out.free
        obtain ⟨_,_,ci1, -⟩:=HR.out.get hli
        obtain ⟨_,_,ci2, -⟩:=HR.out.get hlt
        have hnk:¬ off+i=off+k:=by have:=EI.out;omega
        have hnk2:¬ off+k=off+i:=by omega
        go_wp2_with fail
        go_meet
        case rel =>
         rw [if_neg EI.out] at ER1 ET1
         refine ⟨by rw [ET1.out],zh ?_,zh ((HP.out.setOther _ hne2).setOther _ hne2),zh ((HM.out.setT isB zd).setT isB.setCell zd),zh ((HN.out.set _ _).set _ _)⟩
         refine ((HR.out.set hli HI2.out HO2.out).set hlt (HI1.out.kept (Keep.setCell isB) zd zd) HO1.out).congr fun j hj=>?_
         rw [← ER1.out,swapR_getD HF.out.1 hli hlt hj]
         by_cases e1:j=k
         ·rw [if_pos e1,if_pos e1]
         ·rw [if_neg e1,if_neg e1]
          by_cases e2:j=i
          ·rw [if_pos e2,if_pos e2]
          ·rw [if_neg e2,if_neg e2]
      case rest =>
       obtain ⟨rfl,HR1,HP1,HM1,HN1⟩:=hcut
       clear HR HP HM HN cP fP lP lB lb HME hl1 hl2
       have hf1:rs1.fits n c (grow S k):=by
        rw [← ER1.out]
        split
        ·exact HF.out
        ·exact HF.out.swap hli hlt
       have hp1:rs1.at k k=rk.at i k:=by
        rw [← ER1.out]
        split
        ·rename_i h;rw [h]
        ·exact swapR_get HF.out.1 hli hlt
       have hE1:elim (n - (k+1)) (k+1) (clearCol rs1 k p) (rs1.at k k) t1=R:=by
        rw [← HE.out]
        obtain ⟨m,hm⟩:∃ m,n - k=m+1:=⟨n - k - 1,by omega⟩
        have hm2:n - (k+1)=m:=by omega
        rw [hm,hm2]
        conv=>rhs;unfold elim
        rw [pick_some hki (by rw [HF.out.1];exact hli) (fun j h1 h2=>H0s.out j h1 h2) HZ0.out]
        simp only [ER1.out,ET1.out]
       have HF1:=zh hf1
       have HP0:=zh (show rs1.at k k≠0 by rw [hp1];exact HZ0.out)
       have HE1:=zh hE1
       clear hf1 hp1 hE1 HE HF H0s HZ0 ER1 ET1 HAT bneg
       replace HR1:=zh (HR1.out.congr (g:=mix rs1 k p 0) fun j hj=>(mix_zero _ _ _ _).symm)
       go_wp2_with fail
       go_loopw [57] (fun jv wr=>∃ j:Nat,jv= .int .i64 (j:Int)∧j≤n∧Hid (RowsF wr w.heap.size B off n (mix rs1 k p j))∧Hid (Box wr w.heap.size #[.slice pa l ca,.bool (decide (p<0))] 112)∧Hid (Mag wr (.slice pa l ca) p.natAbs)∧Hid (Near w wr B)) (fun jv _=>n - (intOf jv).toNat)
       case atStart=>exact ⟨0,rfl,by omega,HR1,HP1,HM1,HN1⟩
       case round =>
        clear HR1 HP1 HM1 HN1
        obtain ⟨j,rfl,hj,HR,HP,HM,HN⟩:=hrel
        have cP:=HP.out.cell
        have fP:=HP.out.free
        have lP:=HP.out.lt
        have lB:=HR.out.lt
        obtain ⟨ak,cck,ci2,hcl3,hcl4,hiv2,hoff2⟩:=HR.out.get hlt
        have f2:=HF1.out.2.1
        rw [mix_k,f2 k hlt] at ci2 hcl3 hiv2 hoff2
        rcases Nat.lt_or_ge j n with hlj|hgj
        ·have hlj2:(j:Int)<(n:Int):=by omega
         by_cases hjk:j=k
         ·have b2:((j:Int) != (k:Int))=false:=by simp [hjk]
          have EI:=zh hjk
          clear hjk f2 hiv2 hoff2
          go_wp2_with fail
          exact ⟨⟨j+1,by go_num,by omega,zh (HR.out.congr fun x _=>by rw [EI.out];exact mix_skip _ _ _ _),HP,HM,HN⟩,by simp only [intOf];omega⟩
         ·have b2:((j:Int) != (k:Int))=true:=by simp;omega
          have EI:=zh hjk
          obtain ⟨aj,ccj,ci1,hcl1,hcl2,hiv1,hoff1⟩:=HR.out.get hlj
          rw [mix_self,f2 j hlj] at ci1 hcl1 hiv1 hoff1
          have HI1:=zh hiv1
          have HI2:=zh hiv2
          have hS1:=HS.out
          have hg1:=grow_le (S:=S) (k:=k) zo
          have HCO:Hid (∀ w',Below wr.heap.size wr w'→Calls Tryz.prog 133 #[.slice aj c ccj,.slice ak c cck,.int .i64 (k:Int),.agg #[.slice pa l ca,.bool (decide (p<0))]] w' (fun e w''=>∃ g m cg,e= .returned (.slice (some ⟨g,0,none⟩) m cg)∧w'.heap.size≤g∧Below w'.heap.size w' w''∧IntsV w'' (.slice (some ⟨g,0,none⟩) m cg) (clearRow rs1 k p j))):=zh fun w' hb=>by
           have:=combined_ok _ _ _ (rs1.getD j []) (rs1.getD k []) k p w' (HI1.out.later hb) (HI2.out.later hb) (IntV.of_neg (HM.out.later hb)) (by rw [f2 j hlj,f2 k hlt]) (by rw [f2 j hlj];exact hkc) (by rw [f2 j hlj];exact hc) H0.out (fun i=>Nat.le_trans (HF1.out.2.2 j i) zo) (fun i=>Nat.le_trans (HF1.out.2.2 k i) zo)
           unfold clearRow
           rw [if_neg EI.out]
           exact this
          clear hjk hiv1 hiv2 hoff1 hoff2 f2 hS1 hg1
          go_wp2_with fail
          refine wp_region_walk [(.pure,0),(.pure,1),(.pure,2),(.pure,3),(.pure,4),(.read,5),(.pure,6),(.pure,7),(.pure,8),(.read,9),(.pure,10),(.read,11),(.ext,12),(.pure,13),(.fin,14)] zk zk zR zP ?_
          repeat (first|(refine walk_pure0 rfl rfl fun J h=>?_;go_simp;refine h _ ?_;clear h J)|(refine walk_load rfl rfl rfl rfl fun J h=>?_;go_simp;refine h _ ?_;clear h J;try go_simp))
          refine walk_ext rfl rfl (fun w2 hb2 J hJ=>?_);go_simp
          have hb2':Below wr.heap.size wr w2:=belA
          refine (HCO.out _ hb2').mono ?_
          rintro e w3 ⟨g,m,cg,rfl,hg,hc3,hiv⟩
          have HIV:=zh hiv
          clear hiv
          refine hJ _ _ hc3 ?_
          clear hJ J
          repeat (first|(refine walk_pure0 rfl rfl fun J h=>?_;go_simp;refine h _ ?_;clear h J)|(refine walk_load rfl rfl rfl rfl fun J h=>?_;go_simp;refine h _ ?_;clear h J;try go_simp))
          refine walk_fin [_] rfl (fun w4 hb4=>?_)
          have hb4':Below wr.heap.size wr w4:=Bt (Bt hb2' hc3) hb4
          have hoff:Off w.heap.size (.slice (some ⟨g,0,none⟩) m cg):=by
           intro a m' c' e
           have:=hb2'.size
           cases e
           show g≠w.heap.size
           omega
          replace HR:=zh (HR.out.later hb4')
          replace HIV:=zh (HIV.out.later hb4)
          replace HM:=zh (HM.out.later hb4')
          replace HN:=zh (HN.out.below hb4')
          replace HP:=zh (HP.out.later hb4')
          have HOF:=zh hoff
          have isB:=HR.out.isT
          have fB:=HR.out.free
          obtain ⟨_,_,ci3, -⟩:=HR.out.get hlj
          clear ci1 ci2 cP fP lP hoff hb2 hb4
          go_wp2_with fail
          go_roundw
          case rel =>
           refine ⟨j+1,by go_num,by omega,zh ((HR.out.set hlj HIV.out HOF.out).congr fun x _=>mix_step rs1 k p j x),zh (HP.out.setOther _ hne2),zh (HM.out.setT isB zd),zh (HN.out.set _ _)⟩
          case measure=>exact zM
        ·have hjN:n=j:=by omega
         subst hjN
         replace HR:=zh (HR.out.congr (g:=fun x=>(clearCol rs1 k p).getD x []) fun x hx=>by
          rw [clearCol_getD (by rw [HF1.out.1];exact hx)]
          unfold mix
          rw [if_pos hx])
         have hkl:k<(rs1.getD k []).length:=by rw [f2 k hlt];exact hkc
         obtain ⟨be,oe,pe,ne,ce,rfl,hbe,lbe,ce1,ce2,hme⟩:=hiv2.elem hoff2 hkl
         have HME:=zh hme
         have HAT:Hid ((rs1.getD k []).getD k 0=rs1.at k k):=zh rfl
         rw [HAT.out] at HME ce2
         clear hme hiv2 hoff2 f2 hkl
         go_wp2_with fail
         rw [Exit.noGoto_normal]
         go_wp2_with fail
         have isP:=HP.out.isT
         have hpz:sz 1000000000 (rs1.at k k).natAbs≤grow S (k+1):=by
          have:=HF1.out.2.2 k k
          simp only [grow]
          omega
         refine ⟨⟨k+1,t1,clearCol rs1 k p,rs1.at k k,pe,ne,ce,by go_num,rfl,by omega,HE1,zh (HF1.out.clear p),HP0,zh hpz,zh ((HR.out.setOff isP).setOff isP.setCell),zh ((HP.out.set 0 _).set 1 _),zh ((HME.out.setT isP zd).setT isP.setCell zd),zh ((HN.out.setNew (Nat.le_refl _) _ _).setNew (Nat.le_refl _) _ _)⟩,by simp only [intOf];omega⟩
    ·have hiN:i=n:=by omega
     have hR:R=(0,false,rk):=by
      rw [← HE.out]
      obtain ⟨m,hm⟩:∃ m,n - k=m+1:=⟨n - k - 1,by omega⟩
      rw [hm]
      unfold elim
      rw [pick_none (fun j h1 h2=>H0s.out j h1 (by have:=HF.out.1;omega))]
     have HRR:=zh hR
     clear hR hiN
     go_wp2_with fail
     rw [Exit.noGoto_ret]
     go_wp2_with fail
     refine ret_ct rfl rfl ((HP.out.set 0 _).set 1 _) Tryz.underlying112 rfl zk ?_
     have isP:=HP.out.isT
     refine ⟨_,by rw [HRR.out];rfl,(HN.out.setNew (Nat.le_refl _) _ _).setNew (Nat.le_refl _) _ _,?_,?_⟩
     ·rw [HRR.out]
      exact ⟨none,0,0,rfl,Mag.zero _⟩
     ·rw [HRR.out]
      exact ((HR.out.setOff isP).setOff isP.setCell).rowsB
  ·have hkN:n=k:=by omega
   subst hkN
   have hR:R=(p,t,rk):=by
    rw [← HE.out,Nat.sub_self]
    rfl
   have HRR:=zh hR
   clear hR
   go_wp2_with fail
   refine ret_ct rfl rfl ((HP.out.set 0 _).set 1 _) Tryz.underlying112 rfl zk ?_
   have isP:=HP.out.isT
   refine ⟨_,by rw [HRR.out];rfl,(HN.out.setNew (Nat.le_refl _) _ _).setNew (Nat.le_refl _) _ _,?_,?_⟩
   ·rw [HRR.out]
    exact IntV.of_neg ((HM.out.setT isP zd).setT isP.setCell zd)
   ·rw [HRR.out]
    exact ((HR.out.setOff isP).setOff isP.setCell).rowsB
def elimQ (m:RM):Int × Bool × IM:=elim m.length 0 (ext (m.map rtop)) 1 false
def invQ (m:RM) (i c:Nat):Rat:=(((elimQ m).2.2.at i (m.length+c)*((cden (m.getD c []):Nat):Int):Int):Rat) / (((elimQ m).1:Int):Rat)
def invM (m:RM):RM:=(List.range m.length).map fun i=>(List.range m.length).map (invQ m i)
def invE (m:RM):Int:=if (elimQ m).1=0 then 7 else if allQ (invM m) then 0 else 6
theorem rtop_fits {m:RM} {n:Nat} (h:m.ok n):IM.fits (m.map rtop) m.length n 1000:=by
 obtain ⟨h1,h2,h3,h4,h5⟩:=h
 refine ⟨by simp,fun i hi=>?_,fun i j=>?_⟩
 ·rw [getD_lt (show i<(m.map rtop).length by simpa using hi)]
  simp only [List.getElem_map]
  have:=(h5 m[i] (List.getElem_mem _)).1
  simp [rtop,this]
 ·unfold IM.at
  by_cases hi:i<m.length
  ·rw [getD_lt (show i<(m.map rtop).length by simpa using hi)]
   simp only [List.getElem_map]
   obtain ⟨k1,k2⟩:=h5 m[i] (List.getElem_mem _)
   exact ctop_sz k2 zo j
  ·have e:(m.map rtop).getD i []=[]:=by rw [List.getD_eq_getElem?_getD,List.getElem?_eq_none (by simp;omega)];rfl
   rw [e]
   simp [sz_zero]
theorem elimQ_sz {m:RM} (h:m.ok m.length):(elimQ m).2.2.fits m.length (2*m.length) 16015∧sz 1000000000 (elimQ m).1.natAbs≤16015:=by
 have h1:sz 1000000000 (1:Int).natAbs≤1000:=by
  have:sz 1000000000 (1:Int).natAbs=1:=by decide+kernel
  omega
 obtain ⟨k1,k2⟩:=elim_fits m.length 0 1000 (ext (m.map rtop)) 1 false (ext_fits (rtop_fits h) zo) h1 zo
 have hg:=growE_le (S:=1000) (m:=m.length) h.2.1
 exact ⟨k1.mono hg,Nat.le_trans k2 hg⟩
theorem RowsB.read {w:World} {B off n c:Nat} {rs:IM} (h:RowsB w B off n (fun i=>rs.getD i [])) {S:Nat} (hf:rs.fits n c S) {i j:Nat} (hi:i<n) (hj:j<c) :
  ∃ b o cc pa l ca,B<w.heap.size∧w.cell? ⟨B,off+i,none⟩=some (.slice (some ⟨b,o,none⟩) c cc)∧b<w.heap.size∧w.cell? ⟨b,o+j*2,none⟩=some (.slice pa l ca)∧w.cell? ⟨b,o+j*2+1,none⟩=some (.bool (decide (rs.at i j<0)))∧Mag w (.slice pa l ca) (rs.at i j).natAbs:=by
 obtain ⟨arr,h1,h2⟩:=h
 obtain ⟨v,k1,k2⟩:=h2 i hi
 have hl:(rs.getD i []).length=c:=hf.2.1 i hi
 obtain ⟨a,cc,rfl,k4,k5,k6⟩:=k2.read
 obtain ⟨b,o,pa,l,ca,rfl,g1,g2,g3,g4⟩:=k6 j (by rw [hl];exact hj)
 rw [hl] at k1
 exact ⟨b,o,cc,pa,l,ca,h1.lt,(h1.cell _).trans k1,g1,g2,g3,g4⟩
theorem Inverse_main (va:Value) (ma:RM) (w:World) (ha:MatV w va ma.fr) (oka:ma.ok ma.length) (ht:Bld.Pow w) :
  Calls Tryz.prog 37 #[va] w (MatPost w (invE ma) (invM ma).fr):=by
 have oka':=oka
 obtain ⟨a1,a4,b1,b4,harows⟩:=oka
 obtain ⟨ba,offa,capa,a0,cap0,rfl,lba,ca0⟩:=MatV.head ha zo
 have hwa:(ma.headD []).length=ma.length:=by
  cases ma with
  | nil=>simp at a1
  | cons r t=>exact (harows r zi).1
 rw [hwa] at ca0
 have HC1:=zh (fun w' hx=>Check_ok _ ma.fr w' (ha.later hx))
 rw [oka'.chk] at HC1
 have HRA:=zh (fun w' hx=>read_ok _ ma w' (ha.later hx) a4 (fun r hr=>⟨by have:=(harows r hr).1;omega,(harows r hr).2⟩))
 have hfit:=rtop_fits oka'
 have hesz:=elimQ_sz oka'
 have hext:=ext_fits hfit zo
 have HXT:=zh (fun v w' (hx:RowsI w' v (ma.map rtop))=>extended_ok v (ma.map rtop) ma.length w' hx zi hfit.2.1 a1 a4)
 have HEL:=zh (fun B w' (hx:RowsB w' B 0 ma.length (fun i=>(ext (ma.map rtop)).getD i []))=>eliminate_ok B 0 ma.length (2*ma.length) ma.length 1000 (ext (ma.map rtop)) w' hx hext a1 a4 zo zo zo zo (Nat.le_refl _) zo)
 obtain ⟨EL,HELQ⟩:∃ y,Hid (elimQ ma=y):=⟨_,zh rfl⟩
 have hel2:elim ma.length 0 (ext (ma.map rtop)) 1 false=EL:=HELQ.out
 rw [hel2] at HEL
 rw [HELQ.out] at hesz
 obtain ⟨piv,turned,W⟩:=EL
 obtain ⟨E,EE⟩:∃ E:Nat→Nat→Rat,E=invQ ma:=⟨_,rfl⟩
 obtain ⟨er,HER⟩:∃ y:Int,Hid ((if piv=0 then 7 else if allQ (invM ma) then 0 else 6)=y):=⟨_,zh rfl⟩
 have her:invE ma=er:=by
  unfold invE
  rw [HELQ.out]
  exact HER.out
 rw [her]
 have HEE:Hid (∀ i c,((W.at i (ma.length+c)*((cden (ma.getD c []):Nat):Int):Int):Rat) / ((piv:Int):Rat)=E i c):=zh fun i c=>by
  rw [EE]
  unfold invQ
  rw [HELQ.out]
 have HMQ:Hid (∀ i,i<ma.length→(invM ma).getD i []=(List.range ma.length).map (E i)):=zh fun i hi=>by
  rw [EE]
  unfold invM
  simp [hi]
 have HML:Hid ((invM ma).length=ma.length):=zh (by simp [invM])
 obtain ⟨MM,EMM⟩:∃ y:RM,Hid (invM ma=y):=⟨_,zh rfl⟩
 rw [EMM.out] at HER HMQ HML ⊢
 have HAR:=zh harows
 have HSZ:=zh hesz
 have HT:=zh ht
 obtain ⟨n,hna⟩:∃ y,ma.length=y:=⟨_,rfl⟩
 have HNA:=zh hna
 clear ha oka' harows hwa ht EE EMM her hel2 HELQ hfit hesz hext
 rw [hna] at HC1 HRA HXT HEL a1 a4 b1 b4 HMQ HML HAR HSZ HEE ca0 ⊢
 clear hna
 have a0n:0<n:=by omega
 go_enter Tryz.func37,Tryz.ntmps37
 go_wp2_with fail
 refine (HC1.out _ (Below.refl _ _)).mono ?_
 rintro e v1 ⟨rfl,hc1⟩
 have c1:=(hc1.cell (p:=⟨ba,offa,none⟩) lba).trans ca0
 go_wp2_with fail
 refine (HRA.out _ hc1).mono ?_
 rintro e v2 ⟨vt,rfl,hc2,htab⟩
 obtain ⟨pa1,na1,ca1,pa2,na2,ca2,rfl,hra,hma⟩:=htab
 have HRA1:=zh hra
 have HMA1:=zh hma
 have hw2:Below w.heap.size w v2:=Bt hc1 hc2
 clear hra hma c1
 go_wp2_with fail
 have hx2:Below v2.heap.size v2 (v2.alloc (.cells #[.slice pa1 na1 ca1,.slice pa2 na2 ca2] 105)):=belA
 refine (HXT.out _ _ (HRA1.out.later hx2)).mono ?_
 rintro e v3 ⟨B,rfl,hBv,hc3,hrb⟩
 have HRB:=zh hrb
 clear hrb
 go_wp2_with fail
 refine (HEL.out _ _ HRB.out).mono ?_
 rintro e v4 ⟨vp,rfl,hN4,hvp,hrb⟩
 have h34:Below (v2.alloc (.cells #[.slice pa1 na1 ca1,.slice pa2 na2 ca2] 105)).heap.size (v2.alloc (.cells #[.slice pa1 na1 ca1,.slice pa2 na2 ca2] 105)) v4:=Near.toBelow hN4 hc3 hBv
 have h24:Below v2.heap.size v2 v4:=Bt hx2 h34
 have hx4:=Box.later (Box.new v2 #[.slice pa1 na1 ca1,.slice pa2 na2 ca2] 105) h34
 obtain ⟨paHPV,lHPV,caHPV,rfl,HPV⟩:=hvp;replace HPV:=zh HPV
 replace HRB:=zh hrb
 have HX4:=zh hx4
 replace HMA1:=zh (HMA1.out.later h24)
 have hw4:Below w.heap.size w v4:=Bt hw2 h24
 clear hrb hx4 hN4 hc3 hx2 h34 h24 hc1 hc2 hw2 HRA1 HXT HEL HC1 HRA
 go_wp2_with fail
 have hx5:Below v4.heap.size v4 (v4.alloc (.cells #[.slice paHPV lHPV caHPV,.bool (decide (piv<0))] 112)):=belA
 refine (zero_ok _ _ _ (HPV.out.later hx5)).mono ?_
 rintro e v5 ⟨rfl,rfl⟩
 by_cases hp0:piv=0
 ·have b0:decide (piv.natAbs=0)=true:=by simp [hp0]
  have her:er=7:=by rw [← HER.out,if_pos hp0]
  have HE7:=zh her
  rw [b0]
  clear her hp0 b0
  go_wp2_with fail
  go_ret2
  rw [HE7.out]
  exact MatPost.no (Bt hw4 hx5) zd
 ·have b0:decide (piv.natAbs=0)=false:=by simp [hp0]
  have HP0:=zh hp0
  have HER2:Hid ((if allQ MM then 0 else 6)=er):=zh (by rw [← HER.out,if_neg hp0])
  rw [b0]
  clear hp0 b0
  obtain ⟨csm,hcsm,hmk⟩:=made_mat n zo
  have HCS:=zh hcsm
  clear hcsm
  go_wp2_with fail
  obtain ⟨vb,Evb⟩:∃ y,v4.alloc (.cells #[.slice paHPV lHPV caHPV,.bool (decide (piv<0))] 112)=y:=⟨_,rfl⟩
  rw [Evb] at hx5
  have hM:v4.heap.size+1=vb.heap.size:=by rw [← Evb];simp
  have HX6:=zh (HX4.out.later hx5)
  have HX8:Hid (Box vb v4.heap.size #[.slice paHPV lHPV caHPV,.bool (decide (piv<0))] 112):=zh (by rw [← Evb];exact boxA)
  rw [Evb,hM]
  have hwb:Below w.heap.size w vb:=Bt hw4 hx5
  have HPVb:=zh (HPV.out.later hx5)
  have hrbb:RowsB vb B 0 n (fun i=>W.getD i []):=by
   obtain ⟨arr,k1,k2⟩:=HRB.out
   exact ⟨arr,k1.later hx5,fun i hi=>by obtain ⟨v,g1,g2⟩:=k2 i hi;exact ⟨v,g1,g2.later hx5⟩⟩
  have HRBb:=zh hrbb
  obtain ⟨hn2,hr2⟩:=MagsV_read (HMA1.out.later hx5)
  rw [List.length_map,HNA.out] at hn2
  replace hn2:=hn2.symm
  subst hn2
  have HR2:=zh hr2
  have HM:=zh (MFill.start2 (f:=fun i=>((List.range n).map (E i)).map Fr.of) (Box.new vb csm 29) HCS.out)
  have h0b:Below vb.heap.size vb (vb.alloc (.cells csm 29)):=belA
  obtain ⟨X6,EX6⟩:∃ y,v2.heap.size=y:=⟨_,rfl⟩
  obtain ⟨X8,EX8⟩:∃ y,v4.heap.size=y:=⟨_,rfl⟩
  rw [EX6] at HX6 ⊢
  rw [EX8] at HX8 ⊢
  have l6:X6<vb.heap.size:=HX6.out.lt
  have l8:X8<vb.heap.size:=HX8.out.lt
  have csz:=hwb.size
  clear hr2 hrbb HMA1 HRB HPV HX4 hM hw4 hx5 EX6 EX8 hmk HCS Evb
  obtain ⟨csf,hcsf,hmk⟩:=made_frs n zo
  have HCS:=zh hcsf
  clear hcsf
  go_loopw [45] (fun iv wr=>∃ r:Nat,iv= .int .i64 (r:Int)∧r≤n∧Hid (MFill wr vb.heap.size n r (fun i=>((List.range n).map (E i)).map Fr.of))∧Hid (∀ i,i<r→∀ c,c<n→okq (E i c)=true)∧Below vb.heap.size vb wr) (fun iv _=>n - (intOf iv).toNat)
  case atStart=>exact ⟨0,rfl,by omega,HM,zh (fun i h=>by omega),h0b⟩
  case round =>
   clear HM h0b
   obtain ⟨r,rfl,hr,HM,HK,hb⟩:=hrel
   obtain ⟨wo,hwo⟩:∃ y,y=wr:=⟨_,rfl⟩
   subst hwo
   have lM:=HM.out.lt
   rcases Nat.lt_or_ge r n with hlt|hge
   ·have hlt2:(r:Int)<(n:Int):=by omega
    obtain ⟨⟨y1,cy1⟩,fy⟩:=HM.out.cell hlt
    obtain ⟨arrM,bM,hsz, -⟩:=HM.out
    have HBM:=zh bM
    have hrs:r<arrM.size:=by omega
    clear bM hsz
    go_wp2_with fail
    clear cy1 fy
    have hGM:wo.heap.size≠vb.heap.size:=by omega
    have hMG:vb.heap.size≠wo.heap.size:=by omega
    have hBn:Box ((wo.setCell ⟨vb.heap.size,r,none⟩ (.slice (some ⟨wo.heap.size,0,none⟩) n n)).alloc (.cells csf 59 (0,0))) wo.heap.size csf 59:=Box.new_at zi
    have HF:=zh (show Fill _ wo.heap.size 59 n 0 (FrC fun i=>Fr.of (E r i)) from ⟨csf,hBn,HCS.out,fun i hi=>by omega⟩)
    have HB:=zh ((HBM.out.set r (.slice (some ⟨wo.heap.size,0,none⟩) n n)).alloc (.cells csf 59 (0,0)))
    have HN:=zh (((Near.refl wo vb.heap.size).set r (.slice (some ⟨wo.heap.size,0,none⟩) n n)).below (w':=(wo.setCell ⟨vb.heap.size,r,none⟩ (.slice (some ⟨wo.heap.size,0,none⟩) n n)).alloc (.cells csf 59 (0,0))) belA)
    clear hBn
    go_loopw [58] (fun iv wr=>∃ c:Nat,iv= .int .i64 (c:Int)∧c≤n∧Hid (Fill wr wo.heap.size 59 n c (FrC fun i=>Fr.of (E r i)))∧Hid (∀ i,i<c→okq (E r i)=true)∧Hid (Box wr vb.heap.size (arrM.setIfInBounds r (.slice (some ⟨wo.heap.size,0,none⟩) n n)) 29)∧Hid (Near wo wr vb.heap.size)) (fun iv _=>n - (intOf iv).toNat)
    case atStart=>exact ⟨0,rfl,by omega,HF,zh (fun i h=>by omega),HB,HN⟩
    case round =>
     clear HF HB HN
     obtain ⟨c,rfl,hcn,HF,HKc,HB,HN⟩:=hrel
     rcases Nat.lt_or_ge c n with hcl|hcl
     ·have hcl2:(c:Int)<(n:Int):=by omega
      have hbv:Below vb.heap.size vb wr:=HN.out.toBelow hb (Nat.le_refl _)
      obtain ⟨b1,o1,cc1,p1,m1,d1,lB,e1,e2,e3,e4,e5⟩:=RowsB.read HRBb.out HSZ.out.1 hlt (show n+c<2*n by omega)
      obtain ⟨b2,o2,p2,m2,d2,rfl,f2,f3,f4⟩:=HR2.out c (by rw [List.length_map,HNA.out];exact hcl)
      simp only [List.getElem_map] at f4
      rw [Nat.zero_add] at e1
      have q0:=(hbv.cell (p:=⟨B,r,none⟩) lB).trans e1
      have q1:=(hbv.cell (p:=⟨b1,o1+(n+c)*2,none⟩) e2).trans e3
      have q1b:=(hbv.cell (p:=⟨b1,o1+(n+c)*2+1,none⟩) e2).trans e4
      have q2:=(hbv.cell (p:=⟨b2,o2+c,none⟩) f2).trans f3
      have x6:=(HX6.out.later hbv).cell
      have x8:=(HX8.out.later hbv).cell
      have G1:=zh (e5.later hbv)
      have G2:=zh (f4.later hbv)
      have G3:=zh (HPVb.out.later hbv)
      have l0:=Nat.lt_of_lt_of_le lB hbv.size
      have l1:=Nat.lt_of_lt_of_le e2 hbv.size
      have l2:=Nat.lt_of_lt_of_le f2 hbv.size
      have z6:=Nat.lt_of_lt_of_le l6 hbv.size
      have z8:=Nat.lt_of_lt_of_le l8 hbv.size
      obtain ⟨j,hj⟩:∃ j,n+c=j:=⟨_,rfl⟩
      have ej:(n:Int)+(c:Int)=(j:Int):=by omega
      have hj2:j<2*n:=by omega
      have hj3:(j:Int)<2*(n:Int):=by omega
      have hwj:IntKind.i64.wrap (j:Int)=(j:Int):=by rw [IntKind.wrap_i64];omega
      have hcm:c<ma.length:=by rw [HNA.out];exact hcl
      have hcc:=HAR.out ma[c] (List.getElem_mem _)
      have hee:=HEE.out r c
      rw [hj,getD_lt hcm] at hee
      rw [hj] at q1 q1b G1
      have HEQ:=zh hee
      have hlc:=hcc.1
      have hkc:=cden_sz ma[c] hcc.2
      have hk1:=HSZ.out.1.2.2 r j
      have hk2:=HSZ.out.2
      have hsm:=sz_absmul (W.at r j) (cden ma[c])
      clear lB e1 e2 e3 e4 e5 f2 f3 f4 hcc hee hj HX6 HX8 HRBb HR2 HPVb
      generalize ma[c]=cc at *
      clear hcm
      generalize W.at r j=x at *
      generalize cden cc=dc at *
      obtain ⟨z,EZ⟩:∃ y:Int,Hid (x*((dc:Nat):Int)=y):=⟨_,zh rfl⟩
      rw [EZ.out] at HEQ hsm
      have KX:=zh (show sz 1000000000 x.natAbs≤549755813888 by omega)
      have KD:=zh (show sz 1000000000 dc≤549755813888 by omega)
      have KZ:=zh (show sz 1000000000 z.natAbs≤549755813888 by omega)
      have KP:=zh (show sz 1000000000 piv.natAbs≤549755813888 by omega)
      clear hlc hkc hk1 hk2 hsm
      have HW:=HEQ
      obtain ⟨q,EQ⟩:∃ x:Rat,Hid (E r c=x):=⟨_,zh rfl⟩
      rw [EQ.out] at HW
      have HPW:=zh (HT.out.later (Bt hwb hbv))
      have lG:=HF.out.lt
      have lMr:=HB.out.lt
      go_wp2_with fail
      refine wp_region_walk [(.pure,0),(.pure,1),(.pure,2),(.read,3),(.pure,4),(.pure,5),(.pure,6),(.pure,7),(.read,8),(.pure,9),(.read,10),(.pure,11),(.pure,12),(.read,13),(.read,15),(.ext,14),(.ext,16),(.pure,17),(.pure,18),(.pure,19),(.alloc #[.string ⟨#[]⟩,.string ⟨#[]⟩] 59,20),(.fin,21),(.fin,22)] zk zk zR zP ?_
      repeat (first|(refine walk_pure0 rfl rfl fun J h=>?_;go_simp;refine h _ ?_;clear h J)|(refine walk_load rfl rfl rfl rfl fun J h=>?_;go_simp;refine h _ ?_;clear h J;try go_simp))
      refine walk_ext rfl rfl (fun w31 hb31 J hJ=>?_);go_simp
      replace G1:=zh (Mag.carry G1.out magA hb31)
      replace G2:=zh (Mag.carry G2.out magA hb31)
      replace G3:=zh (Mag.carry G3.out magA hb31)
      refine ((scaled_ok _ _ x dc _ (IntV.of_neg magA) magA KX.out KD.out).mono (by rw [EZ.out];exact fun _ _ h=>h)).mono ?_
      rintro e v31 ⟨v,rfl,hc31,hv⟩
      obtain ⟨paHz,lHz,caHz,rfl,Hz⟩:=hv;replace Hz:=zh Hz
      replace G1:=zh (Mag.later G1.out hc31)
      replace G2:=zh (Mag.later G2.out hc31)
      replace G3:=zh (Mag.later G3.out hc31)
      refine hJ _ _ hc31 ?_
      clear hJ J
      have hq2:okq q=true∨okq q=false:=by cases okq q<;>simp
      rcases hq2 with hq2|hq2
      ·have HWR:Hid (Fr.res (Fra.wr q)= .tuple #[.agg #[.string (Fr.of q).n,.string (Fr.of q).d],.int .i64 0]):=zh (by unfold Fra.wr;rw [if_pos hq2];rfl)
       have HOK:=zh hq2
       clear hq2
       obtain ⟨s1,Es1⟩:∃ x:ByteArray,Hid ((Fr.of q).n=x):=⟨_,zh rfl⟩
       obtain ⟨s2,Es2⟩:∃ x:ByteArray,Hid ((Fr.of q).d=x):=⟨_,zh rfl⟩
       rw [Es1.out,Es2.out] at HWR
       refine walk_ext rfl rfl (fun w33 hb33 J hJ=>?_);go_simp
       refine ((write_ok _ _ z piv _ (IntV.of_neg magA) (IntV.of_neg magA) HP0.out KZ.out KP.out (HPW.out.later belA)).mono (by rw [HW.out,HWR.out];exact fun _ _ h=>h)).mono ?_
       rintro e v33 ⟨rfl,hc33⟩
       refine hJ _ _ hc33 ?_
       clear hJ J
       repeat (first|(refine walk_pure0 rfl rfl fun J h=>?_;go_simp;refine h _ ?_;clear h J)|(refine walk_load rfl rfl rfl rfl fun J h=>?_;go_simp;refine h _ ?_;clear h J;try go_simp))
       refine walk_alloc rfl (fun b20 w17 hw17 hNb20 hltb20 hAb20 hxb20=>?_);go_simp;replace hxb20:Box _ _ _ _:=hxb20;have hWb20:w.heap.size≤b20:=(by first|omega|exact Nat.le_trans (Below.size (B:=w.heap.size) belA) hNb20)
       refine walk_fin [_,_] rfl (fun w18 hb18=>?_)
       replace hxb20:=Box.later (hxb20) hb18;replace chxb20:=hxb20.cell;replace fhxb20:=hxb20.free;replace lhxb20:=hxb20.lt
       have hx18:Below wr.heap.size wr w18:=belA
       have hN17:wr.heap.size≤b20:=hNb20
       replace HF:=zh (HF.out.laterF hx18)
       replace HB:=zh (HB.out.later hx18)
       replace HN:=zh (HN.out.below hx18)
       have ne1:wo.heap.size≠b20:=by omega
       have ne2:vb.heap.size≠b20:=by omega
       have ge1:wo.heap.size≤b20:=by omega
       clear q0 q1 q1b q2 x6 x8 hx18 hNb20 HPW
       go_wp2_with fail
       obtain ⟨w19,E19⟩:∃ y,(w18.setCell ⟨b20,0,none⟩ (.string s1)).setCell ⟨b20,1,none⟩ (.string s2)=y:=⟨_,rfl⟩
       replace HF:=zh ((HF.out.other (a:=⟨b20,0,none⟩) (.string s1) ne1).other (a:=⟨b20,1,none⟩) (.string s2) ne1)
       replace HB:=zh ((HB.out.setOther (a:=⟨b20,0,none⟩) (.string s1) ne2).setOther (a:=⟨b20,1,none⟩) (.string s2) ne2)
       replace HN:=zh ((HN.out.setNew ge1 0 (.string s1)).setNew ge1 1 (.string s2))
       have hx17:=(hxb20.set 0 (.string s1)).set 1 (.string s2)
       simp only [List.setIfInBounds_toArray,List.set_cons_zero,List.set_cons_succ] at hx17
       rw [E19] at HF HB HN hx17 ⊢
       clear E19 hxb20 chxb20 fhxb20 lhxb20
       have c17:=hx17.cell
       have l17:=hx17.lt
       have cM:=HB.out.cell r
       rw [Array.getElem?_setIfInBounds,if_pos rfl,if_pos hrs] at cM
       have lM9:=HB.out.lt
       refine wp_region_walk [(.pure,0),(.pure,1),(.pure,2),(.read,3),(.pure,4),(.read,5),(.pure,6),(.fin,7)] zk zk zR zP ?_
       repeat (first|(refine walk_pure0 rfl rfl fun J h=>?_;go_simp;refine h _ ?_;clear h J)|(refine walk_load rfl rfl rfl rfl fun J h=>?_;go_simp;refine h _ ?_;clear h J;try go_simp))
       refine walk_fin [_] rfl (fun w20 hb20=>?_)
       have hx20:Below w19.heap.size w19 w20:=belA
       replace HF:=zh (HF.out.laterF hx20)
       replace HB:=zh (HB.out.later hx20)
       replace HN:=zh (HN.out.below hx20)
       obtain ⟨⟨y1,cy1⟩,⟨y2,cy2⟩,fy⟩:=HF.out.cells hcl
       have lG20:=HF.out.lt
       clear hb20 hx20 c17 l17 cM lM9 hx17
       go_wp2_with fail
       go_roundw
       case rel =>
        refine ⟨c+1,by go_num,by omega,zh (HF.out.step hcl (fun _ _ _ h=>h) ⟨?_,?_⟩),zh fun i hi=>?_,zh ((HB.out.setOther _ hMG).setOther _ hMG),zh ((HN.out.setNew (Nat.le_refl _) _ _).setNew (Nat.le_refl _) _ _)⟩
        ·show Value.string s1= .string (Fr.of (E r c)).n
         rw [EQ.out,Es1.out]
        ·show Value.string s2= .string (Fr.of (E r c)).d
         rw [EQ.out,Es2.out]
        ·rcases Nat.lt_or_ge i c with h|h
         ·exact HKc.out i h
         ·obtain rfl:i=c:=by omega
          rw [EQ.out]
          exact HOK.out
       case measure=>exact zM
      ·have HWR:Hid (Fr.res (Fra.wr q)= .tuple #[.agg #[.string ⟨#[]⟩,.string ⟨#[]⟩],.int .i64 6]):=zh (wr_big hq2)
       have hbad:allQ MM=false:=by
        unfold allQ
        rw [List.all_eq_false]
        refine ⟨MM.getD r [],?_,?_⟩
        ·rw [getD_lt (show r<MM.length by rw [HML.out];exact hlt)]
         exact List.getElem_mem _
        ·rw [HMQ.out r hlt]
         simp only [List.all_map,Bool.not_eq_true]
         rw [List.all_eq_false]
         exact ⟨c,List.mem_range.2 hcl,by simp only [Function.comp];rw [EQ.out,hq2];simp⟩
       have her:er=6:=by rw [← HER2.out,if_neg (by rw [hbad];simp)]
       have HE6:=zh her
       clear hq2 hbad her
       refine walk_ext rfl rfl (fun w33 hb33 J hJ=>?_);go_simp
       refine ((write_ok _ _ z piv _ (IntV.of_neg magA) (IntV.of_neg magA) HP0.out KZ.out KP.out (HPW.out.later belA)).mono (by rw [HW.out,HWR.out];exact fun _ _ h=>h)).mono ?_
       rintro e v33 ⟨rfl,hc33⟩
       refine hJ _ _ hc33 ?_
       clear hJ J
       repeat (first|(refine walk_pure0 rfl rfl fun J h=>?_;go_simp;refine h _ ?_;clear h J)|(refine walk_load rfl rfl rfl rfl fun J h=>?_;go_simp;refine h _ ?_;clear h J;try go_simp))
       refine walk_alloc rfl (fun b20 w17 hw17 hNb20 hltb20 hAb20 hxb20=>?_);go_simp;replace hxb20:Box _ _ _ _:=hxb20;have hWb20:w.heap.size≤b20:=(by first|omega|exact Nat.le_trans (Below.size (B:=w.heap.size) belA) hNb20)
       refine walk_fin [_,_] rfl (fun w18 hb18=>?_)
       replace hxb20:=Box.later (hxb20) hb18;replace chxb20:=hxb20.cell;replace fhxb20:=hxb20.free;replace lhxb20:=hxb20.lt
       have hx18:Below w.heap.size w w18:=Bt (Bt hwb hbv) belA
       have hN17:wr.heap.size≤b20:=hNb20
       have hwr:=(Bt hwb hbv).size
       clear q0 q1 q1b q2 x6 x8
       go_wp2_with fail
       go_ret2
       rw [HE6.out]
       exact MatPost.no ((hx18.setCell (by simp;omega) _).setCell (by simp;omega) _) zd
     ·have hcn2:n=c:=by omega
      subst hcn2
      go_wp2_with fail
      go_roundw
      case rel =>
       have hbv:Below vb.heap.size vb wr:=HN.out.toBelow hb (Nat.le_refl _)
       refine ⟨r+1,by go_num,by omega,zh (HM.out.step (v:=.slice (some ⟨wo.heap.size,0,none⟩) n n) hlt HN.out (fun arr hA=>?_) ?_),zh fun i hi c hc=>?_,hbv⟩
       ·have hAM:arr=arrM:=Fra.Box.uniq hA HBM.out
        rw [hAM]
        exact HB.out
       ·refine Fill.frs (HF.out.congrF fun i hi=>?_) zi zo
        simp [hi]
       ·rcases Nat.lt_or_ge i r with h|h
        ·exact HK.out i h c hc
        ·obtain rfl:i=r:=by omega
         exact HKc.out c hc
      case measure=>exact zM
   ·have hrn:n=r:=by omega
    subst hrn
    have hall:allQ MM=true:=by
     unfold allQ
     rw [List.all_eq_true]
     intro x hx
     obtain ⟨i,hi,rfl⟩:=List.getElem_of_mem hx
     rw [HML.out] at hi
     have e:=HMQ.out i hi
     rw [getD_lt (show i<MM.length by rw [HML.out];exact hi)] at e
     rw [e,List.all_eq_true]
     intro q hq
     obtain ⟨c,hc,rfl⟩:=List.mem_map.1 hq
     exact HK.out i hi c (List.mem_range.1 hc)
    have her:er=0:=by rw [← HER2.out,if_pos hall]
    have hmv:MatV wo (.slice (some ⟨vb.heap.size,0,none⟩) n n) MM.fr:=by
     have e1:MM.fr.length=n:=by unfold RM.fr;rw [List.length_map];exact HML.out
     have:MatV wo (.slice (some ⟨vb.heap.size,0,none⟩) MM.fr.length MM.fr.length) MM.fr:=by
      refine MFill.matV ?_ zo
      rw [e1]
      obtain ⟨arr,k1,k2,k3⟩:=HM.out
      refine ⟨arr,k1,k2,fun i hi=>?_⟩
      have e2:MM.fr.getD i []=((List.range n).map (E i)).map Fr.of:=by
       rw [← HMQ.out i hi]
       simp [RM.fr,show i<List.length MM by rw [HML.out];exact hi]
      show ∃ v,arr[i]? =some v∧Frs wo 59 v (MM.fr.getD i [])
      rw [e2]
      exact k3 i hi
     rw [e1] at this
     exact this
    have HMV:=zh hmv
    have HE0:=zh her
    clear hall hmv her
    go_wp2_with fail
    go_ret2
    rw [HE0.out]
    exact MatPost.yes (Bt hwb hb) HMV.out
def bprod (m:RM):Nat→Nat
 | 0=>1
 | k+1=>bprod m k*cden (m.getD k [])
def detT (m:RM):Int:=if (elim m.length 0 (m.map rtop) 1 false).2.1 then -(elim m.length 0 (m.map rtop) 1 false).1 else (elim m.length 0 (m.map rtop) 1 false).1
def detQ (m:RM):Rat:=((detT m:Int):Rat) / ((bprod m m.length:Nat):Rat)
theorem bprod_pos (m:RM):∀ k,0<bprod m k
 | 0=>by simp [bprod]
 | k+1=>Nat.mul_pos (bprod_pos m k) (cden_facts _).1
theorem bprod_sz {m:RM} {n:Nat} (h:m.ok n):∀ k,k≤m.length→sz 1000000000 (bprod m k)≤300*k+1
 | 0,_=>by
  have:sz 1000000000 1=1:=by decide+kernel
  simp [bprod,this]
 | k+1,hk=>by
  have h1:=bprod_sz h k zo
  have h2:=sz_mul (B:=1000000000) zo (bprod m k) (cden (m.getD k []))
  have h3:=h.2.2.2.2 m[k] (List.getElem_mem _)
  have h4:=cden_sz m[k] h3.2
  have h5:=h.2.2.2.1
  rw [getD_lt (show k<m.length by omega)] at h2
  simp only [bprod]
  rw [getD_lt (show k<m.length by omega)]
  have:=h3.1
  omega
theorem RowsI_B {w:World} {v:Value} {rs:IM} (h:RowsI w v rs) (h0:0<rs.length) :
  ∃ b off cap,v= .slice (some ⟨b,off,none⟩) rs.length cap∧rs.length≤cap∧cap≤9223372036854775807∧b<w.heap.size∧RowsB w b off rs.length (fun i=>rs.getD i []):=by
 obtain ⟨rv,hR,hl,hF⟩:=h
 rcases hR.cases with ⟨rfl,rfl⟩|⟨b,off,cap,arr,rfl,k1,k2,k3,k4⟩
 ·simp at hl;omega
 ·refine ⟨b,off,cap,by rw [hl],by omega,k2,k3.lt,arr,k3,fun i hi=>?_⟩
  have hi2:i<rv.length:=by omega
  refine ⟨rv[i],k4 i hi2,?_⟩
  simp only
  rw [getD_lt hi]
  exact hF i hi hi2
theorem MagsV.near {w w':World} {M:Nat} {v:Value} {ds:List Nat} (h:MagsV w v ds) (k:Near w w' M) (hM:IsT w M 114):MagsV w' v ds:=by
 obtain ⟨cs,hM⟩:=hM
 have row:∀ {T:TypeId} {v:Value} {xs:List Value},T≠114→Row w T v xs→Row w' T v xs:=fun hT h=>by
  obtain ⟨a,cap,h1,h2,h3,h4,h5⟩:=h
  refine ⟨a,cap,h1,h2,h3,h4,fun ad had=>?_⟩
  obtain ⟨h6,arr,h7,h8⟩:=h5 ad had
  have h7':Box w ad.block arr _:=h7
  exact ⟨h6,arr,k.box h7' (h7'.ne hM hT),h8⟩
 obtain ⟨rs,h1,h2⟩:=h
 exact ⟨rs,row zd h1,h2.mono fun _ _ h=>row zd h⟩
theorem Det_main (va:Value) (ma:RM) (w:World) (ha:MatV w va ma.fr) (oka:ma.ok ma.length) (ht:Bld.Pow w) :
  Calls Tryz.prog 35 #[va] w (fun e w'=>e= .returned (Fr.res (Fra.wr (detQ ma)))∧Below w.heap.size w w'):=by
 have oka':=oka
 obtain ⟨a1,a4,b1,b4,harows⟩:=oka
 obtain ⟨ba,offa,capa,a0,cap0,rfl,lba,ca0⟩:=MatV.head ha zo
 have hwa:(ma.headD []).length=ma.length:=by
  cases ma with
  | nil=>simp at a1
  | cons r t=>exact (harows r zi).1
 rw [hwa] at ca0
 have HC1:=zh (fun w' hx=>Check_ok _ ma.fr w' (ha.later hx))
 rw [oka'.chk] at HC1
 have HRA:=zh (fun w' hx=>read_own _ ma w' (ha.later hx) a4 (fun r hr=>⟨by have:=(harows r hr).1;omega,(harows r hr).2⟩))
 have hfit:=rtop_fits oka'
 have h1sz:sz 1000000000 (1:Int).natAbs≤1000:=by
  have:sz 1000000000 (1:Int).natAbs=1:=by decide+kernel
  omega
 have hesz:=(elim_fits ma.length 0 1000 (ma.map rtop) 1 false hfit h1sz zo).2
 have hg:=growE_le (S:=1000) (m:=ma.length) a4
 have HEL:=zh (fun B off cap w' (hx:RowsB w' B off ma.length (fun i=>(ma.map rtop).getD i [])) (h1:ma.length≤cap) (h2:cap≤9223372036854775807)=>eliminate_ok B off ma.length ma.length cap 1000 (ma.map rtop) w' hx hfit a1 a4 (Nat.le_refl _) zo zo zo h1 h2)
 have hdt:detT ma=if (elim ma.length 0 (ma.map rtop) 1 false).2.1 then -(elim ma.length 0 (ma.map rtop) 1 false).1 else (elim ma.length 0 (ma.map rtop) 1 false).1:=rfl
 have hdq:detQ ma=((detT ma:Int):Rat) / ((bprod ma ma.length:Nat):Rat):=rfl
 obtain ⟨EL,HELQ⟩:∃ y,Hid (elim ma.length 0 (ma.map rtop) 1 false=y):=⟨_,zh rfl⟩
 rw [HELQ.out] at HEL hesz hdt
 obtain ⟨piv,turned,W⟩:=EL
 have HSP:=zh (show sz 1000000000 piv.natAbs≤549755813888 by have h:=hesz;simp only at h;omega)
 have HDT:Hid (detT ma=if turned then -piv else piv):=zh hdt
 have HBP:=zh (bprod_sz oka')
 have HB0:=zh (bprod_pos ma)
 have HBS:Hid (∀ k,bprod ma k*cden (ma.getD k [])=bprod ma (k+1)):=zh fun k=>rfl
 have HCS:Hid (∀ k,k<ma.length→sz 1000000000 (cden (ma.getD k []))≤1099511627776):=zh fun k hk=>by
  rw [getD_lt hk]
  have h3:=harows ma[k] (List.getElem_mem _)
  have h4:=cden_sz ma[k] h3.2
  have:=h3.1
  omega
 have HAR:=zh harows
 have HT:=zh ht
 obtain ⟨q,HQ⟩:∃ y,Hid (detQ ma=y):=⟨_,zh rfl⟩
 rw [HQ.out] at hdq ⊢
 have HDQ:=zh hdq
 obtain ⟨R,HWR⟩:∃ y,Hid (Fr.res (Fra.wr q)=y):=⟨_,zh rfl⟩
 rw [HWR.out]
 obtain ⟨n,hna⟩:∃ y,ma.length=y:=⟨_,rfl⟩
 have HNA:=zh hna
 clear ha oka' harows hwa ht hdt hdq hesz hfit hg h1sz HELQ
 rw [hna] at HC1 HRA HEL a1 a4 b1 b4 HDQ HBP HCS ca0 ⊢
 clear hna
 have a0n:0<n:=by omega
 have hmf:∀ (fn:Fn) (first cap:Array Value) (w:World),(Instr.makeFunc fn first cap).run Tryz.prog w= .ok (.func fn first cap) w:=fun _ _ _ _=>rfl
 go_enter Tryz.func35,Tryz.ntmps35
 go_wp2_with fail
 obtain ⟨w0,Ew0⟩:∃ y,w.alloc (.cells #[.string ⟨#[]⟩,.string ⟨#[]⟩] 59)=y:=⟨_,rfl⟩
 have hw0:Below w.heap.size w w0:=by rw [← Ew0];exact belA
 have BR:Box w0 w.heap.size #[.string ⟨#[]⟩,.string ⟨#[]⟩] 59:=by rw [← Ew0];exact boxA
 rw [Ew0]
 clear Ew0
 refine (HC1.out _ hw0).mono ?_
 rintro e v1 ⟨rfl,hc1⟩
 replace BR:=BR.later hc1
 have hw1:Below w.heap.size w v1:=Bt hw0 hc1
 have c1:=(hw1.cell (p:=⟨ba,offa,none⟩) lba).trans ca0
 go_wp2_with fail
 refine (HRA.out _ hw1).mono ?_
 rintro e v2 ⟨vt,rfl,hc2,htab,hfr⟩
 obtain ⟨pa1,na1,ca1,pa2,na2,ca2,rfl,hra,hma⟩:=htab
 obtain ⟨B,offB,capB,e1,g1,g2,lB,hrb⟩:=RowsI_B hra (by rw [List.length_map,HNA.out];exact a0n)
 rw [List.length_map,HNA.out] at e1 g1 hrb
 simp only [Value.slice.injEq] at e1
 obtain ⟨e1,e2,e3⟩:=e1
 replace e2:=e2.symm
 subst e1 e2 e3
 have hBv:v1.heap.size≤B:=hfr _ _ _ _ rfl
 have BR1:=BR
 replace BR:=BR.later hc2
 have HRB:=zh hrb
 have HMA:=zh hma
 have hw2:Below w.heap.size w v2:=Bt hw1 hc2
 have hs1:=hw1.size
 have lBR:=BR.lt
 have isB:IsT v2 B 114:=by obtain ⟨arr,k, -⟩:=hrb;exact k.isT
 clear hra hma hrb hfr c1
 go_wp2_with fail
 have hx2:Below v2.heap.size v2 (v2.alloc (.cells #[.slice (some ⟨B,offB,none⟩) n ca1,.slice pa2 na2 ca2] 105)):=belA
 have hrb2:RowsB (v2.alloc (.cells #[.slice (some ⟨B,offB,none⟩) n ca1,.slice pa2 na2 ca2] 105)) B offB n (fun i=>(ma.map rtop).getD i []):=by
  obtain ⟨arr,k1,k2⟩:=HRB.out
  exact ⟨arr,k1.later hx2,fun i hi=>by obtain ⟨v,g1,g2⟩:=k2 i hi;exact ⟨v,g1,g2.later hx2⟩⟩
 refine (HEL.out _ _ _ _ hrb2 g1 g2).mono ?_
 rintro e v3 ⟨vp,rfl,hN3,hvp, -⟩
 have h13:Below v1.heap.size v1 v3:=Near.toBelow hN3 (Bt hc2 hx2) hBv
 have hX5:Box v3 v2.heap.size #[.slice (some ⟨B,offB,none⟩) n ca1,.slice pa2 na2 ca2] 105:=Near.box hN3 (Box.new v2 _ _) zo
 have hma3:=MagsV.near (HMA.out.later hx2) hN3 (isB.later hx2)
 have hw3:Below w.heap.size w v3:=Bt hw1 h13
 replace BR:=BR1.later h13
 replace lBR:=BR.lt
 obtain ⟨paHPV,lHPV,caHPV,rfl,HPV⟩:=hvp;replace HPV:=zh HPV
 obtain ⟨hn2,hr2⟩:=MagsV_read hma3
 rw [List.length_map,HNA.out] at hn2
 replace hn2:=hn2.symm
 subst hn2
 have HR2:=zh hr2
 have hs3:=hw3.size
 obtain ⟨X5,EX5⟩:∃ y,v2.heap.size=y:=⟨_,rfl⟩
 rw [EX5] at hX5 ⊢
 have l5:X5<v3.heap.size:=hX5.lt
 have HX5:=zh hX5
 have HBR:=zh BR
 obtain ⟨dt,Edt⟩:∃ y,Hid (detT ma=y):=⟨_,zh rfl⟩
 rw [Edt.out] at HDT HDQ
 clear hx2 hrb2 hN3 hma3 hr2 isB HMA HRB HEL BR1 BR hX5 hBv lB lBR EX5 h13 hw2 hw1 hw0 hc1 hc2 HC1 HRA hs1 Edt hmf g1 g2
 go_upto_if 36 with fail
 go_cut [] from 36 (fun wx=>∃ (pa:Option Addr) (l ca:Nat),Hid (Box wx v3.heap.size #[.slice pa l ca,.bool (decide (dt<0))] 112)∧Hid (Mag wx (.slice pa l ca) dt.natAbs)∧Below v3.heap.size v3 wx)
 case first =>
  have hx3:Below v3.heap.size v3 (v3.alloc (.cells #[.slice paHPV lHPV caHPV,.bool (decide (piv<0))] 112)):=belA
  have hb3:=Box.new v3 #[.slice paHPV lHPV caHPV,.bool (decide (piv<0))] 112
  replace HPV:=zh (HPV.out.later hx3)
  rcases turned with _| _
  ·have hd:dt=piv:=HDT.out
   have HD:=zh hd
   clear hd
   go_wp2_with fail
   go_meet
   case rel =>
    rw [HD.out]
    exact ⟨_,_,_,zh hb3,HPV,hx3⟩
  ·have hd:dt= -piv:=HDT.out
   have HD:=zh hd
   clear hd
   go_wp2_with fail
   refine ((opposite_ok _ piv _ (IntV.of_neg HPV.out)).mono (by rw [← HD.out];exact fun _ _ h=>h)).mono ?_
   rintro e v4 ⟨v,rfl,hc4,hv⟩
   obtain ⟨paHD2,lHD2,caHD2,rfl,HD2⟩:=hv;replace HD2:=zh HD2
   have hb4:=hb3.later hc4
   have cb4:=hb4.cell
   have fb4:=hb4.free
   have is4:=hb4.isT
   go_wp2_with fail
   go_meet
   case rel =>
    exact ⟨_,_,_,zh ((hb4.set 0 _).set 1 _),zh ((HD2.out.setT is4 zd).setT is4.setCell zd),((Bt hx3 hc4).setCell (Nat.le_refl _) _).setCell (Nat.le_refl _) _⟩
 case rest =>
  obtain ⟨pa,l,ca,HP7,HM7,hb3⟩:=hcut
  have hm9:Mag (wc.alloc (.cells #[.int .u32 1] 65)) (.slice (some ⟨wc.heap.size,0,none⟩) 1 1) 1:=Mag.lit (d:=1) zo zo
  have HM9:=zh hm9
  clear hm9
  have c5:=(HX5.out.later hb3).cell
  have l5c:=(HX5.out.later hb3).lt
  go_wp2_with fail
  obtain ⟨v5,Ev5⟩:∃ y,wc.alloc (.cells #[.int .u32 1] 65)=y:=⟨_,rfl⟩
  have h35:Below v3.heap.size v3 v5:=by rw [← Ev5];exact Bt hb3 belA
  have h45:Below wc.heap.size wc v5:=by rw [← Ev5];exact belA
  replace HP7:=zh (HP7.out.later h45)
  replace HM7:=zh (HM7.out.later h45)
  rw [Ev5] at HM9 ⊢
  clear Ev5 c5 l5c hb3 h45
  go_loopw [43,9] (fun iv bv wr=>∃ (k:Nat) (pb:Option Addr) (lb cb:Nat),iv= .int .i64 (k:Int)∧bv= .slice pb lb cb∧k≤n∧Hid (Mag wr (.slice pb lb cb) (bprod ma k))∧Below v5.heap.size v5 wr) (fun iv _ _=>n - (intOf iv).toNat)
  case atStart=>exact ⟨0,_,_,_,rfl,rfl,by omega,HM9,Below.refl _ _⟩
  case round =>
   obtain ⟨k,pb,lb,cb,rfl,rfl,hk,HMB,hb⟩:=hrel
   rcases Nat.lt_or_ge k n with hlt|hge
   ·have hlt2:(k:Int)<(n:Int):=by omega
    obtain ⟨b2,o2,p2,m2,d2,rfl,f2,f3,f4⟩:=HR2.out k (by rw [List.length_map,HNA.out];exact hlt)
    simp only [List.getElem_map] at f4
    have h3r:Below v3.heap.size v3 wr:=Bt h35 hb
    have q2:=(h3r.cell (p:=⟨b2,o2+k,none⟩) f2).trans f3
    have l2:=Nat.lt_of_lt_of_le f2 h3r.size
    have G2:=zh (f4.later h3r)
    have hgd:=getD_lt (d:=[]) (show k<ma.length by rw [HNA.out];exact hlt)
    rw [← hgd] at G2
    have K1:=zh (Nat.le_trans (HBP.out k zo) (show 300*k+1≤1099511627776 by omega))
    have K2:=zh (HCS.out k hlt)
    have HBK:=zh (HBS.out k)
    clear f2 f3 f4 hgd HR2
    generalize cden (ma.getD k [])=dc at *
    go_wp2_with fail
    refine ((times_ok _ _ (bprod ma k) dc _ HMB.out G2.out K1.out K2.out).mono (by rw [HBK.out];exact fun _ _ h=>h)).mono ?_
    rintro e v6 ⟨v,rfl,hc6,hv⟩
    obtain ⟨paH6,lH6,caH6,rfl⟩:=hv.slice;have H6:=zh hv;clear hv
    go_wp2_with fail
    go_roundw
    case rel=>exact ⟨k+1,_,_,_,by go_num,rfl,by omega,H6,Bt hb hc6⟩
    case measure=>exact zM
   ·have hkn:n=k:=by omega
    subst hkn
    have h3r:Below v3.heap.size v3 wr:=Bt h35 hb
    have hP7:=HP7.out.later hb
    have c7:=hP7.cell
    have l7:=hP7.lt
    replace HM7:=zh (HM7.out.later hb)
    have HBRr:=zh (HBR.out.later h3r)
    have hD0:=HB0.out n
    have hDZ:=HBP.out n (Nat.le_refl _)
    generalize bprod ma n=D at *
    have SD:Hid (sgd D false=((D:Nat):Int)):=zh rfl
    have KD:Hid (sz 1000000000 ((D:Nat):Int).natAbs≤549755813888):=zh (by rw [Int.natAbs_natCast];omega)
    have ND:Hid (((D:Nat):Int)≠0):=zh zo
    have HDQ2:Hid (((dt:Int):Rat) / ((((D:Nat):Int)):Rat)=q):=zh (by rw [Rat.intCast_natCast];exact HDQ.out.symm)
    have KT:Hid (sz 1000000000 dt.natAbs≤549755813888):=zh (by
     rw [HDT.out]
     split
     ·rw [Int.natAbs_neg];exact HSP.out
     ·exact HSP.out)
    have HPW:=zh (HT.out.later (Bt hw3 h3r))
    clear hD0 hDZ
    have hq2:okq q=true∨okq q=false:=by cases okq q<;>simp
    rcases hq2 with hq2|hq2
    ·have HWR2:Hid (R= .tuple #[.agg #[.string (Fr.of q).n,.string (Fr.of q).d],.int .i64 0]):=zh (by rw [← HWR.out];unfold Fra.wr;rw [if_pos hq2];rfl)
     clear hq2
     obtain ⟨s1,Es1⟩:∃ x:ByteArray,Hid ((Fr.of q).n=x):=⟨_,zh rfl⟩
     obtain ⟨s2,Es2⟩:∃ x:ByteArray,Hid ((Fr.of q).d=x):=⟨_,zh rfl⟩
     rw [Es1.out,Es2.out] at HWR2
     go_wp2_with fail
     refine wp_region_walk [(.read,0),(.pure,1),(.ext,2),(.ext,3),(.pure,4),(.pure,5),(.fin,6),(.fin,7)] zk zk zR zP ?_
     repeat (first|(refine walk_pure0 rfl rfl fun J h=>?_;go_simp;refine h _ ?_;clear h J)|(refine walk_load rfl rfl rfl rfl fun J h=>?_;go_simp;refine h _ ?_;clear h J;try go_simp))
     refine walk_ext rfl rfl (fun w31 hb31 J hJ=>?_);go_simp
     replace HMB:=zh (Mag.carry HMB.out magA hb31)
     replace HM7:=zh (Mag.carry HM7.out magA hb31)
     refine ((signed_ok _ D false _ magA).mono (by rw [SD.out];exact fun _ _ h=>h)).mono ?_
     rintro e v31 ⟨v,rfl,hc31,hv⟩
     obtain ⟨paHs,lHs,caHs,rfl,Hs⟩:=hv;replace Hs:=zh Hs
     replace HMB:=zh (Mag.later HMB.out hc31)
     replace HM7:=zh (Mag.later HM7.out hc31)
     refine hJ _ _ hc31 ?_
     clear hJ J
     refine walk_ext rfl rfl (fun w32 hb32 J hJ=>?_);go_simp
     refine ((write_ok _ _ dt ((D:Nat):Int) _ (IntV.of_neg magA) (IntV.of_neg magA) ND.out KT.out KD.out (HPW.out.later belA)).mono (by rw [HDQ2.out,HWR.out,HWR2.out];exact fun _ _ h=>h)).mono ?_
     rintro e v32 ⟨rfl,hc32⟩
     refine hJ _ _ hc32 ?_
     clear hJ J
     repeat (first|(refine walk_pure0 rfl rfl fun J h=>?_;go_simp;refine h _ ?_;clear h J)|(refine walk_load rfl rfl rfl rfl fun J h=>?_;go_simp;refine h _ ?_;clear h J;try go_simp))
     refine walk_fin [_,_] rfl (fun w9 hb9=>?_)
     have hx9:Below wr.heap.size wr w9:=belA
     have hbr:=HBRr.out.later hx9
     have cbr:=hbr.cell
     have fbr:=hbr.free
     go_wp2_with fail
     refine ret_ct rfl rfl ((hbr.set 0 _).set 1 _) Tryz.underlying59 rfl zk ?_
     exact ⟨by rw [HWR2.out];rfl,((Bt (Bt hw3 h3r) hx9).setCell zi _).setCell zi _⟩
    ·have HWR2:Hid (R= .tuple #[.agg #[.string ⟨#[]⟩,.string ⟨#[]⟩],.int .i64 6]):=zh (by rw [← HWR.out];exact wr_big hq2)
     clear hq2
     go_wp2_with fail
     refine wp_region_walk [(.read,0),(.pure,1),(.ext,2),(.ext,3),(.pure,4),(.pure,5),(.fin,6),(.fin,7)] zk zk zR zP ?_
     repeat (first|(refine walk_pure0 rfl rfl fun J h=>?_;go_simp;refine h _ ?_;clear h J)|(refine walk_load rfl rfl rfl rfl fun J h=>?_;go_simp;refine h _ ?_;clear h J;try go_simp))
     refine walk_ext rfl rfl (fun w31 hb31 J hJ=>?_);go_simp
     replace HMB:=zh (Mag.carry HMB.out magA hb31)
     replace HM7:=zh (Mag.carry HM7.out magA hb31)
     refine ((signed_ok _ D false _ magA).mono (by rw [SD.out];exact fun _ _ h=>h)).mono ?_
     rintro e v31 ⟨v,rfl,hc31,hv⟩
     obtain ⟨paHs,lHs,caHs,rfl,Hs⟩:=hv;replace Hs:=zh Hs
     replace HMB:=zh (Mag.later HMB.out hc31)
     replace HM7:=zh (Mag.later HM7.out hc31)
     refine hJ _ _ hc31 ?_
     clear hJ J
     refine walk_ext rfl rfl (fun w32 hb32 J hJ=>?_);go_simp
     refine ((write_ok _ _ dt ((D:Nat):Int) _ (IntV.of_neg magA) (IntV.of_neg magA) ND.out KT.out KD.out (HPW.out.later belA)).mono (by rw [HDQ2.out,HWR.out,HWR2.out];exact fun _ _ h=>h)).mono ?_
     rintro e v32 ⟨rfl,hc32⟩
     refine hJ _ _ hc32 ?_
     clear hJ J
     repeat (first|(refine walk_pure0 rfl rfl fun J h=>?_;go_simp;refine h _ ?_;clear h J)|(refine walk_load rfl rfl rfl rfl fun J h=>?_;go_simp;refine h _ ?_;clear h J;try go_simp))
     refine walk_fin [_,_] rfl (fun w9 hb9=>?_)
     have hx9:Below wr.heap.size wr w9:=belA
     have hbr:=HBRr.out.later hx9
     have cbr:=hbr.cell
     have fbr:=hbr.free
     go_wp2_with fail
     refine ret_ct rfl rfl ((hbr.set 0 _).set 1 _) Tryz.underlying59 rfl zk ?_
     exact ⟨by rw [HWR2.out];rfl,((Bt (Bt hw3 h3r) hx9).setCell zi _).setCell zi _⟩
def qF (a:Fr):Rat:=(rd a).getD 0
theorem qF_of {a:Fr} (h:(rd a).isSome=true):a=Fr.of (qF a)∧okq (qF a)=true:=by
 obtain ⟨q,hq⟩:=Option.isSome_iff_exists.1 h
 unfold qF
 rw [hq]
 exact of_rd hq
def rmQ (m:List (List Fr)):RM:=m.map fun r=>r.map qF
theorem rowQ {r:List Fr} (h:chkL r=0):r=(r.map qF).map Fr.of∧∀ q∈r.map qF,okq q=true:=by
 unfold chkL at h
 split at h
 ·rename_i hh
  rw [List.all_eq_true] at hh
  refine ⟨?_,fun q hq=>?_⟩
  ·rw [List.map_map]
   conv=>lhs;rw [← List.map_id r]
   exact List.map_congr_left fun a ha=>(qF_of (hh a ha)).1
  ·obtain ⟨a,ha,rfl⟩:=List.mem_map.1 hq
   exact (qF_of (hh a ha)).2
 ·cases h
theorem rmQ_of {m:List (List Fr)} (hh:okM m=true):m=(rmQ m).fr∧(rmQ m).ok (m.headD []).length:=by
 unfold okM at hh
 simp only [Bool.and_eq_true,decide_eq_true_eq,List.all_eq_true,beq_iff_eq] at hh
 obtain ⟨⟨⟨⟨h1,h2⟩,h3⟩,h4⟩,h5⟩:=hh
 refine ⟨?_,by simpa [rmQ] using h1,by simpa [rmQ] using h2,h3,h4,fun r hr=>?_⟩
 ·unfold rmQ RM.fr
  rw [List.map_map]
  conv=>lhs;rw [← List.map_id m]
  exact List.map_congr_left fun r hr=>(rowQ (h5 r hr).2).1
 ·obtain ⟨r',hr',rfl⟩:=List.mem_map.1 hr
  exact ⟨by simpa using (h5 r' hr').1,(rowQ (h5 r' hr').2).2⟩
theorem rmQ_len (m:List (List Fr)):(rmQ m).length=m.length:=List.length_map _
theorem rmQ_fr {m:RM} {n:Nat} (h:m.ok n):rmQ m.fr=m:=by
 unfold rmQ RM.fr
 rw [List.map_map]
 conv=>rhs;rw [← List.map_id m]
 refine List.map_congr_left fun r hr=>?_
 show (r.map Fr.of).map qF=r
 rw [List.map_map]
 conv=>rhs;rw [← List.map_id r]
 refine List.map_congr_left fun q hq=>?_
 show qF (Fr.of q)=q
 unfold qF
 rw [rd_of ((h.2.2.2.2 r hr).2 q hq)]
 rfl
theorem MatV.sl {w:World} {v:Value} {m:List (List Fr)} (h:MatV w v m):∃ a c,v= .slice a m.length c:=by
 obtain ⟨rs,hR,hl, -⟩:=h
 obtain ⟨a,cap,e, -⟩:=hR
 exact ⟨a,cap,by rw [e,hl]⟩
theorem chkM_two (m:List (List Fr)):(okM m=true∧chkM m=0)∨(okM m=false∧chkM m=50):=by
 unfold chkM
 cases okM m<;>simp
theorem okM_parts {m:List (List Fr)} (h:okM m=true):1≤m.length∧m.length≤4∧1≤(m.headD []).length∧(m.headD []).length≤4∧∀ r∈m,r.length=(m.headD []).length∧chkL r=0:=by
 unfold okM at h
 simp only [Bool.and_eq_true,decide_eq_true_eq,List.all_eq_true,beq_iff_eq] at h
 obtain ⟨⟨⟨⟨h1,h2⟩,h3⟩,h4⟩,h5⟩:=h
 exact ⟨h1,h2,h3,h4,h5⟩
theorem MatV.top {w:World} {v:Value} {m:List (List Fr)} (h:MatV w v m) (h0:0<m.length) :
  ∃ b off cap a0 cap0,v= .slice (some ⟨b,off,none⟩) m.length cap∧b<w.heap.size∧w.cell? ⟨b,off,none⟩=some (.slice a0 (m.headD []).length cap0):=by
 obtain ⟨b,off,cap,a0,cap0,h1, -, h2,h3⟩:=MatV.first h h0
 exact ⟨b,off,cap,a0,cap0,h1,h2,h3⟩
theorem Transp_at (v:Value) (m:List (List Fr)) (w:World) (h:MatV w v m) :
  Calls Tryz.prog 21 #[v] w (MatPost w (chkM m) (transM m (m.headD []).length)):=by
 have HC:=zh (fun W (hW:Below w.heap.size w W)=>Check_ok v m W (h.later hW))
 obtain ⟨a,cap,rfl⟩:=MatV.sl h
 rcases chkM_two m with ⟨hk,e⟩|⟨hk,e⟩
 ·obtain ⟨k1,k4,k5,k6,k7⟩:=okM_parts hk
  have HT:=zh (fun W (hW:Below w.heap.size w W)=>transposed_ok _ m (m.headD []).length W (h.later hW) k1 k4 k6 (fun r hr=>(k7 r hr).1))
  rw [e] at HC ⊢
  generalize transM m (m.headD []).length=M at *
  clear h hk e k1 k4 k5 k6 k7
  go_enter Tryz.func21,Tryz.ntmps21
  go_wp2_with fail
  refine (HC.out _ (Below.refl _ _)).mono ?_
  rintro e w1 ⟨rfl,hc1⟩
  go_wp2_with fail
  refine (HT.out _ belA).mono ?_
  rintro e w2 ⟨v',rfl,hc2,hm⟩
  have HM:=zh hm
  have HB:=zh (Bt hc1 hc2)
  obtain ⟨pa,ca,rfl⟩:=MatV.sl hm
  clear hm hc1 hc2
  go_wp2_with fail
  go_ret2
  exact MatPost.yes HB.out HM.out
 ·rw [e] at HC ⊢
  clear h hk e
  go_enter Tryz.func21,Tryz.ntmps21
  go_wp2_with fail
  refine (HC.out _ (Below.refl _ _)).mono ?_
  rintro e w1 ⟨rfl,hc1⟩
  go_wp2_with fail
  go_ret2
  exact MatPost.no belA zd
def mulM (a b:List (List Fr)):List (List Fr):=(mulQ (rmQ a) (rmQ b) (b.headD []).length).fr
def mulE (a b:List (List Fr)):Int:=if okM a=true∧okM b=true then (if (a.headD []).length=b.length then (if allQ (mulQ (rmQ a) (rmQ b) (b.headD []).length) then 0 else 6) else 2) else 50
theorem mul_bad (va vb:Value) (a b:List (List Fr)) (w:World) (ha:MatV w va a) (hb:MatV w vb b) (M:List (List Fr)) (h:¬ (okM a=true∧okM b=true)) :
  Calls Tryz.prog 27 #[va,vb] w (MatPost w 50 M):=by
 have HC1:=zh (fun W (hW:Below w.heap.size w W)=>Check_ok va a W (ha.later hW))
 have HC2:=zh (fun W (hW:Below w.heap.size w W)=>Check_ok vb b W (hb.later hW))
 obtain ⟨pa,ca,rfl⟩:=MatV.sl ha
 obtain ⟨pb,cb,rfl⟩:=MatV.sl hb
 rcases chkM_two a with ⟨ka,ea⟩|⟨ka,ea⟩
 ·rcases chkM_two b with ⟨kb,eb⟩|⟨kb,eb⟩
  ·exact absurd ⟨ka,kb⟩ h
  ·rw [ea] at HC1
   rw [eb] at HC2
   clear ha hb ka kb ea eb h
   go_enter Tryz.func27,Tryz.ntmps27
   go_wp2_with fail
   refine (HC1.out _ (Below.refl _ _)).mono ?_
   rintro e v1 ⟨rfl,hc1⟩
   go_wp2_with fail
   refine (HC2.out _ hc1).mono ?_
   rintro e v2 ⟨rfl,hc2⟩
   go_wp2_with fail
   go_ret2
   exact MatPost.no (Bt hc1 hc2) zd
 ·rw [ea] at HC1
  clear ha hb ka ea h HC2
  go_enter Tryz.func27,Tryz.ntmps27
  go_wp2_with fail
  refine (HC1.out _ (Below.refl _ _)).mono ?_
  rintro e v1 ⟨rfl,hc1⟩
  go_wp2_with fail
  go_ret2
  exact MatPost.no hc1 zd
theorem mul_arg (va vb:Value) (a b:List (List Fr)) (w:World) (ha:MatV w va a) (hb:MatV w vb b) (M:List (List Fr)) (ka:okM a=true) (kb:okM b=true) (hne:(a.headD []).length≠b.length) :
  Calls Tryz.prog 27 #[va,vb] w (MatPost w 2 M):=by
 have HC1:=zh (fun W (hW:Below w.heap.size w W)=>Check_ok va a W (ha.later hW))
 have HC2:=zh (fun W (hW:Below w.heap.size w W)=>Check_ok vb b W (hb.later hW))
 have ea:chkM a=0:=by unfold chkM;rw [if_pos ka]
 have eb:chkM b=0:=by unfold chkM;rw [if_pos kb]
 rw [ea] at HC1
 rw [eb] at HC2
 have k1:=(okM_parts ka).1
 obtain ⟨ba,offa,capa,a0,cap0,rfl,lba,ca0⟩:=MatV.top ha zo
 obtain ⟨pb,cb,rfl⟩:=MatV.sl hb
 generalize (a.headD []).length=x at *
 generalize b.length=y at *
 have h0:0<a.length:=by omega
 generalize a.length=na at *
 have hd:((x:Int) != (y:Int))=true:=by simp;omega
 have hd2:decide ((x:Int)=(y:Int))=false:=decide_eq_false zo
 clear ha hb ka kb ea eb k1
 go_enter Tryz.func27,Tryz.ntmps27
 go_wp2_with fail
 refine (HC1.out _ (Below.refl _ _)).mono ?_
 rintro e v1 ⟨rfl,hc1⟩
 go_wp2_with fail
 refine (HC2.out _ hc1).mono ?_
 rintro e v2 ⟨rfl,hc2⟩
 have hw2:Below w.heap.size w v2:=Bt hc1 hc2
 have c1:=(hw2.cell (p:=⟨ba,offa,none⟩) lba).trans ca0
 have l1:ba<v2.heap.size:=Nat.lt_of_lt_of_le lba hw2.size
 clear ca0
 go_wp2_with fail
 go_ret2
 exact MatPost.no hw2 zd
theorem Mul_at (va vb:Value) (a b:List (List Fr)) (w:World) (ha:MatV w va a) (hb:MatV w vb b) (ht:Bld.Pow w) :
  Calls Tryz.prog 27 #[va,vb] w (MatPost w (mulE a b) (mulM a b)):=by
 unfold mulE
 by_cases h:okM a=true∧okM b=true
 ·rw [if_pos h]
  by_cases hl:(a.headD []).length=b.length
  ·rw [if_pos hl]
   obtain ⟨e1,o1⟩:=rmQ_of h.1
   obtain ⟨e2,o2⟩:=rmQ_of h.2
   rw [hl,← rmQ_len b] at o1
   exact mul_main va vb (rmQ a) (rmQ b) (b.headD []).length w (e1 ▸ ha) (e2 ▸ hb) o1 o2 ht
  ·rw [if_neg hl]
   exact mul_arg va vb a b w ha hb _ h.1 h.2 hl
 ·rw [if_neg h]
  exact mul_bad va vb a b w ha hb _ h
def detE (m:List (List Fr)):Fr × Int:=if okM m=true then (if m.length=(m.headD []).length then Fra.wr (detQ (rmQ m)) else (Fr.no,2)) else (Fr.no,50)
theorem det_bad (v:Value) (m:List (List Fr)) (w:World) (h:MatV w v m) (hk:okM m=false) :
  Calls Tryz.prog 35 #[v] w (fun e w'=>e= .returned (Fr.res (Fr.no,50))∧Below w.heap.size w w'):=by
 have HC:=zh (fun W (hW:Below w.heap.size w W)=>Check_ok v m W (h.later hW))
 have e:chkM m=50:=by unfold chkM;rw [hk];rfl
 rw [e] at HC
 obtain ⟨a,cap,rfl⟩:=MatV.sl h
 clear h hk e
 unfold Fr.res Fr.no Fr.v
 go_enter Tryz.func35,Tryz.ntmps35
 go_wp2_with fail
 refine (HC.out _ belA).mono ?_
 rintro e v1 ⟨rfl,hc1⟩
 have BR:=Box.later (Box.new _ _ _) hc1;have cBR:=BR.cell;have fBR:=BR.free;have lBR:=BR.lt
 go_wp2_with fail
 refine ret_ct rfl rfl boxA Tryz.underlying59 rfl zk ?_
 exact ⟨rfl,belA⟩
theorem det_arg (v:Value) (m:List (List Fr)) (w:World) (h:MatV w v m) (hk:okM m=true) (hne:m.length≠(m.headD []).length) :
  Calls Tryz.prog 35 #[v] w (fun e w'=>e= .returned (Fr.res (Fr.no,2))∧Below w.heap.size w w'):=by
 have HC:=zh (fun W (hW:Below w.heap.size w W)=>Check_ok v m W (h.later hW))
 have e:chkM m=0:=by unfold chkM;rw [hk];rfl
 rw [e] at HC
 have k1:=(okM_parts hk).1
 obtain ⟨ba,offa,capa,a0,cap0,rfl,lba,ca0⟩:=MatV.top h zo
 generalize (m.headD []).length=x at *
 have h0:0<m.length:=by omega
 generalize m.length=y at *
 have hd:((y:Int) != (x:Int))=true:=by simp;omega
 have hd2:decide ((y:Int)=(x:Int))=false:=decide_eq_false zo
 clear h hk e k1 hne
 unfold Fr.res Fr.no Fr.v
 go_enter Tryz.func35,Tryz.ntmps35
 go_wp2_with fail
 refine (HC.out _ belA).mono ?_
 rintro e v1 ⟨rfl,hc1⟩
 have BR:=Box.later (Box.new _ _ _) hc1;have cBR:=BR.cell;have fBR:=BR.free;have lBR:=BR.lt
 have hw1:Below w.heap.size w v1:=belA
 have c1:=(hw1.cell (p:=⟨ba,offa,none⟩) lba).trans ca0
 have l1:ba<v1.heap.size:=Nat.lt_of_lt_of_le lba hw1.size
 clear ca0
 go_wp2_with fail
 refine ret_ct rfl rfl boxA Tryz.underlying59 rfl zk ?_
 exact ⟨rfl,belA⟩
theorem Det_at (v:Value) (m:List (List Fr)) (w:World) (h:MatV w v m) (ht:Bld.Pow w) :
  Calls Tryz.prog 35 #[v] w (fun e w'=>e= .returned (Fr.res (detE m))∧Below w.heap.size w w'):=by
 unfold detE
 cases hk:okM m with
 | false=>rw [if_neg zi];exact det_bad v m w h hk
 | true =>
  rw [if_pos rfl]
  by_cases hl:m.length=(m.headD []).length
  ·rw [if_pos hl]
   obtain ⟨e1,o1⟩:=rmQ_of hk
   rw [← hl,← rmQ_len m] at o1
   exact Det_main v (rmQ m) w (e1 ▸ h) o1 ht
  ·rw [if_neg hl]
   exact det_arg v m w h hk hl
def inverseM (m:List (List Fr)):List (List Fr):=(invM (rmQ m)).fr
def inverseE (m:List (List Fr)):Int:=if okM m=true then (if m.length=(m.headD []).length then invE (rmQ m) else 2) else 50
theorem inverse_bad (v:Value) (m:List (List Fr)) (M:List (List Fr)) (w:World) (h:MatV w v m) (hk:okM m=false) :
  Calls Tryz.prog 37 #[v] w (MatPost w 50 M):=by
 have HC:=zh (fun W (hW:Below w.heap.size w W)=>Check_ok v m W (h.later hW))
 have e:chkM m=50:=by unfold chkM;rw [hk];rfl
 rw [e] at HC
 obtain ⟨a,cap,rfl⟩:=MatV.sl h
 clear h hk e
 go_enter Tryz.func37,Tryz.ntmps37
 go_wp2_with fail
 refine (HC.out _ belA).mono ?_
 rintro e v1 ⟨rfl,hc1⟩
 go_wp2_with fail
 go_ret2
 exact MatPost.no hc1 zd
theorem inverse_arg (v:Value) (m:List (List Fr)) (M:List (List Fr)) (w:World) (h:MatV w v m) (hk:okM m=true) (hne:m.length≠(m.headD []).length) :
  Calls Tryz.prog 37 #[v] w (MatPost w 2 M):=by
 have HC:=zh (fun W (hW:Below w.heap.size w W)=>Check_ok v m W (h.later hW))
 have e:chkM m=0:=by unfold chkM;rw [hk];rfl
 rw [e] at HC
 have k1:=(okM_parts hk).1
 obtain ⟨ba,offa,capa,a0,cap0,rfl,lba,ca0⟩:=MatV.top h zo
 generalize (m.headD []).length=x at *
 have h0:0<m.length:=by omega
 generalize m.length=y at *
 have hd:((y:Int) != (x:Int))=true:=by simp;omega
 have hd2:decide ((y:Int)=(x:Int))=false:=decide_eq_false zo
 clear h hk e k1 hne
 go_enter Tryz.func37,Tryz.ntmps37
 go_wp2_with fail
 refine (HC.out _ belA).mono ?_
 rintro e v1 ⟨rfl,hc1⟩
 have c1:=(hc1.cell (p:=⟨ba,offa,none⟩) lba).trans ca0
 have l1:ba<v1.heap.size:=Nat.lt_of_lt_of_le lba hc1.size
 clear ca0
 go_wp2_with fail
 go_ret2
 exact MatPost.no hc1 zd
theorem Inv_at (v:Value) (m:List (List Fr)) (w:World) (h:MatV w v m) (ht:Bld.Pow w) :
  Calls Tryz.prog 37 #[v] w (MatPost w (inverseE m) (inverseM m)):=by
 unfold inverseE
 cases hk:okM m with
 | false=>rw [if_neg zi];exact inverse_bad v m _ w h hk
 | true =>
  rw [if_pos rfl]
  by_cases hl:m.length=(m.headD []).length
  ·rw [if_pos hl]
   obtain ⟨e1,o1⟩:=rmQ_of hk
   rw [← hl,← rmQ_len m] at o1
   exact Inverse_main v (rmQ m) w (e1 ▸ h) o1 ht
  ·rw [if_neg hl]
   exact inverse_arg v m _ w h hk hl
def appQ (m:List (List Fr)) (l:List Fr):List Rat:=(rmQ m).map fun r=>dotQ r (l.map qF)
def appL (m:List (List Fr)) (l:List Fr):List Fr:=(appQ m l).map Fr.of
def appE (m:List (List Fr)) (l:List Fr):Int:=if okM m=true then (if chkL l=0 then (if l.length=(m.headD []).length then (if (appQ m l).all okq then 0 else 6) else 2) else 20) else 50
def LisPost (w:World) (er:Int) (l:List Fr) (e:Ending) (w':World):Prop :=
 Below w.heap.size w w'∧∃ v,e= .returned (.tuple #[v,.int .i64 er])∧(er=0→Frs w' 59 v l)∧(er≠0→v= .slice none 0 0)
theorem LisPost.no {w w':World} {er:Int} {m:List Fr} (hb:Below w.heap.size w w') (he:er≠0):LisPost w er m (.returned (.tuple #[.slice none 0 0,.int .i64 er])) w' :=
 ⟨hb,_,rfl,fun h=>absurd h he,fun _=>rfl⟩
theorem apply_bad (v vl:Value) (m:List (List Fr)) (l L:List Fr) (T:TypeId) (w:World) (h:MatV w v m) (hl:Frs w T vl l) (hk:okM m=false) :
  Calls Tryz.prog 29 #[v,vl] w (LisPost w 50 L):=by
 have HC:=zh (fun W (hW:Below w.heap.size w W)=>Check_ok v m W (h.later hW))
 have e:chkM m=50:=by unfold chkM;rw [hk];rfl
 rw [e] at HC
 obtain ⟨a,cap,rfl⟩:=MatV.sl h
 obtain ⟨al,cl,rfl, -⟩:=hl.read
 clear h hk e hl
 go_enter Tryz.func29,Tryz.ntmps29
 go_wp2_with fail
 refine (HC.out _ belA).mono ?_
 rintro e v1 ⟨rfl,hc1⟩
 go_wp2_with fail
 go_ret2
 exact LisPost.no hc1 zd
theorem apply_frac (v vl:Value) (m:List (List Fr)) (l L:List Fr) (T:TypeId) (w:World) (h:MatV w v m) (hl:Frs w T vl l) (hk:okM m=true) (hc:¬ chkL l=0) :
  Calls Tryz.prog 29 #[v,vl] w (LisPost w 20 L):=by
 have HC:=zh (fun W (hW:Below w.heap.size w W)=>Check_ok v m W (h.later hW))
 have e:chkM m=0:=by unfold chkM;rw [hk];rfl
 rw [e] at HC
 have HL:=zh (fun W (hW:Below w.heap.size w W)=>checkList_ok vl l T W (hl.later hW))
 have e2:chkL l=20:=by unfold chkL at hc ⊢;split<;>simp_all
 rw [e2] at HL
 obtain ⟨a,cap,rfl⟩:=MatV.sl h
 obtain ⟨al,cl,rfl, -⟩:=hl.read
 clear h hk e hl hc e2
 go_enter Tryz.func29,Tryz.ntmps29
 go_wp2_with fail
 refine (HC.out _ belA).mono ?_
 rintro e v1 ⟨rfl,hc1⟩
 go_wp2_with fail
 refine (HL.out _ hc1).mono ?_
 rintro e v2 ⟨rfl,hc2⟩
 go_wp2_with fail
 go_ret2
 exact LisPost.no (Bt hc1 hc2) zd
theorem apply_arg (v vl:Value) (m:List (List Fr)) (l L:List Fr) (T:TypeId) (w:World) (h:MatV w v m) (hl:Frs w T vl l) (hk:okM m=true) (hc:chkL l=0) (hne:l.length≠(m.headD []).length) :
  Calls Tryz.prog 29 #[v,vl] w (LisPost w 2 L):=by
 have HC:=zh (fun W (hW:Below w.heap.size w W)=>Check_ok v m W (h.later hW))
 have e:chkM m=0:=by unfold chkM;rw [hk];rfl
 rw [e] at HC
 have HL:=zh (fun W (hW:Below w.heap.size w W)=>checkList_ok vl l T W (hl.later hW))
 rw [hc] at HL
 have k1:=(okM_parts hk).1
 obtain ⟨ba,offa,capa,a0,cap0,rfl,lba,ca0⟩:=MatV.top h zo
 obtain ⟨al,cl,rfl, -⟩:=hl.read
 generalize (m.headD []).length=x at *
 have h0:0<m.length:=by omega
 generalize m.length=na at *
 generalize l.length=y at *
 have hd:((y:Int) != (x:Int))=true:=by simp;omega
 have hd2:decide ((y:Int)=(x:Int))=false:=decide_eq_false zo
 clear h hk e hl hc k1 hne
 go_enter Tryz.func29,Tryz.ntmps29
 go_wp2_with fail
 refine (HC.out _ belA).mono ?_
 rintro e v1 ⟨rfl,hc1⟩
 go_wp2_with fail
 refine (HL.out _ hc1).mono ?_
 rintro e v2 ⟨rfl,hc2⟩
 have hw2:Below w.heap.size w v2:=Bt hc1 hc2
 have c1:=(hw2.cell (p:=⟨ba,offa,none⟩) lba).trans ca0
 have l1:ba<v2.heap.size:=Nat.lt_of_lt_of_le lba hw2.size
 clear ca0
 go_wp2_with fail
 go_ret2
 exact LisPost.no hw2 zd
theorem App_at (v vl:Value) (m:List (List Fr)) (l:List Fr) (T:TypeId) (w:World) (h:MatV w v m) (hl:Frs w T vl l) (ht:Bld.Pow w) :
  Calls Tryz.prog 29 #[v,vl] w (LisPost w (appE m l) (appL m l)):=by
 unfold appE
 cases hk:okM m with
 | false=>rw [if_neg zi];exact apply_bad v vl m l _ T w h hl hk
 | true =>
  rw [if_pos rfl]
  by_cases hc:chkL l=0
  ·rw [if_pos hc]
   by_cases hn:l.length=(m.headD []).length
   ·rw [if_pos hn]
    obtain ⟨e1,o1⟩:=rmQ_of hk
    obtain ⟨e2,o2⟩:=rowQ hc
    have hlen:(l.map qF).length=l.length:=List.length_map _
    rw [← hn,← hlen] at o1
    refine (apply_main v vl (rmQ m) (l.map qF) T w (e1 ▸ h) (e2 ▸ hl) o1 o2 ht).mono fun e w' hp=>?_
    rcases hp with ⟨h1,vo,rfl,h2,h3⟩|⟨h1,rfl,h2⟩
    ·rw [show (appQ m l).all okq=true from h1,if_pos rfl]
     exact ⟨h2,vo,rfl,fun _=>h3,fun h=>absurd rfl h⟩
    ·rw [show (appQ m l).all okq=false from h1,if_neg zi]
     exact LisPost.no h2 zd
   ·rw [if_neg hn]
    exact apply_arg v vl m l _ T w h hl hk hc hn
  ·rw [if_neg hc]
   exact apply_frac v vl m l _ T w h hl hk hc
end Go.Proofs.matrix
namespace Go.Proofs.matrix
open Go Go.RowKit Go.SW Go.Num Go.Mem Go.Proofs Go.Dec Go.Fra band
def nrm (r:(Int × Int) × Int):(Int × Int) × Int:=if r.2=0 then r else ((0,0),r.2)
def bsum (f:Nat→(Int × Int) × Int):Nat→(Int × Int) × Int
 | 0=>nrm (f 0)
 | k+1=>if (bsum f k).2=0 then (if (f (k+1)).2=0 then nrm (addE (bsum f k).1 (f (k+1)).1) else ((0,0),(f (k+1)).2)) else bsum f k
theorem nrm_ok {r:(Int × Int) × Int} (h:r.2=0):nrm r=r:=by unfold nrm;rw [if_pos h]
theorem nrm_no {r:(Int × Int) × Int} (h:¬ r.2=0):nrm r=((0,0),r.2):=by unfold nrm;rw [if_neg h]
theorem bsum_stuck {f:Nat→(Int × Int) × Int} {j:Nat} (h:¬ (bsum f j).2=0):∀ d,bsum f (j+d)=bsum f j
 | 0=>rfl
 | d+1=>by
  show (if (bsum f (j+d)).2=0 then (if (f (j+d+1)).2=0 then nrm (addE (bsum f (j+d)).1 (f (j+d+1)).1) else ((0,0),(f (j+d+1)).2)) else bsum f (j+d))=_
  rw [bsum_stuck h d,if_neg h]
theorem bsum_stuck' {f:Nat→(Int × Int) × Int} {j n:Nat} (h:¬ (bsum f j).2=0) (hn:j≤n):bsum f n=bsum f j:=by
 have:=bsum_stuck h (n - j)
 rwa [Nat.add_sub_cancel' hn] at this
theorem sum_band (b1 b2:Nat) (f:Nat→(Int × Int) × Int) (n:Nat) (w:World) (h0:0<n) (hn:n≤1000)
  (H:Hid (∀ i,i<n→∀ w',Below w.heap.size w w'→Calls Tryz.prog 85 #[.int .i64 (i:Int),.pointer (some ⟨b1,0,none⟩),.pointer (some ⟨b2,0,none⟩)] w' (fun e w''=>e= .returned (bndV (f i))∧Below w'.heap.size w' w''))) :
  Calls Tryz.prog 84 #[.int .i64 (n:Int),.func (.func 85) #[] #[.pointer (some ⟨b1,0,none⟩),.pointer (some ⟨b2,0,none⟩)],.func (.func 88) #[] #[]] w (fun e w'=>e= .returned (bndV (bsum f (n - 1)))∧Below w.heap.size w w'):=by
 obtain ⟨⟨⟨z1,z2⟩,z3⟩,HR⟩:∃ R,Hid (bsum f (n - 1)=R):=⟨_,zh rfl⟩
 rw [HR.out]
 have HF0:=H.out 0 h0
 unfold bndV at HF0 ⊢
 simp only
 obtain ⟨⟨⟨x1,x2⟩,x3⟩,hx⟩:∃ x,f 0=x:=⟨_,rfl⟩
 simp only [hx] at HF0
 have HX:=zh hx
 replace HF0:=zh HF0
 clear hx
 by_cases hc:x3=0
 ·subst hc
  have HP0:Hid (bsum f 0=((x1,x2),0)):=zh (by unfold bsum;rw [HX.out,nrm_ok rfl])
  clear HX
  go_enter Tryz.func84,Tryz.ntmps84
  go_wp2_with fail
  refine (HF0.out _ belA).mono ?_
  rintro e v1 ⟨rfl,hc1⟩
  have BR:=Box.later (Box.alloc (Box.new _ _ _) _) hc1;have cBR:=BR.cell;have fBR:=BR.free;have lBR:=BR.lt
  have BN:=Box.later (Box.at1 _ _ _ _) hc1;have cBN:=BN.cell;have fBN:=BN.free;have lBN:=BN.lt
  go_wp2_with fail
  have hbt:=Box.new v1 #[.int .i64 x1,.int .i64 x2] 69
  have hbr:=BR.alloc (.cells #[.int .i64 x1,.int .i64 x2] 69 (0,0))
  have hbn:=BN.alloc (.cells #[.int .i64 x1,.int .i64 x2] 69 (0,0))
  have hbw:Below w.heap.size w v1:=Bt belA hc1
  have hnd:=lBR
  have hnd2:=lBN
  clear BR cBR fBR lBR BN cBN fBN lBN
  obtain ⟨B9,hB9⟩:∃ b,v1.heap.size=b:=⟨_,rfl⟩
  rw [hB9] at hbt hnd hnd2 ⊢
  have HB9:=zh hB9
  clear hB9
  go_loopw [11] (fun iv wr=>∃ (k:Nat) (t1 t2:Int),iv= .int .i64 (k:Int)∧1≤k∧k≤n∧Hid (bsum f (k - 1)=((t1,t2),0))∧Hid (Box wr B9 #[.int .i64 t1,.int .i64 t2] 69)∧Hid (Box wr w.heap.size #[.int .i64 0,.int .i64 0] 69)∧Hid (Box wr (w.heap.size+1) #[.int .i64 0,.int .i64 0] 69)∧Hid (Below w.heap.size w wr)) (fun iv _=>n - (intOf iv).toNat)
  case atStart=>exact ⟨1,_,_,rfl,by omega,by omega,HP0,zh hbt,zh hbr,zh hbn,zh (Below_alloc hbw _)⟩
  case round =>
   obtain ⟨k,t1,t2,rfl,hk1,hk2,HS,HT,HR0,HN,HB⟩:=hrel
   have ct:=HT.out.cell
   have ft:=HT.out.free
   have lt:=HT.out.lt
   have cr:=HR0.out.cell
   have fr:=HR0.out.free
   have lr:=HR0.out.lt
   have cn:=HN.out.cell
   have fn:=HN.out.free
   have ln:=HN.out.lt
   have hne:w.heap.size≠B9:=by omega
   have hne2:B9≠w.heap.size:=by omega
   have hne3:w.heap.size+1≠B9:=by omega
   have hne4:B9≠w.heap.size+1:=by omega
   rcases Nat.lt_or_ge k n with hlt|hge
   ·have HFk:=H.out k hlt
    unfold bndV at HFk
    obtain ⟨⟨⟨y1,y2⟩,y3⟩,hy⟩:∃ x,f k=x:=⟨_,rfl⟩
    simp only [hy] at HFk
    have HY:=zh hy
    replace HFk:=zh HFk
    clear hy
    by_cases hy3:y3=0
    ·subst hy3
     have HA:=band.Add_ok t1 t2 y1 y2
     unfold bndV at HA
     obtain ⟨⟨⟨a1,a2⟩,a3⟩,ha⟩:∃ x,addE (t1,t2) (y1,y2)=x:=⟨_,rfl⟩
     simp only [ha] at HA
     have HA':=zh HA
     have HN1:Hid (bsum f k=nrm ((a1,a2),a3)):=zh (by
      obtain ⟨j,rfl⟩:∃ j,k=j+1:=⟨k - 1,by omega⟩
      have h1:bsum f j=((t1,t2),0):=HS.out
      unfold bsum
      rw [h1,if_pos rfl,HY.out,if_pos rfl,ha])
     clear HA ha
     by_cases ha3:a3=0
     ·subst ha3
      have HN2:Hid (bsum f k=((a1,a2),0)):=zh (by rw [HN1.out,nrm_ok rfl])
      clear HN1
      go_wp2_with fail
      refine (HFk.out _ HB.out).mono ?_
      rintro e v2 ⟨rfl,hc2⟩
      have ht2:=HT.out.later hc2
      replace ct:=ht2.cell
      replace ft:=ht2.free
      replace lt:=ht2.lt
      have hr2:=HR0.out.later hc2
      replace cr:=hr2.cell
      replace fr:=hr2.free
      replace lr:=hr2.lt
      have hn2:=HN.out.later hc2
      replace cn:=hn2.cell
      replace fn:=hn2.free
      replace ln:=hn2.lt
      have hb2:=Bt HB.out hc2
      go_wp2_with fail
      refine (HA'.out _).mono ?_
      rintro e v3 ⟨rfl,hc3⟩
      have ht3:=(ht2.alloc _).later hc3
      replace ct:=ht3.cell
      replace ft:=ht3.free
      replace lt:=ht3.lt
      have hr3:=(hr2.alloc _).later hc3
      replace cr:=hr3.cell
      replace fr:=hr3.free
      replace lr:=hr3.lt
      have hn3:=(hn2.alloc _).later hc3
      replace cn:=hn3.cell
      replace fn:=hn3.free
      replace ln:=hn3.lt
      have hb3:=Bt (Below_alloc hb2 _) hc3
      clear ht2 hr2 hn2
      go_wp2_with fail
      go_roundw
      case rel =>
       refine ⟨k+1,a1,a2,by go_num,by omega,by omega,HN2,zh ((ht3.set 0 _).set 1 _),zh ((hr3.setOther _ hne).setOther _ hne),zh ((hn3.setOther _ hne3).setOther _ hne3),zh ((hb3.setCell (by simp;omega) _).setCell (by simp;omega) _)⟩
      case measure=>exact zM
     ·have hd:decide (a3=0)=false:=decide_eq_false ha3
      have hR:((z1,z2),z3)=((0,0),a3):=by
       rw [← HR.out]
       have e1:bsum f k=((0,0),a3):=by rw [HN1.out,nrm_no ha3]
       rw [bsum_stuck' (j:=k) (by rw [e1];exact ha3) zo,e1]
      simp only [Prod.mk.injEq] at hR
      obtain ⟨⟨rfl,rfl⟩,rfl⟩:=hR
      clear HN1
      go_wp2_with fail
      refine (HFk.out _ HB.out).mono ?_
      rintro e v2 ⟨rfl,hc2⟩
      have ht2:=HT.out.later hc2
      replace ct:=ht2.cell
      replace ft:=ht2.free
      replace lt:=ht2.lt
      have hr2:=HR0.out.later hc2
      replace cr:=hr2.cell
      replace fr:=hr2.free
      replace lr:=hr2.lt
      have hn2:=HN.out.later hc2
      replace cn:=hn2.cell
      replace fn:=hn2.free
      replace ln:=hn2.lt
      have hb2:=Bt HB.out hc2
      go_wp2_with fail
      refine (HA'.out _).mono ?_
      rintro e v3 ⟨rfl,hc3⟩
      have ht3:=(ht2.alloc _).later hc3
      replace ct:=ht3.cell
      replace ft:=ht3.free
      replace lt:=ht3.lt
      have hr3:=(hr2.alloc _).later hc3
      replace cr:=hr3.cell
      replace fr:=hr3.free
      replace lr:=hr3.lt
      have hn3:=(hn2.alloc _).later hc3
      replace cn:=hn3.cell
      replace fn:=hn3.free
      replace ln:=hn3.lt
      have hb3:=Bt (Below_alloc hb2 _) hc3
      clear ht2 hr2 hn2
      go_wp2_with fail
      refine ret_ct rfl rfl ((((hr3.setOther (a:=⟨B9,0,none⟩) _ hne).setOther (a:=⟨B9,1,none⟩) _ hne).set 0 _).set 1 _) Tryz.underlying69 rfl zk ?_
      exact ⟨rfl,(((hb3.setCell (by simp;omega) _).setCell (by simp;omega) _).setCell zi _).setCell zi _⟩
    ·have hd:decide (y3=0)=false:=decide_eq_false hy3
     have hR:((z1,z2),z3)=((0,0),y3):=by
      rw [← HR.out]
      have e1:bsum f k=((0,0),y3):=by
       obtain ⟨j,rfl⟩:∃ j,k=j+1:=⟨k - 1,by omega⟩
       have h1:bsum f j=((t1,t2),0):=HS.out
       unfold bsum
       rw [h1,if_pos rfl,HY.out,if_neg hy3]
      rw [bsum_stuck' (j:=k) (by rw [e1];exact hy3) zo,e1]
     simp only [Prod.mk.injEq] at hR
     obtain ⟨⟨rfl,rfl⟩,rfl⟩:=hR
     go_wp2_with fail
     refine (HFk.out _ HB.out).mono ?_
     rintro e v2 ⟨rfl,hc2⟩
     have ht2:=HT.out.later hc2
     replace ct:=ht2.cell
     replace ft:=ht2.free
     replace lt:=ht2.lt
     have hr2:=HR0.out.later hc2
     replace cr:=hr2.cell
     replace fr:=hr2.free
     replace lr:=hr2.lt
     have hn2:=HN.out.later hc2
     replace cn:=hn2.cell
     replace fn:=hn2.free
     replace ln:=hn2.lt
     have hb2:=Bt HB.out hc2
     go_wp2_with fail
     refine ret_ct rfl rfl (((hr2.set 0 _).set 1 _).alloc _) Tryz.underlying69 rfl zk ?_
     exact ⟨rfl,Below_alloc ((hb2.setCell zi _).setCell zi _) _⟩
   ·obtain rfl:k=n:=by omega
    have hR:((z1,z2),z3)=((t1,t2),0):=by rw [← HR.out,HS.out]
    simp only [Prod.mk.injEq] at hR
    obtain ⟨⟨rfl,rfl⟩,rfl⟩:=hR
    go_wp2_with fail
    refine ret_ct rfl rfl ((HR0.out.set 0 _).set 1 _) Tryz.underlying69 rfl zk ?_
    exact ⟨rfl,(HB.out.setCell zi _).setCell zi _⟩
 ·have hr:((z1,z2),z3)=((0,0),x3):=by
   rw [← HR.out]
   have e0:bsum f 0=((0,0),x3):=by unfold bsum;rw [HX.out,nrm_no hc]
   rw [bsum_stuck' (j:=0) (by rw [e0];exact hc) zo,e0]
  have hd:decide (x3=0)=false:=decide_eq_false hc
  simp only [Prod.mk.injEq] at hr
  obtain ⟨⟨rfl,rfl⟩,rfl⟩:=hr
  clear HR
  go_enter Tryz.func84,Tryz.ntmps84
  go_wp2_with fail
  refine (HF0.out _ belA).mono ?_
  rintro e v1 ⟨rfl,hc1⟩
  have BR:=Box.later (Box.alloc (Box.new _ _ _) _) hc1;have cBR:=BR.cell;have fBR:=BR.free;have lBR:=BR.lt
  have BN:=Box.later (Box.at1 _ _ _ _) hc1;have cBN:=BN.cell;have fBN:=BN.free;have lBN:=BN.lt
  go_wp2_with fail
  refine ret_ct rfl rfl boxA Tryz.underlying69 rfl zk ?_
  exact ⟨rfl,belA⟩
def termE (a:Fr) (x:Int × Int):(Int × Int) × Int:=if (aroundE a).2=0 then band.mulE (aroundE a).1 x else ((0,0),(aroundE a).2)
theorem bands1_core (b1 b2 b off cap nr b' off' cap' nl i:Nat) (s t:ByteArray) (x1 x2:Int) (w:World) (hb1:Box w b1 #[.slice (some ⟨b,off,none⟩) nr cap] 29) (hb2:Box w b2 #[.slice (some ⟨b',off',none⟩) nl cap'] 63) (h1:i<nr) (h2:i<nl) (hbl:b<w.heap.size) (hbl':b'<w.heap.size)
  (cx1:w.cell? ⟨b,off+i*2,none⟩=some (.string s)) (cx2:w.cell? ⟨b,off+i*2+1,none⟩=some (.string t)) (cy1:w.cell? ⟨b',off'+i*2,none⟩=some (.int .i64 x1)) (cy2:w.cell? ⟨b',off'+i*2+1,none⟩=some (.int .i64 x2)) (ht:Bld.Pow w) (he:whole.Er w) :
  Calls Tryz.prog 85 #[.int .i64 (i:Int),.pointer (some ⟨b1,0,none⟩),.pointer (some ⟨b2,0,none⟩)] w (fun e w'=>e= .returned (bndV (termE ⟨s,t⟩ (x1,x2)))∧Below w.heap.size w w'):=by
 have cb1:=hb1.cell
 have lb1:=hb1.lt
 have HB2:=zh hb2
 have lb2:=hb2.lt
 have HA:Hid (∀ W,Below w.heap.size w W→Calls Tryz.prog 86 #[.agg #[.string s,.string t]] W (fun e w'=>e= .returned (bndV (aroundE ⟨s,t⟩))∧Below W.heap.size W w')):=zh fun W hW=>Around_ok ⟨s,t⟩ W (ht.later hW) (he.later hW)
 have HT:termE ⟨s,t⟩ (x1,x2)=if (aroundE ⟨s,t⟩).2=0 then band.mulE (aroundE ⟨s,t⟩).1 (x1,x2) else ((0,0),(aroundE ⟨s,t⟩).2):=rfl
 rw [HT]
 clear HT hb2 ht he
 generalize aroundE ⟨s,t⟩=r at *
 obtain ⟨⟨y1,y2⟩,y3⟩:=r
 simp only
 by_cases h3:y3=0
 ·subst h3
  rw [if_pos rfl]
  have HM:=zh (fun W=>band.Mul_ok y1 y2 x1 x2 W)
  generalize band.mulE (y1,y2) (x1,x2)=m at *
  obtain ⟨⟨m1,m2⟩,m3⟩:=m
  unfold bndV at *
  simp only at *
  go_enter Tryz.func85,Tryz.ntmps85
  go_wp2_with fail
  refine (HA.out _ belA).mono ?_
  rintro e v1 ⟨rfl,hc1⟩
  have BR:=Box.later (Box.new _ _ _) hc1;have cBR:=BR.cell;have fBR:=BR.free;have lBR:=BR.lt
  go_wp2_with fail
  have hB:Below w.heap.size w v1:=belA
  have hb2:=HB2.out.later hB
  have cb2:=hb2.cell
  replace lb2:=hb2.lt
  have dy1:=(hB.cell (p:=⟨b',off'+i*2,none⟩) hbl').trans cy1
  have dy2:=(hB.cell (p:=⟨b',off'+i*2+1,none⟩) hbl').trans cy2
  have lb':b'<v1.heap.size:=by have:=hB.size;omega
  clear cb1 cx1 cx2 cy1 cy2
  refine wp_region_walk [(.read,0),(.read,1),(.pure,2),(.pure,3),(.read,4),(.ext,5),(.pure,6),(.pure,7),(.fin,8),(.fin,9)] zk zk zR zP ?_
  repeat (first|(refine walk_pure0 rfl rfl fun J h=>?_;go_simp;refine h _ ?_;clear h J)|(refine walk_load rfl rfl rfl rfl fun J h=>?_;go_simp;refine h _ ?_;clear h J;try go_simp))
  refine walk_ext rfl rfl (fun w5 hb5 J hJ=>?_);go_simp
  replace BR:Box _ (w.heap.size) _ _:=Box.later boxA hb5;(try simp only [List.setIfInBounds_toArray,List.set_cons_zero,List.set_cons_succ] at BR);replace cBR:=BR.cell;replace fBR:=BR.free;replace lBR:=BR.lt
  refine (HM.out _).mono ?_
  rintro e v5 ⟨rfl,hc5⟩
  replace BR:=Box.later (BR) hc5;replace cBR:=BR.cell;replace fBR:=BR.free;replace lBR:=BR.lt
  refine hJ _ _ hc5 ?_
  clear hJ J
  repeat (first|(refine walk_pure0 rfl rfl fun J h=>?_;go_simp;refine h _ ?_;clear h J)|(refine walk_load rfl rfl rfl rfl fun J h=>?_;go_simp;refine h _ ?_;clear h J;try go_simp))
  refine walk_fin [_,_] rfl (fun w9 hb9=>?_)
  replace BR:=Box.later (BR) hb9;replace cBR:=BR.cell;replace fBR:=BR.free;replace lBR:=BR.lt
  go_wp2_with fail
  refine ret_ct rfl rfl boxA Tryz.underlying69 rfl zk ?_
  exact ⟨rfl,belA⟩
 ·rw [if_neg h3]
  have hd:decide (y3=0)=false:=decide_eq_false h3
  unfold bndV at *
  simp only at *
  go_enter Tryz.func85,Tryz.ntmps85
  go_wp2_with fail
  refine (HA.out _ belA).mono ?_
  rintro e v1 ⟨rfl,hc1⟩
  have BR:=Box.later (Box.new _ _ _) hc1;have cBR:=BR.cell;have fBR:=BR.free;have lBR:=BR.lt
  go_wp2_with fail
  refine ret_ct rfl rfl boxA Tryz.underlying69 rfl zk ?_
  exact ⟨rfl,belA⟩
theorem bands1_ok (b1 b2:Nat) (vr vl:Value) (row:List Fr) (l:List (Int × Int)) (i:Nat) (w:World) (hr:Frs w 59 vr row) (hl:Bds w 69 vl l) (hb1:Box w b1 #[vr] 29) (hb2:Box w b2 #[vl] 63) (h1:i<row.length) (h2:i<l.length) (ht:Bld.Pow w) (he:whole.Er w) :
  Calls Tryz.prog 85 #[.int .i64 (i:Int),.pointer (some ⟨b1,0,none⟩),.pointer (some ⟨b2,0,none⟩)] w (fun e w'=>e= .returned (bndV (termE row[i] l[i]))∧Below w.heap.size w w'):=by
 obtain ⟨a,cap,rfl,hc1,hc2,hread⟩:=hr.read
 obtain ⟨a',cap',rfl,hc1',hc2',hread'⟩:=hl.read
 obtain ⟨b,off,rfl,hbl,cx1,cx2⟩:=hread i h1
 obtain ⟨b',off',rfl,hbl',cy1,cy2⟩:=hread' i h2
 exact bands1_core b1 b2 b off cap row.length b' off' cap' l.length i _ _ _ _ w hb1 hb2 h1 h2 hbl hbl' cx1 cx2 cy1 cy2 ht he
end Go.Proofs.matrix
namespace Go.Proofs.matrix
open Go Go.RowKit Go.Shelf Go.SW Go.Num Go.Mem Go.Proofs Go.Dec Go.Fra band
attribute [local go_sem] Oper.semAt_some
def rowE (row:List Fr) (l:List (Int × Int)):(Int × Int) × Int:=bsum (fun i=>termE (row.getD i Fr.no) (l.getD i (0,0))) (row.length - 1)
def rowsE:List (List Fr)→List (Int × Int)→List (Int × Int) × Int
 | [],_=>([],0)
 | r::m,l=>if (rowE r l).2=0 then (if (rowsE m l).2=0 then ((rowE r l).1::(rowsE m l).1,0) else ([],(rowsE m l).2)) else ([],(rowE r l).2)
def bandsE (m:List (List Fr)) (l:List (Int × Int)):List (Int × Int) × Int :=
 if okM m then (if l.all (fun x=>bok x.1 x.2) then (if l.length=(m.headD []).length then rowsE m l else ([],2)) else ([],30)) else ([],50)
def BndPost (w:World) (r:List (Int × Int) × Int) (e:Ending) (w':World):Prop:=∃ v,e= .returned (.tuple #[v,.int .i64 r.2])∧Below w.heap.size w w'∧Bds w' 69 v r.1
theorem bands_check (a:Option Addr) (n cap:Nat) (v:Value) (m:List (List Fr)) (w:World) (h:MatV w (.slice a n cap) m) (hk:okM m=false) (p:Option Addr) (k c:Nat) :
  Calls Tryz.prog 41 #[.slice a n cap,.slice p k c] w (BndPost w ([],50)):=by
 have HC:=zh (fun W hW=>Check_ok (.slice a n cap) m W (h.later hW))
 unfold chkM at HC
 rw [hk] at HC
 unfold BndPost
 clear h hk
 go_enter Tryz.func41,Tryz.ntmps41
 go_wp2_with fail
 refine (HC.out _ belA).mono ?_
 rintro e w1 ⟨rfl,hc1⟩
 have B0:=Box.later (Box.alloc (Box.alloc (Box.new _ _ _) _) _) hc1;have cB0:=B0.cell;have fB0:=B0.free;have lB0:=B0.lt
 have BR:=Box.later (Box.alloc (Box.at1 _ _ _ _) _) hc1;have cBR:=BR.cell;have fBR:=BR.free;have lBR:=BR.lt
 have BE:=Box.later (Box.at2 _ _ _ _ _) hc1;have cBE:=BE.cell;have fBE:=BE.free;have lBE:=BE.lt
 go_wp2_with fail
 have hne:w.heap.size+1≠w.heap.size+1+1:=by omega
 have x1:=((BR.set 0 (.slice none 0 0)).setOther (a:=⟨w.heap.size+1+1,0,none⟩) (.int .i64 50) hne).cell 0
 have x2:=(Box.set (BE.setOther (a:=⟨w.heap.size+1,0,none⟩) (.slice none 0 0) hne.symm) 0 (.int .i64 50)).cell 0
 simp at x1 x2
 refine bodyPost_ret (v:=.tuple #[.slice none 0 0,.int .i64 50]) (by simp [results,Tryz.results41,go_sem,x1,x2]) rfl ⟨_,rfl,belA,none,0,rfl,Nat.le_refl _,by omega,fun _ h=>by cases h⟩
def BandsAt (w:World) (p:Option Addr) (nl:Nat) (g:Nat→Int × Int):Prop :=
 ∀ k,k<nl→∃ b off,p=some ⟨b,off,none⟩∧b<w.heap.size∧w.cell? ⟨b,off+k*2,none⟩=some (.int .i64 (g k).1)∧w.cell? ⟨b,off+k*2+1,none⟩=some (.int .i64 (g k).2)
theorem BandsAt.later {w w':World} {p:Option Addr} {nl:Nat} {g:Nat→Int × Int} (h:BandsAt w p nl g) (hb:Below w.heap.size w w'):BandsAt w' p nl g:=fun k hk=>by
 obtain ⟨b,off,h1,h2,h3,h4⟩:=h k hk
 exact ⟨b,off,h1,Nat.lt_of_lt_of_le h2 hb.size,(hb.cell (p:=⟨b,off+k*2,none⟩) h2).trans h3,(hb.cell (p:=⟨b,off+k*2+1,none⟩) h2).trans h4⟩
theorem bands_rows (b off cap a0n:Nat) (a0:Option Addr) (cap0 n nl:Nat) (m:List (List Fr)) (g:Nat→Int × Int) (z:Int) (p:Option Addr) (c:Nat) (w:World) (h:MatV w (.slice (some ⟨b,off,none⟩) n cap) m) (hk:okM m=true) (hl:BandsAt w p nl g) (hc0:w.cell? ⟨b,off,none⟩=some (.slice a0 a0n cap0)) (lb:b<w.heap.size) (hn:0<n)
  (hz:((∃ k,k<nl∧bok (g k).1 (g k).2=false)∧z=30)∨((∀ k,k<nl→bok (g k).1 (g k).2=true)∧nl≠a0n∧z=2)) (h1000:nl≤1000000) :
  Calls Tryz.prog 41 #[.slice (some ⟨b,off,none⟩) n cap,.slice p nl c] w (BndPost w ([],z)):=by
 have HC:=zh (fun W hW=>Check_ok (.slice (some ⟨b,off,none⟩) n cap) m W (h.later hW))
 unfold chkM at HC
 rw [hk,if_pos rfl] at HC
 unfold BndPost
 have HL:=zh hl
 have HZ:=zh hz
 clear h hk hl hz
 go_enter Tryz.func41,Tryz.ntmps41
 go_wp2_with fail
 refine (HC.out _ belA).mono ?_
 rintro e w1 ⟨rfl,hc1⟩
 have B0:=Box.later (Box.alloc (Box.alloc (Box.new _ _ _) _) _) hc1;have cB0:=B0.cell;have fB0:=B0.free;have lB0:=B0.lt
 have BR:=Box.later (Box.alloc (Box.at1 _ _ _ _) _) hc1;have cBR:=BR.cell;have fBR:=BR.free;have lBR:=BR.lt
 have BE:=Box.later (Box.at2 _ _ _ _ _) hc1;have cBE:=BE.cell;have fBE:=BE.free;have lBE:=BE.lt
 have hB1:Below w.heap.size w w1:=belA
 have HL1:=zh (HL.out.later hB1)
 have cc0:=(hB1.cell (p:=⟨b,off,none⟩) lb).trans hc0
 have HC0:=zh cc0
 have lb1:b<w1.heap.size:=Nat.lt_of_lt_of_le lb hB1.size
 clear hc0 lb HL cc0
 go_wp2_with fail
 go_loopw [22] (fun iv wr=>∃ k:Nat,k≤nl∧iv= .int .i64 (k:Int)∧Hid (∀ j,j<k→bok (g j).1 (g j).2=true)∧Hid (Below w1.heap.size w1 wr)) (fun iv _=>nl - (intOf iv).toNat)
 case atStart=>exact ⟨0,by omega,rfl,zh (fun j h=>by omega),zh (Below.refl _ _)⟩
 case round =>
  obtain ⟨k,hk,rfl,HOK,HB⟩:=hrel
  have BR1:=BR.later HB.out
  have BE1:=BE.later HB.out
  rcases Nat.lt_or_ge k nl with hlt|hge
  ·obtain ⟨b',off',hp,lb',cx1,cx2⟩:=HL1.out.later HB.out k hlt
   subst hp
   have HV:=zh (fun W=>band.Check_ok (g k).1 (g k).2 W)
   obtain ⟨bb,hbb⟩:∃ x,bok (g k).1 (g k).2=x:=⟨_,rfl⟩
   rw [hbb] at HV
   have HBB:Hid (∀ j,j=k→bok (g j).1 (g j).2=bb):=zh (by rintro j rfl;exact hbb)
   clear hbb
   generalize (g k).1=y1 at *
   generalize (g k).2=y2 at *
   have lbB:w1.heap.size≤wr.heap.size:=HB.out.size
   cases bb with
   | true =>
    rw [if_pos rfl] at HV
    have cBR:=BR1.cell
    have lBR:=BR1.lt
    have cBE:=BE1.cell
    have lBE:=BE1.lt
    go_wp2_with fail
    refine (HV.out _).mono ?_
    rintro e w2 ⟨rfl,hc2⟩
    have hB2:Below w1.heap.size w1 w2:=Bt (Below_alloc HB.out _) hc2
    go_wp2_with fail
    go_roundw
    case rel =>
     refine ⟨k+1,by omega,by go_num,zh (fun j hj=>?_),zh hB2⟩
     rcases Nat.lt_or_ge j k with h|h
     ·exact HOK.out j h
     ·obtain rfl:j=k:=by omega
      exact HBB.out j rfl
    case measure=>exact zM
   | false =>
    have hz30:z=30:=by
     rcases HZ.out with ⟨_,h⟩|⟨h,_⟩
     ·exact h
     ·have:=h k hlt
      rw [HBB.out k rfl] at this
      cases this
    subst hz30
    rw [if_neg zi] at HV
    go_wp2_with fail
    refine (HV.out _).mono ?_
    rintro e w2 ⟨rfl,hc2⟩
    have hB2':Below w1.heap.size w1 w2:=Bt (Below_alloc HB.out _) hc2
    have hB2:Below w.heap.size w w2:=Bt hB1 hB2'
    have BR2:=BR.later hB2'
    have BE2:=BE.later hB2'
    have cBR:=BR2.cell
    have fBR:=BR2.free
    have lBR:=BR2.lt
    have cBE:=BE2.cell
    have fBE:=BE2.free
    have lBE:=BE2.lt
    go_wp2_with fail
    have hne:w.heap.size+1≠w.heap.size+1+1:=by omega
    have x1:=((BR2.set 0 (.slice none 0 0)).setOther (a:=⟨w.heap.size+1+1,0,none⟩) (.int .i64 30) hne).cell 0
    have x2:=(Box.set (BE2.setOther (a:=⟨w.heap.size+1,0,none⟩) (.slice none 0 0) hne.symm) 0 (.int .i64 30)).cell 0
    simp at x1 x2
    refine bodyPost_ret (v:=.tuple #[.slice none 0 0,.int .i64 30]) (by simp [results,Tryz.results41,go_sem,x1,x2]) rfl ⟨_,rfl,(hB2.setCell zi _).setCell (by simp;omega) _,none,0,rfl,Nat.le_refl _,by omega,fun _ h=>by cases h⟩
  ·obtain rfl:k=nl:=by omega
   have hz2:k≠a0n∧z=2:=by
    rcases HZ.out with ⟨⟨j,h1,h2⟩,_⟩|⟨_,h⟩
    ·rw [HOK.out j h1] at h2
     cases h2
    ·exact h
   obtain ⟨hkn,rfl⟩:=hz2
   have hkn2:decide ((k:Int)=(a0n:Int))=false:=decide_eq_false zo
   have hkn3:((k:Int) != (a0n:Int))=true:=by simp;omega
   have cc:=(HB.out.cell (p:=⟨b,off,none⟩) lb1).trans HC0.out
   have BB1:=B0.later HB.out
   replace cB0:=BB1.cell
   replace lB0:=BB1.lt
   have lbB:w1.heap.size≤wr.heap.size:=HB.out.size
   have lb2:b<wr.heap.size:=by omega
   go_wp2_with fail
   refine wp_region_walk [(.read,0),(.pure,1),(.pure,2),(.pure,3),(.read,4),(.pure,5),(.pure,6)] zk zk zR zP ?_
   repeat (first|(refine walk_pure0 rfl rfl fun J h=>?_;go_simp;refine h _ ?_;clear h J)|(refine walk_load rfl rfl rfl rfl fun J h=>?_;go_simp;refine h _ ?_;clear h J;try go_simp))
   refine walk_nil (fun w2 hw2=>?_)
   have hB2':Below w1.heap.size w1 w2:=Bt (Bt HB.out (Below.drew (Below.refl _ _))) hw2
   have hB2:Below w.heap.size w w2:=Bt hB1 hB2'
   have BR2:=BR.later hB2'
   have BE2:=BE.later hB2'
   replace cBR:=BR2.cell
   replace fBR:=BR2.free
   replace lBR:=BR2.lt
   replace cBE:=BE2.cell
   replace fBE:=BE2.free
   replace lBE:=BE2.lt
   go_wp2_with fail
   have hne:w.heap.size+1≠w.heap.size+1+1:=by omega
   have x1:=((BR2.set 0 (.slice none 0 0)).setOther (a:=⟨w.heap.size+1+1,0,none⟩) (.int .i64 2) hne).cell 0
   have x2:=(Box.set (BE2.setOther (a:=⟨w.heap.size+1,0,none⟩) (.slice none 0 0) hne.symm) 0 (.int .i64 2)).cell 0
   simp at x1 x2
   refine bodyPost_ret (v:=.tuple #[.slice none 0 0,.int .i64 2]) (by simp [results,Tryz.results41,go_sem,x1,x2]) rfl ⟨_,rfl,(hB2.setCell zi _).setCell (by simp;omega) _,none,0,rfl,Nat.le_refl _,by omega,fun _ h=>by cases h⟩
end Go.Proofs.matrix
namespace Go.Proofs.matrix
open Go Go.Num Go.Proofs Go.Fra band
def Good (r:(Int × Int) × Int):Prop:=(r.2=0∧bok r.1.1 r.1.2=true)∨r=((0,0),6)
theorem Good.err {r:(Int × Int) × Int} (h:Good r):r.2=0∨r.2=6:=by
 rcases h with h|rfl
 ·exact .inl h.1
 ·exact .inr rfl
theorem made_good (lo hi:Int):Good (madeE lo hi):=by
 unfold madeE
 cases h:bok lo hi with
 | true=>rw [if_pos rfl];exact .inl ⟨rfl,h⟩
 | false=>rw [if_neg zi];exact .inr rfl
theorem around_is_good {a:Fr} (h:(rd a).isSome=true):Good (aroundE a):=by
 unfold aroundE
 cases e:rd a with
 | none=>rw [e] at h;cases h
 | some q=>exact made_good _ _
theorem two_ok {a b:Int × Int} (ha:bok a.1 a.2=true) (hb:bok b.1 b.2=true):okB [a,b]=true:=by
 unfold okB
 simp only [List.all_cons,List.all_nil,Bool.and_true,Bool.and_eq_true]
 exact ⟨ha,hb⟩
theorem mul_good {a b:Int × Int} (ha:bok a.1 a.2=true) (hb:bok b.1 b.2=true):Good (band.mulE a b):=by
 unfold band.mulE sprE
 rw [if_pos (two_ok ha hb)]
 split
 ·exact made_good _ _
 ·exact .inr rfl
theorem add_good {a b:Int × Int} (ha:bok a.1 a.2=true) (hb:bok b.1 b.2=true):Good (addE a b):=by
 unfold addE
 rw [if_pos (two_ok ha hb)]
 exact made_good _ _
theorem term_good {a:Fr} {x:Int × Int} (h:(rd a).isSome=true) (hx:bok x.1 x.2=true):Good (termE a x):=by
 have h1:=around_is_good h
 unfold termE
 rcases h1 with h1|h1
 ·rw [if_pos h1.1]
  exact mul_good h1.2 hx
 ·rw [h1,if_neg zi]
  exact .inr rfl
theorem nrm_good {r:(Int × Int) × Int} (h:Good r):Good (nrm r):=by
 unfold nrm
 rcases h with h|rfl
 ·rw [if_pos h.1];exact .inl h
 ·exact .inr rfl
theorem bsum_good {f:Nat→(Int × Int) × Int}:∀ k,(∀ i,i≤k→Good (f i))→Good (bsum f k)
 | 0,h=>nrm_good (h 0 (Nat.le_refl _))
 | k+1,h=>by
  have h1:=bsum_good k (fun i hi=>h i zo)
  have h2:=h (k+1) (Nat.le_refl _)
  unfold bsum
  rcases h1 with h1|h1
  ·rw [if_pos h1.1]
   rcases h2 with h2|h2
   ·rw [if_pos h2.1]
    exact nrm_good (add_good h1.2 h2.2)
   ·rw [h2,if_neg zi]
    exact .inr rfl
  ·rw [h1,if_neg zi]
   exact .inr rfl
theorem row_good {row:List Fr} {l:List (Int × Int)} (h:∀ a∈row,(rd a).isSome=true) (hl:∀ x∈l,bok x.1 x.2=true) (h1:1≤row.length) (h2:row.length≤l.length):Good (rowE row l):=by
 unfold rowE
 refine bsum_good _ fun i hi=>?_
 have i1:i<row.length:=by omega
 have i2:i<l.length:=by omega
 have e1:row.getD i Fr.no=row[i]:=by simp [i1]
 have e2:l.getD i (0,0)=l[i]:=by simp [i2]
 rw [e1,e2]
 exact term_good (h _ (List.getElem_mem _)) (hl _ (List.getElem_mem _))
theorem rowsE_ok {m:List (List Fr)} {l:List (Int × Int)} (h:∀ r∈m,(rowE r l).2=0):rowsE m l=(m.map fun r=>(rowE r l).1,0):=by
 induction m with
 | nil=>rfl
 | cons r m ih =>
  unfold rowsE
  rw [if_pos (h r zi),ih (fun x hx=>h x (by simp [hx])),if_pos rfl]
  rfl
theorem rowsE_bad {m:List (List Fr)} {l:List (Int × Int)} (hg:∀ r∈m,Good (rowE r l)) (h:∃ r∈m,(rowE r l).2=6):rowsE m l=([],6):=by
 induction m with
 | nil=>obtain ⟨r,hr,_⟩:=h;cases hr
 | cons r m ih =>
  unfold rowsE
  rcases (hg r zi).err with h1|h1
  ·rw [if_pos h1]
   have h2:∃ x∈m,(rowE x l).2=6:=by
    obtain ⟨x,hx,hx6⟩:=h
    rcases List.mem_cons.1 hx with rfl|hx
    ·rw [h1] at hx6;cases hx6
    ·exact ⟨x,hx,hx6⟩
   rw [ih (fun x hx=>hg x (by simp [hx])) h2,if_neg zi]
  ·rw [if_neg (by rw [h1];simp),h1]
end Go.Proofs.matrix
