/- Lemmas for the proof. No condition. -/
import Derived.Test.YtfhappbmgghgdaaGreatDoorIB01
import Derived.Test.YtfhappbmgghgdaaGreatDoorIB02
import Derived.Test.YtfhappbmgghgdaaGreatDoorIB03
import Derived.Test.YtfhappbmgghgdaaGreatDoorIB10
import Derived.Test.YtfhappbmgghgdaaGreatDoorIB11
import Derived.Test.YtfhappbmgghgdaaGreatDoorIB12
import Derived.Test.YtfhappbmgghgdaaGreatDoorIB13
import Derived.Test.YtfhappbmgghgdaaGreatDoorIB16
import Derived.ChangeKeysEq
set_option linter.unusedVariables false
set_option linter.unusedSimpArgs false
set_option maxRecDepth 100000
set_option maxHeartbeats 16000000
namespace Go.Proofs.aI
open Go Go.RowKit Go.SW Go.Num Go.Mem Go.Proofs Go.Dec Go.dF Go.Proofs.aL
def Vo (l:List Fr):Bool:=l.all fun a=>(rd a).isSome
theorem Lg (l:List Fr):Vo l=(gN l == 0):=by
 unfold Vo gN
 split<;>rename_i h
 ·rw [h];rfl
 ·rw [Bool.not_eq_true] at h;rw [h];rfl
theorem Yn (v:Value) (l:List Fr) (T:TypeId) (w:World) (h:gH w T v l) (hf:∀ x∈l,Fits x) :
  Calls Tryz.prog 55 #[v] w (fun e w'=>e= .returned (.bool (Vo l))∧Below w.heap.size w w'):=by
 obtain ⟨a,cap,rfl,hc1,hc2,hread⟩:=h.read
 have H:=zh hread
 have HF:=zh hf
 clear h hread hf
 go_enter Tryz.func55,Tryz.ntmps55
 go_wp2_with fail
 go_loopw [3] (fun iv wr=>∃ k:Nat,iv= .int .i64 (k:Int)∧k≤l.length∧Hid (∀ j (h:j<l.length),j<k→(rd l[j]).isSome=true)∧Below w.heap.size w wr) (fun iv _=>l.length - (intOf iv).toNat)
 case atStart=>exact ⟨0,rfl,by omega,zh (fun j _ h=>by omega),Below.refl _ _⟩
 case round =>
  obtain ⟨k,rfl,hk,HK,hb⟩:=hrel
  rcases Nat.lt_or_ge k l.length with hlt|hge
  ·obtain ⟨b,off,rfl,hbl,hx1,hx2⟩:=H.out k hlt
   have hc1:=(hb.cell (p:=⟨b,off+k*2,none⟩) hbl).trans hx1
   have hc2:=(hb.cell (p:=⟨b,off+k*2+1,none⟩) hbl).trans hx2
   clear hx1 hx2
   have HRT:=zh (fun W b (h:(rd l[k]).isSome=b)=>ab3 h (HF.out _ (List.getElem_mem hlt)) W)
   generalize hlk:l[k]=lk at *
   have Zq:=zh hlk
   obtain ⟨s,t⟩:=lk
   cases hv:(rd ⟨s,t⟩).isSome with
   | true =>
    have Ca:Hid (∀ w,Calls Tryz.prog 113 #[.agg #[.string s,.string t]] w (fun e w'=>e= .returned (.bool true)∧Below w.heap.size w w')):=zh (fun W=>HRT.out W _ hv)
    have HV:=zh hv
    clear hlk hv
    go_wp2_with fail
    refine (Ca.out _).mono ?_
    rintro e v1 ⟨rfl,hc1⟩
    go_wp2_with fail
    go_roundw
    case rel =>
     refine ⟨k+1,by go_num,by omega,zh fun j hj hjk=>?_,Bt hb belA⟩
     rcases Nat.lt_or_ge j k with h|h
     ·exact HK.out j hj h
     ·obtain rfl:j=k:=by omega
      rw [Zq.out]
      exact HV.out
    case measure=>exact zM
   | false =>
    have Ca:Hid (∀ w,Calls Tryz.prog 113 #[.agg #[.string s,.string t]] w (fun e w'=>e= .returned (.bool false)∧Below w.heap.size w w')):=zh (fun W=>HRT.out W _ hv)
    have hno:Vo l=false:=by
     rw [Bool.eq_false_iff]
     intro h
     have:=List.all_eq_true.1 h l[k] (List.getElem_mem _)
     rw [hlk,hv] at this
     cases this
    have Zp:=zh hno
    clear hlk hv hno
    go_wp2_with fail
    refine (Ca.out _).mono ?_
    rintro e v1 ⟨rfl,hc1⟩
    go_wp2_with fail
    go_ret
    exact ⟨by rw [Zp.out];rfl,Bt hb belA⟩
  ·have hyes:Vo l=true:=by
    unfold Vo
    rw [List.all_eq_true]
    intro x hx
    obtain ⟨j,hj,rfl⟩:=List.getElem_of_mem hx
    exact HK.out j hj zo
   have Pm:=zh hyes
   clear hyes
   obtain rfl:k=l.length:=by omega
   go_wp2_with fail
   go_ret
   exact ⟨by rw [Pm.out];rfl,hb⟩
theorem aP.read {w:World} {v:Value} {m:List (List Fr)} (h:aP w v m):∃ a cap,v= .slice a m.length cap∧m.length≤cap∧cap≤9223372036854775807 ∧
  ∀ k (_:k<m.length),∃ b off a' c',a=some ⟨b,off,none⟩∧b<w.heap.size∧w.cell? ⟨b,off+k,none⟩=some (.slice a' m[k].length c')∧gH w 59 (.slice a' m[k].length c') m[k]:=by
 obtain ⟨rs,hR,hl,hF⟩:=h
 have hR2:=hR
 obtain ⟨a,cap,rfl,h1,h2,h3,h4⟩:=hR2
 refine ⟨a,cap,by rw [hl],by omega,h2,fun k hk=>?_⟩
 have hk':k<rs.length:=by omega
 rcases hR.cases with ⟨-, e⟩|⟨b,off,cap',arr,e, -, -, hx,hc⟩
 ·rw [e] at hk';cases hk'
 ·simp only [Value.slice.injEq] at e
  have hf:=hF k hk' hk
  obtain ⟨a',c',e', -⟩:=hf.read
  rw [e'] at hf
  exact ⟨b,off,a',c',e.1,hx.lt,by rw [hx.cell,hc k hk',e'],hf⟩
def aq7 (n0:Nat) (r:List Fr):Bool:=r.length == n0&&gN r == 0
theorem ac1 {m:List (List Fr)} (h1:1≤m.length) (h4:m.length≤4):kW m=(decide (1≤(m.headD []).length)&&decide ((m.headD []).length≤4)&&m.all (aq7 (m.headD []).length)):=by
 unfold kW
 rw [decide_eq_true h1,decide_eq_true h4]
 rfl
theorem Zd {m:List (List Fr)} (h:0<m.length):(m.headD [])=m[0]:=by
 cases m with
 | nil=>cases h
 | cons r t=>rfl
theorem ac0 {m:List (List Fr)} {k:Nat} (hk:k<m.length) (h:m[k].length<1∨4<m[k].length∨m[k].length≠(m.headD []).length∨Vo m[k]=false):kW m=false:=by
 rw [Bool.eq_false_iff]
 intro e
 unfold kW at e
 simp only [Bool.and_eq_true,decide_eq_true_eq] at e
 obtain ⟨⟨⟨⟨e1,e2⟩,e3⟩,e4⟩,e5⟩:=e
 have:=List.all_eq_true.1 e5 m[k] (List.getElem_mem _)
 simp only [Bool.and_eq_true,beq_iff_eq] at this
 rw [Lg,beq_eq_false_iff_ne] at h
 omega
theorem Wz {m:List (List Fr)} (h1:1≤m.length) (h4:m.length≤4) (h:∀ k (hk:k<m.length),1≤m[k].length∧m[k].length≤4∧m[k].length=(m.headD []).length∧Vo m[k]=true):kW m=true:=by
 rw [ac1 h1 h4]
 have h0:=h 0 zo
 rw [← Zd (m:=m) zo] at h0
 rw [decide_eq_true h0.1,decide_eq_true h0.2.1,Bool.true_and,Bool.true_and,List.all_eq_true]
 intro r hr
 obtain ⟨j,hj,rfl⟩:=List.getElem_of_mem hr
 obtain ⟨-, -, k3,k4⟩:=h j hj
 rw [Lg] at k4
 unfold aq7
 rw [k4,beq_iff_eq.2 k3]
 rfl
def Zu (m:List (List Fr)):Prop:=∀ r∈m,∀ x∈r,Fits x
theorem Right_ok (v:Value) (m:List (List Fr)) (w:World) (h:aP w v m) (hf:Zu m) :
  Calls Tryz.prog 57 #[v] w (fun e w'=>e= .returned (.bool (kW m))∧Below w.heap.size w w'):=by
 obtain ⟨a,cap,rfl,hc1,hc2,hread⟩:=aP.read h
 by_cases hl:m.length<1∨4<m.length
 ·have e:kW m=false:=by
   unfold kW
   rcases hl with hl|hl
   ·rw [decide_eq_false (by omega:¬ 1≤m.length)];rfl
   ·rw [decide_eq_false (by omega:¬ m.length≤4),Bool.and_false];rfl
  rw [e]
  clear hread h hf e
  generalize m.length=n at *
  rcases hl with hl|hl
  ·have q1:decide ((n:Int)<1)=true:=by simp;omega
   clear hl
   go_enter Tryz.func57,Tryz.ntmps57
   go_wp2_with fail
   go_ret
   exact ⟨rfl,belA⟩
  ·have q1:decide ((n:Int)<1)=false:=by simp;omega
   have q2:decide ((4:Int)<(n:Int))=true:=by simp;omega
   clear hl
   go_enter Tryz.func57,Tryz.ntmps57
   go_wp2_with fail
   go_ret
   exact ⟨rfl,belA⟩
 have h1:1≤m.length:=by omega
 have h4:m.length≤4:=by omega
 obtain ⟨b,off,a0,c0,rfl,lb,cell0, -⟩:=hread 0 zo
 have Kk:Hid (∀ k (_:k<m.length),∃ a' c',w.cell? ⟨b,off+k,none⟩=some (.slice a' m[k].length c')∧gH w 59 (.slice a' m[k].length c') m[k]):=zh fun k hk=>by
  obtain ⟨b',off',a',c',e, -, k1,k2⟩:=hread k hk
  simp only [Option.some.injEq,Addr.mk.injEq,and_true] at e
  obtain ⟨rfl,rfl⟩:=e
  exact ⟨a',c',k1,k2⟩
 have Zp:=zh (fun k hk h=>ac0 (m:=m) (k:=k) hk h)
 have Pm:=zh (fun h=>Wz h1 h4 h)
 have HF:=zh hf
 have h0m:0<m.length:=by omega
 have q1:decide ((m.length:Int)<1)=false:=by simp;omega
 have q2:decide ((4:Int)<(m.length:Int))=false:=by simp;omega
 clear h hf hread
 rw [← Zd (m:=m) zo] at cell0
 obtain ⟨n0,hn0⟩:∃ n0,(m.headD []).length=n0:=⟨_,rfl⟩
 rw [hn0] at cell0 Zp Pm
 generalize kW m=z at *
 clear hn0 hl
 go_enter Tryz.func57,Tryz.ntmps57
 go_wp2_with fail
 go_loopw [3] (fun iv wr=>∃ k:Nat,iv= .int .i64 (k:Int)∧k≤m.length∧Hid (∀ j (h:j<m.length),j<k→1≤m[j].length∧m[j].length≤4∧m[j].length=n0∧Vo m[j]=true)∧Below w.heap.size w wr) (fun iv _=>m.length - (intOf iv).toNat)
 case atStart=>exact ⟨0,rfl,by omega,zh (fun j _ h=>by omega),Below.refl _ _⟩
 case round =>
  obtain ⟨k,rfl,hk,HK,hb⟩:=hrel
  rcases Nat.lt_or_ge k m.length with hlt|hge
  ·obtain ⟨a',c',hx1,hx2⟩:=Kk.out k hlt
   have ck:=(hb.cell (p:=⟨b,off+k,none⟩) lb).trans hx1
   have c0:=(hb.cell (p:=⟨b,off,none⟩) lb).trans cell0
   have lb':b<wr.heap.size:=Nat.lt_of_lt_of_le lb hb.size
   have NO:=zh (Zp.out k hlt)
   have LI:=zh (fun W (hW:Below wr.heap.size wr W)=>Yn _ m[k] 59 W ((hx2.later hb).later hW) (HF.out _ (List.getElem_mem hlt)))
   clear hx1 hx2 cell0
   generalize hn:m[k].length=n at *
   have HN:=zh hn
   clear hn
   rcases Nat.lt_or_ge n 1 with h1|h1
   ·have g1:decide ((n:Int)<1)=true:=by simp;omega
    have HZ:=zh (NO.out (.inl h1))
    clear h1
    go_wp2_with fail
    refine aD ((.pure,0)::(.pure,1)::(.pure,2)::(.read,3)::(.pure,4)::(.pure,5)::(.pure,6)::(.pure,7)::(.pure,8)::(.pure,9)::(.read,10)::(.pure,11)::(.pure,12)::(.pure,13)::(.pure,14)::(.pure,15)::(.pure,16)::(.pure,17)::(.read,18)::(.pure,19)::(.pure,20)::(.pure,21)::(.read,22)::(.pure,23)::(.pure,24)::(.pure,25)::(.pure,26)::(.pure,27)::(.pure,28)::(.pure,29)::(.read,30)::(.ext,31)::(.pure,32)::(.pure,33)::[]) zk zk zR zP ?_;refine Wk.out ?_;(iterate 34 (first|(apply wk_skip;(rfl);(rfl);(rfl);(intro J hJ;go_simp;(with_reducible refine hJ _ ?_);clear hJ J))|(apply wk_len;(rfl);(rfl);(rfl);(rfl);(exact zk);(intro J hJ;go_simp;(with_reducible refine hJ _ ?_);clear hJ J))|(apply wk_pure;(rfl);(rfl);(intro J hJ;go_simp;(with_reducible refine hJ _ ?_);clear hJ J))|(apply wk_load;(rfl);(rfl);(rfl);(rfl);(intro J hJ;go_simp;(with_reducible refine hJ _ ?_);clear hJ J;try go_simp))));refine wk_nil fun wf hf=>?_
    go_wp2_with fail
    go_ret
    exact ⟨by rw [HZ.out];rfl,Bt hb belA⟩
   have g1:decide ((n:Int)<1)=false:=by simp;omega
   rcases Nat.lt_or_ge 4 n with h4|h4
   ·have g2:decide ((4:Int)<(n:Int))=true:=by simp;omega
    have HZ:=zh (NO.out (.inr (.inl h4)))
    clear h1 h4
    go_wp2_with fail
    refine aD ((.pure,0)::(.pure,1)::(.pure,2)::(.read,3)::(.pure,4)::(.pure,5)::(.pure,6)::(.pure,7)::(.pure,8)::(.pure,9)::(.read,10)::(.pure,11)::(.pure,12)::(.pure,13)::(.pure,14)::(.pure,15)::(.pure,16)::(.pure,17)::(.read,18)::(.pure,19)::(.pure,20)::(.pure,21)::(.read,22)::(.pure,23)::(.pure,24)::(.pure,25)::(.pure,26)::(.pure,27)::(.pure,28)::(.pure,29)::(.read,30)::(.ext,31)::(.pure,32)::(.pure,33)::[]) zk zk zR zP ?_;refine Wk.out ?_;(iterate 34 (first|(apply wk_skip;(rfl);(rfl);(rfl);(intro J hJ;go_simp;(with_reducible refine hJ _ ?_);clear hJ J))|(apply wk_len;(rfl);(rfl);(rfl);(rfl);(exact zk);(intro J hJ;go_simp;(with_reducible refine hJ _ ?_);clear hJ J))|(apply wk_pure;(rfl);(rfl);(intro J hJ;go_simp;(with_reducible refine hJ _ ?_);clear hJ J))|(apply wk_load;(rfl);(rfl);(rfl);(rfl);(intro J hJ;go_simp;(with_reducible refine hJ _ ?_);clear hJ J;try go_simp))));refine wk_nil fun wf hf=>?_
    go_wp2_with fail
    go_ret
    exact ⟨by rw [HZ.out];rfl,Bt hb belA⟩
   have g2:decide ((4:Int)<(n:Int))=false:=by simp;omega
   by_cases he:n=n0
   rotate_left
   ·have g3:((n:Int) != (n0:Int))=true:=by rw [bne_iff_ne];omega
    have HZ:=zh (NO.out (.inr (.inr (.inl he))))
    clear h1 h4 he
    go_wp2_with fail
    refine aD ((.pure,0)::(.pure,1)::(.pure,2)::(.read,3)::(.pure,4)::(.pure,5)::(.pure,6)::(.pure,7)::(.pure,8)::(.pure,9)::(.read,10)::(.pure,11)::(.pure,12)::(.pure,13)::(.pure,14)::(.pure,15)::(.pure,16)::(.pure,17)::(.read,18)::(.pure,19)::(.pure,20)::(.pure,21)::(.read,22)::(.pure,23)::(.pure,24)::(.pure,25)::(.pure,26)::(.pure,27)::(.pure,28)::(.pure,29)::(.read,30)::(.ext,31)::(.pure,32)::(.pure,33)::[]) zk zk zR zP ?_;refine Wk.out ?_;(iterate 34 (first|(apply wk_skip;(rfl);(rfl);(rfl);(intro J hJ;go_simp;(with_reducible refine hJ _ ?_);clear hJ J))|(apply wk_len;(rfl);(rfl);(rfl);(rfl);(exact zk);(intro J hJ;go_simp;(with_reducible refine hJ _ ?_);clear hJ J))|(apply wk_pure;(rfl);(rfl);(intro J hJ;go_simp;(with_reducible refine hJ _ ?_);clear hJ J))|(apply wk_load;(rfl);(rfl);(rfl);(rfl);(intro J hJ;go_simp;(with_reducible refine hJ _ ?_);clear hJ J;try go_simp))));refine wk_nil fun wf hf=>?_
    go_wp2_with fail
    go_ret
    exact ⟨by rw [HZ.out];rfl,Bt hb belA⟩
   have g3:((n:Int) != (n0:Int))=false:=by rw [bne_eq_false_iff_eq];omega
   have HE:=zh he
   have H1:=zh h1
   have H4:=zh h4
   clear h1 h4 he
   cases hv:Vo m[k] with
   | false =>
    rw [hv] at LI
    have HZ:=zh (NO.out (.inr (.inr (.inr hv))))
    clear hv
    go_wp2_with fail
    refine aD ((.pure,0)::(.pure,1)::(.pure,2)::(.read,3)::(.pure,4)::(.pure,5)::(.pure,6)::(.pure,7)::(.pure,8)::(.pure,9)::(.read,10)::(.pure,11)::(.pure,12)::(.pure,13)::(.pure,14)::(.pure,15)::(.pure,16)::(.pure,17)::(.read,18)::(.pure,19)::(.pure,20)::(.pure,21)::(.read,22)::(.pure,23)::(.pure,24)::(.pure,25)::(.pure,26)::(.pure,27)::(.pure,28)::(.pure,29)::(.read,30)::(.ext,31)::(.pure,32)::(.pure,33)::[]) zk zk zR zP ?_;refine Wk.out ?_;(iterate 31 (first|(apply wk_skip;(rfl);(rfl);(rfl);(intro J hJ;go_simp;(with_reducible refine hJ _ ?_);clear hJ J))|(apply wk_len;(rfl);(rfl);(rfl);(rfl);(exact zk);(intro J hJ;go_simp;(with_reducible refine hJ _ ?_);clear hJ J))|(apply wk_pure;(rfl);(rfl);(intro J hJ;go_simp;(with_reducible refine hJ _ ?_);clear hJ J))|(apply wk_load;(rfl);(rfl);(rfl);(rfl);(intro J hJ;go_simp;(with_reducible refine hJ _ ?_);clear hJ J;try go_simp))))
    refine wk_ext rfl rfl (fun wa hba J hJ=>?_);go_simp
    refine (LI.out _ belA).mono ?_
    rintro e wb ⟨rfl,hbb⟩
    refine hJ _ _ hbb ?_
    clear hJ J
    (iterate 2 (first|(apply wk_skip;(rfl);(rfl);(rfl);(intro J hJ;go_simp;(with_reducible refine hJ _ ?_);clear hJ J))|(apply wk_len;(rfl);(rfl);(rfl);(rfl);(exact zk);(intro J hJ;go_simp;(with_reducible refine hJ _ ?_);clear hJ J))|(apply wk_pure;(rfl);(rfl);(intro J hJ;go_simp;(with_reducible refine hJ _ ?_);clear hJ J))|(apply wk_load;(rfl);(rfl);(rfl);(rfl);(intro J hJ;go_simp;(with_reducible refine hJ _ ?_);clear hJ J;try go_simp))));refine wk_nil fun wf hf=>?_
    go_wp2_with fail
    go_ret
    exact ⟨by rw [HZ.out];rfl,Bt hb (Bt (Bt belA hbb) belA)⟩
   | true =>
    rw [hv] at LI
    have HV:=zh hv
    clear hv
    go_wp2_with fail
    refine aD ((.pure,0)::(.pure,1)::(.pure,2)::(.read,3)::(.pure,4)::(.pure,5)::(.pure,6)::(.pure,7)::(.pure,8)::(.pure,9)::(.read,10)::(.pure,11)::(.pure,12)::(.pure,13)::(.pure,14)::(.pure,15)::(.pure,16)::(.pure,17)::(.read,18)::(.pure,19)::(.pure,20)::(.pure,21)::(.read,22)::(.pure,23)::(.pure,24)::(.pure,25)::(.pure,26)::(.pure,27)::(.pure,28)::(.pure,29)::(.read,30)::(.ext,31)::(.pure,32)::(.pure,33)::[]) zk zk zR zP ?_;refine Wk.out ?_;(iterate 31 (first|(apply wk_skip;(rfl);(rfl);(rfl);(intro J hJ;go_simp;(with_reducible refine hJ _ ?_);clear hJ J))|(apply wk_len;(rfl);(rfl);(rfl);(rfl);(exact zk);(intro J hJ;go_simp;(with_reducible refine hJ _ ?_);clear hJ J))|(apply wk_pure;(rfl);(rfl);(intro J hJ;go_simp;(with_reducible refine hJ _ ?_);clear hJ J))|(apply wk_load;(rfl);(rfl);(rfl);(rfl);(intro J hJ;go_simp;(with_reducible refine hJ _ ?_);clear hJ J;try go_simp))))
    refine wk_ext rfl rfl (fun wa hba J hJ=>?_);go_simp
    refine (LI.out _ belA).mono ?_
    rintro e wb ⟨rfl,hbb⟩
    refine hJ _ _ hbb ?_
    clear hJ J
    (iterate 2 (first|(apply wk_skip;(rfl);(rfl);(rfl);(intro J hJ;go_simp;(with_reducible refine hJ _ ?_);clear hJ J))|(apply wk_len;(rfl);(rfl);(rfl);(rfl);(exact zk);(intro J hJ;go_simp;(with_reducible refine hJ _ ?_);clear hJ J))|(apply wk_pure;(rfl);(rfl);(intro J hJ;go_simp;(with_reducible refine hJ _ ?_);clear hJ J))|(apply wk_load;(rfl);(rfl);(rfl);(rfl);(intro J hJ;go_simp;(with_reducible refine hJ _ ?_);clear hJ J;try go_simp))));refine wk_nil fun wf hf=>?_
    have hbz:Below w.heap.size w wf:=Bt hb (Bt (Bt belA hbb) belA)
    go_wp2_with fail
    go_roundw
    case rel =>
     refine ⟨k+1,by go_num,by omega,zh fun j hj hjk=>?_,hbz⟩
     rcases Nat.lt_or_ge j k with h|h
     ·exact HK.out j hj h
     ·obtain rfl:j=k:=by omega
      rw [HN.out]
      exact ⟨H1.out,H4.out,HE.out,HV.out⟩
    case measure=>exact zM
  ·have HZ:=zh (Pm.out fun j hj=>HK.out j hj zo)
   obtain rfl:k=m.length:=by omega
   clear cell0
   go_wp2_with fail
   go_ret
   exact ⟨by rw [HZ.out];rfl,hb⟩
theorem Check_ok (v:Value) (m:List (List Fr)) (w:World) (h:aP w v m) (hf:Zu m) :
  Calls Tryz.prog 24 #[v] w (fun e w'=>e= .returned (.int .i64 (gY m))∧Below w.heap.size w w'):=by
 obtain ⟨a,cap,rfl, -⟩:=aP.read h
 have R:=zh (Right_ok _ m w h hf)
 unfold gY
 clear h hf
 cases hv:kW m with
 | false =>
  rw [hv] at R
  clear hv
  go_enter Tryz.func24,Tryz.ntmps24
  go_wp2_with fail
  refine R.out.mono ?_
  rintro e wb ⟨rfl,hb⟩
  go_wp2_with fail
  go_ret
  exact ⟨rfl,hb⟩
 | true =>
  rw [hv] at R
  clear hv
  go_enter Tryz.func24,Tryz.ntmps24
  go_wp2_with fail
  refine R.out.mono ?_
  rintro e wb ⟨rfl,hb⟩
  go_wp2_with fail
  go_ret
  exact ⟨rfl,hb⟩
end Go.Proofs.aI
namespace Go.Proofs.aI
open Go Go.RowKit Go.SW Go.Num Go.Mem Go.Proofs Go.Dec Go.dF
theorem iG (a1 a2:ByteArray) (w:World) :
  (binOp .neq 59 (.agg #[.string a1,.string a2]) (.agg #[.string a1,.string a2])).run Tryz.prog w= .ok (.bool false) w:=by
 go_simp
theorem qO (v1 v2:Value) (l:List Fr) (w:World) (h1:gH w 59 v1 l) (h2:gH w 59 v2 l) :
  Calls Tryz.prog 31 #[v1,v2] w (fun e w'=>e= .returned (.bool true)∧Below w.heap.size w w'):=by
 obtain ⟨a,cap,rfl,hc1,hc2,hr1⟩:=h1.read
 obtain ⟨a',cap',rfl,hc1',hc2',hr2⟩:=h2.read
 have H1:=zh hr1
 have H2:=zh hr2
 have Qk:= @iG
 have g1:((l.length:Int) != (l.length:Int))=false:=by simp
 clear h1 h2 hr1 hr2
 go_enter Tryz.func31,Tryz.ntmps31
 go_wp2_with fail
 go_loopw [5] (fun iv wr=>∃ k:Nat,iv= .int .i64 (k:Int)∧k≤l.length∧Below w.heap.size w wr) (fun iv _=>l.length - (intOf iv).toNat)
 case atStart=>exact ⟨0,rfl,by omega,Below.refl _ _⟩
 case round =>
  obtain ⟨k,rfl,hk,hb⟩:=hrel
  rcases Nat.lt_or_ge k l.length with hlt|hge
  ·obtain ⟨b,off,rfl,hbl,hx1,hx2⟩:=H1.out k hlt
   obtain ⟨b',off',rfl,kg,hy1,hy2⟩:=H2.out k hlt
   have hc3:=(hb.cell (p:=⟨b,off+k*2,none⟩) hbl).trans hx1
   have hc4:=(hb.cell (p:=⟨b,off+k*2+1,none⟩) hbl).trans hx2
   have kI:=(hb.cell (p:=⟨b',off'+k*2,none⟩) kg).trans hy1
   have hc6:=(hb.cell (p:=⟨b',off'+k*2+1,none⟩) kg).trans hy2
   clear hx1 hx2 hy1 hy2
   generalize hlk:l[k]=lk at *
   obtain ⟨s,t⟩:=lk
   have Zq:=zh hlk
   clear hlk
   go_wp2_with fail
   go_quiet (fail)
   go_wp2_with fail
   go_roundw
   case rel=>exact ⟨k+1,by go_num,by omega,below_drewN hb _⟩
   case measure=>exact zM
  ·obtain rfl:k=l.length:=by omega
   go_wp2_with fail
   go_ret
   exact ⟨rfl,hb⟩
theorem xV (v1 v2:Value) (m:List (List Fr)) (w:World) (h1:aP w v1 m) (h2:aP w v2 m) :
  Calls Tryz.prog 15 #[v1,v2] w (fun e w'=>e= .returned (.bool true)∧Below w.heap.size w w'):=by
 obtain ⟨a,cap,rfl,hc1,hc2,hr1⟩:=aP.read h1
 obtain ⟨a',cap',rfl,hc1',hc2',hr2⟩:=aP.read h2
 have H1:=zh hr1
 have H2:=zh hr2
 have g1:((m.length:Int) != (m.length:Int))=false:=by simp
 clear h1 h2 hr1 hr2
 go_enter Tryz.func15,Tryz.ntmps15
 go_wp2_with fail
 go_loopw [5] (fun iv wr=>∃ k:Nat,iv= .int .i64 (k:Int)∧k≤m.length∧Below w.heap.size w wr) (fun iv _=>m.length - (intOf iv).toNat)
 case atStart=>exact ⟨0,rfl,by omega,Below.refl _ _⟩
 case round =>
  obtain ⟨k,rfl,hk,hb⟩:=hrel
  rcases Nat.lt_or_ge k m.length with hlt|hge
  ·obtain ⟨b,off,a1,c1,rfl,hbl,hx1,hf1⟩:=H1.out k hlt
   obtain ⟨b',off',a2,c2,rfl,kg,hy1,hf2⟩:=H2.out k hlt
   have hc3:=(hb.cell (p:=⟨b,off+k,none⟩) hbl).trans hx1
   have kI:=(hb.cell (p:=⟨b',off'+k,none⟩) kg).trans hy1
   have SL:=zh (fun W (hW:Below w.heap.size w W)=>qO _ _ m[k] W (hf1.later hW) (hf2.later hW))
   clear hx1 hy1 hf1 hf2
   generalize m[k].length=n at *
   go_wp2_with fail
   refine aD [(.pure,0),(.pure,1),(.pure,2),(.read,3),(.pure,4),(.pure,5),(.pure,6),(.read,7),(.ext,8),(.pure,9)] zk zk zR zP ?_;refine Wk.out ?_;(iterate 8 (first|(apply wk_skip;(rfl);(rfl);(rfl);(intro J hJ;go_simp;(with_reducible refine hJ _ ?_);clear hJ J))|(apply wk_len;(rfl);(rfl);(rfl);(rfl);(exact zk);(intro J hJ;go_simp;(with_reducible refine hJ _ ?_);clear hJ J))|(apply wk_pure;(rfl);(rfl);(intro J hJ;go_simp;(with_reducible refine hJ _ ?_);clear hJ J))|(apply wk_load;(rfl);(rfl);(rfl);(rfl);(intro J hJ;go_simp;(with_reducible refine hJ _ ?_);clear hJ J;try go_simp))))
   refine wk_ext rfl rfl (fun wa hba J hJ=>?_);go_simp
   have z1:Below w.heap.size w wa:=Bt hb belA
   refine (SL.out _ z1).mono ?_
   rintro e wb ⟨rfl,hbb⟩
   have z2:=Bt z1 hbb
   refine hJ _ _ hbb ?_
   clear hJ J
   (iterate 1 (first|(apply wk_skip;(rfl);(rfl);(rfl);(intro J hJ;go_simp;(with_reducible refine hJ _ ?_);clear hJ J))|(apply wk_len;(rfl);(rfl);(rfl);(rfl);(exact zk);(intro J hJ;go_simp;(with_reducible refine hJ _ ?_);clear hJ J))|(apply wk_pure;(rfl);(rfl);(intro J hJ;go_simp;(with_reducible refine hJ _ ?_);clear hJ J))|(apply wk_load;(rfl);(rfl);(rfl);(rfl);(intro J hJ;go_simp;(with_reducible refine hJ _ ?_);clear hJ J;try go_simp))));refine wk_nil fun wf hf=>?_
   have z3:Below w.heap.size w wf:=Bt z2 hf
   clear hba hbb hf z1 z2
   go_wp2_with fail
   go_roundw
   case rel=>exact ⟨k+1,by go_num,by omega,z3⟩
   case measure=>exact zM
  ·obtain rfl:k=m.length:=by omega
   go_wp2_with fail
   go_ret
   exact ⟨rfl,hb⟩
end Go.Proofs.aI
namespace Go.Proofs.verdigrislaw05
open Go Go.RowKit Go.SW Go.Num Go.Mem Go.Proofs Go.Dec Go.dF
def Strs (w:World) (v:Value) (l:List ByteArray):Prop:=Row w 9 v (l.map Value.string)
theorem Strs.later {w w':World} {v:Value} {l:List ByteArray} (h:Strs w v l) (hb:Below w.heap.size w w'):Strs w' v l:=Row.later h hb
def IsF (w:World) (f:Value) (M:List (List Fr)):Prop:=∃ a v,f= .func (.func 102) #[] #[.pointer (some ⟨a,0,none⟩)]∧ah w a #[v] 22∧aP w v M
def DK (w:World) (f:Value) (e:Int):Prop:=∃ a,f= .func (.func 91) #[] #[.pointer (some ⟨a,0,none⟩)]∧ah w a #[.int .i64 e] 33
def Dx (w:World) (f:Value) (l:List ByteArray):Prop:=∃ a v,f= .func (.func 110) #[] #[.pointer (some ⟨a,0,none⟩)]∧ah w a #[v] 165∧Strs w v l
def Ml (w:World) (f:Value) (e:Int):Prop:=∃ a,f= .func (.func 109) #[] #[.pointer (some ⟨a,0,none⟩)]∧ah w a #[.int .i64 e] 33
theorem IsF.later {w w':World} {f:Value} {M:List (List Fr)} (h:IsF w f M) (hb:Below w.heap.size w w'):IsF w' f M:=by
 obtain ⟨a,v,h1,h2,h3⟩:=h
 exact ⟨a,v,h1,h2.later hb,h3.later hb⟩
theorem DK.later {w w':World} {f:Value} {e:Int} (h:DK w f e) (hb:Below w.heap.size w w'):DK w' f e:=by
 obtain ⟨a,h1,h2⟩:=h
 exact ⟨a,h1,h2.later hb⟩
theorem Dx.later {w w':World} {f:Value} {l:List ByteArray} (h:Dx w f l) (hb:Below w.heap.size w w'):Dx w' f l:=by
 obtain ⟨a,v,h1,h2,h3⟩:=h
 exact ⟨a,v,h1,h2.later hb,h3.later hb⟩
theorem Ml.later {w w':World} {f:Value} {e:Int} (h:Ml w f e) (hb:Below w.heap.size w w'):Ml w' f e:=by
 obtain ⟨a,h1,h2⟩:=h
 exact ⟨a,h1,h2.later hb⟩
theorem is_ok (v:Value) (M:List (List Fr)) (w:World) (h:aP w v M):Calls Tryz.prog 49 #[v] w (fun e w'=>(∃ f,e= .returned f∧IsF w' f M)∧Below w.heap.size w w'):=by
 have H:=zh h
 obtain ⟨a,c,rfl⟩:=matrix.aP.sl h
 clear h
 go_enter Tryz.func49,Tryz.ntmps49
 go_wp2_with fail
 go_ret
 exact ⟨⟨_,rfl,_,_,rfl,boxA,H.out.later belA⟩,belA⟩
theorem fails_ok (k:Int) (w:World):Calls Tryz.prog 44 #[.int .i64 k] w (fun e w'=>(∃ v,e= .returned v∧DK w' v k)∧Below w.heap.size w w'):=by
 go_enter Tryz.func44,Tryz.ntmps44
 go_wp2_with fail
 go_ret
 exact ⟨⟨_,rfl,_,rfl,boxA⟩,belA⟩
theorem Sj (v:Value) (l:List ByteArray) (w:World) (h:Strs w v l):Calls Tryz.prog 52 #[v] w (fun e w'=>(∃ f,e= .returned f∧Dx w' f l)∧Below w.heap.size w w'):=by
 have H:=zh h
 obtain ⟨a,c,rfl, -⟩:=h
 generalize (l.map Value.string).length=n at *
 go_enter Tryz.func52,Tryz.ntmps52
 go_wp2_with fail
 go_ret
 exact ⟨⟨_,rfl,_,_,rfl,boxA,H.out.later belA⟩,belA⟩
theorem WG (k:Int) (w:World):Calls Tryz.prog 51 #[.int .i64 k] w (fun e w'=>(∃ v,e= .returned v∧Ml w' v k)∧Below w.heap.size w w'):=by
 go_enter Tryz.func51,Tryz.ntmps51
 go_wp2_with fail
 go_ret
 exact ⟨⟨_,rfl,_,rfl,boxA⟩,belA⟩
theorem fails1_ok (k:Int) (a:Nat) (w:World) (h:ah w a #[.int .i64 k] 33):Calls Tryz.prog 91 #[.slice none 0 0,.int .i64 k,.pointer (some ⟨a,0,none⟩)] w (fun e w'=>e= .returned (.bool true)∧Below w.heap.size w w'):=by
 have c1:=h.cell
 have l1:=h.lt
 go_enter Tryz.func91,Tryz.ntmps91
 go_wp2_with fail
 go_ret
 exact ⟨rfl,belA⟩
theorem RH (k:Int) (a:Nat) (w:World) (h:ah w a #[.int .i64 k] 33):Calls Tryz.prog 109 #[.slice none 0 0,.int .i64 k,.pointer (some ⟨a,0,none⟩)] w (fun e w'=>e= .returned (.bool true)∧Below w.heap.size w w'):=by
 have c1:=h.cell
 have l1:=h.lt
 go_enter Tryz.func109,Tryz.ntmps109
 go_wp2_with fail
 go_ret
 exact ⟨rfl,belA⟩
theorem yZ (vm:Value) (M:List (List Fr)) (a:Nat) (v:Value) (w:World) (hm:aP w vm M) (hb:ah w a #[v] 22) (hv:aP w v M):Calls Tryz.prog 102 #[vm,.int .i64 0,.pointer (some ⟨a,0,none⟩)] w (fun e w'=>e= .returned (.bool true)∧Below w.heap.size w w'):=by
 have S:=zh (matrix.xV vm v M w hm hv)
 have c1:=hb.cell
 have l1:=hb.lt
 obtain ⟨a1,c1',rfl⟩:=matrix.aP.sl hm
 obtain ⟨a2,c2',rfl⟩:=matrix.aP.sl hv
 clear hm hv hb
 go_enter Tryz.func102,Tryz.ntmps102
 go_wp2_with fail
 refine S.out.mono ?_
 rintro e w1 ⟨rfl,h1⟩
 go_wp2_with fail
 go_ret
 exact ⟨rfl,h1⟩
theorem Oh (vm:Value) (l:List ByteArray) (a:Nat) (v:Value) (w:World) (hm:gH w 59 vm (l.map iT)) (hb:ah w a #[v] 165) (hv:Strs w v l) (hl:l.length≤1000) (ht:∀ s∈l,Txt s):Calls Tryz.prog 110 #[vm,.int .i64 0,.pointer (some ⟨a,0,none⟩)] w (fun e w'=>e= .returned (.bool true)∧Below w.heap.size w w'):=by
 have Q:=zh (q_ok v l w hv hl ht)
 have S:=zh (fun x W h1 h2=>aI.qO vm x (l.map iT) W h1 h2)
 have HM:=zh hm
 have c1:=hb.cell
 have l1:=hb.lt
 obtain ⟨a1,c1',rfl, -⟩:=hm.read
 obtain ⟨a2,c2',rfl, -⟩:=hv
 generalize (l.map Value.string).length=n at *
 generalize l.map iT=L at *
 clear hm hb ht hl
 go_enter Tryz.func110,Tryz.ntmps110
 go_wp2_with fail
 refine Q.out.mono ?_
 rintro e w1 ⟨x,rfl,h1,h2⟩
 have HX:=zh h2
 obtain ⟨a3,c3,rfl, -⟩:=h2.read
 clear h2
 go_wp2_with fail
 refine (S.out _ _ (HM.out.later h1) HX.out).mono ?_
 rintro e w2 ⟨rfl,h2⟩
 go_wp2_with fail
 go_ret
 exact ⟨rfl,Bt h1 h2⟩
end Go.Proofs.verdigrislaw05
namespace Go.Proofs.verdigrislaw05
open Go Go.RowKit Go.SW Go.Num Go.Mem Go.Proofs Go.Dec Go.dF Go.Proofs.matrix
def VN (s:ByteArray):Bool:= !(([47]:List UInt8) == s.toList)&&decide (s.size≤1000000)
theorem IU {l:List ByteArray} (h:l.all VN=true):∀ s∈l,Txt s:=fun s hs=>by
 have:=List.all_eq_true.1 h s hs
 unfold VN at this
 simp only [Bool.and_eq_true,Bool.not_eq_true',decide_eq_true_eq] at this
 exact this
def az0 (W:World) (Q:List Fr) (e:Ending) (w':World):Prop:=∃ a c,e= .returned (.slice a Q.length c)∧Below W.heap.size W w'∧gH w' 59 (.slice a Q.length c) Q
theorem gT {l:List ByteArray} {Q:List Fr} (e:l.map iT=Q) (hl:l.length≤1000) (ht:l.all VN=true):∀ v W,Strs W v l→Calls Tryz.prog 48 #[v] W (az0 W Q):=fun v W h =>
 (q_ok v l W h hl (IU ht)).mono fun en w' ⟨v',h1,h2,h3⟩=>by
  rw [e] at h3
  obtain ⟨a,c,rfl, -⟩:=h3.read
  exact ⟨a,c,h1,h2,h3⟩
theorem nT {w:World} {b:Nat} {s:ByteArray} (h:ah w b #[.string s] 9):Strs w (.slice (some ⟨b,0,none⟩) 1 1) [s]:=Row.mk (off:=0) rfl (Nat.le_refl _) zo h fun i hi=>by
 obtain rfl:i=0:=by simp at hi;omega
 rfl
theorem dI {w:World} {b:Nat} {s t:ByteArray} (h:ah w b #[.string s,.string t] 9):Strs w (.slice (some ⟨b,0,none⟩) 2 2) [s,t]:=Row.mk (off:=0) rfl (Nat.le_refl _) zo h fun i hi=>by
 obtain rfl|rfl:i=0∨i=1:=by simp at hi;omega
 all_goals rfl
theorem IZ {w:World} {b:Nat} {s t u:ByteArray} (h:ah w b #[.string s,.string t,.string u] 9):Strs w (.slice (some ⟨b,0,none⟩) 3 3) [s,t,u]:=Row.mk (off:=0) rfl (Nat.le_refl _) zo h fun i hi=>by
 obtain rfl|rfl|rfl:i=0∨i=1∨i=2:=by simp at hi;omega
 all_goals rfl
theorem xP {w:World} {b:Nat} {x:Value} {q:List Fr} (h:ah w b #[x] 29) (hx:gH w 59 x q):aP w (.slice (some ⟨b,0,none⟩) 1 1) [q] :=
 ⟨[x],Row.mk (off:=0) rfl (Nat.le_refl _) zo h (fun i hi=>by
  obtain rfl:i=0:=by simp at hi;omega
  rfl),rfl,fun i hi _=>by
  obtain rfl:i=0:=by simp at hi;omega
  exact hx⟩
theorem nu {w:World} {b:Nat} {x y:Value} {q r:List Fr} (h:ah w b #[x,y] 29) (hx:gH w 59 x q) (hy:gH w 59 y r):aP w (.slice (some ⟨b,0,none⟩) 2 2) [q,r] :=
 ⟨[x,y],Row.mk (off:=0) rfl (Nat.le_refl _) zo h (fun i hi=>by
  obtain rfl|rfl:i=0∨i=1:=by simp at hi;omega
  all_goals rfl),rfl,fun i hi _=>by
  obtain rfl|rfl:i=0∨i=1:=by simp at hi;omega
  ·exact hx
  ·exact hy⟩
theorem Od {w:World} {b:Nat} {x y z:Value} {q r s:List Fr} (h:ah w b #[x,y,z] 29) (hx:gH w 59 x q) (hy:gH w 59 y r) (hz:gH w 59 z s):aP w (.slice (some ⟨b,0,none⟩) 3 3) [q,r,s] :=
 ⟨[x,y,z],Row.mk (off:=0) rfl (Nat.le_refl _) zo h (fun i hi=>by
  obtain rfl|rfl|rfl:i=0∨i=1∨i=2:=by simp at hi;omega
  all_goals rfl),rfl,fun i hi _=>by
  obtain rfl|rfl|rfl:i=0∨i=1∨i=2:=by simp at hi;omega
  ·exact hx
  ·exact hy
  ·exact hz⟩
theorem RZ {w:World} {b n cap:Nat} {m:List (List Fr)} (k:Nat) (h:aP w (.slice (some ⟨b,0,none⟩) n cap) m) (hk:k≤n):aP w (.slice (some ⟨b,0,none⟩) k cap) (m.take k):=by
 obtain ⟨rs,hR,hl,hF⟩:=h
 obtain ⟨a,cap',e,h1,h2,h3,h4⟩:=hR
 simp only [Value.slice.injEq] at e
 obtain ⟨rfl,rfl,rfl⟩:=e
 refine ⟨rs.take k,⟨some ⟨b,0,none⟩,cap,by rw [List.length_take,Nat.min_eq_left hk],by rw [List.length_take];omega,h2,(fun e=>by cases e),fun ad had=>?_⟩,by rw [List.length_take,List.length_take,hl],fun i hi hi'=>?_⟩
 ·obtain ⟨h6,arr,h7,h8⟩:=h4 ad had
  refine ⟨h6,arr,h7,fun i hi=>?_⟩
  rw [List.length_take] at hi
  rw [List.getElem_take]
  exact h8 i zo
 ·rw [List.length_take] at hi
  rw [List.getElem_take,List.getElem_take]
  exact hF i zo zo
theorem WU (w:World):aP w (.slice none 0 0) []:=⟨[],Row.nil _ _,rfl,fun i h=>by cases h⟩
def Pb (W:World) (R:List (List Fr)) (e:Ending) (w':World):Prop:=∃ a c,e= .returned (.tuple #[.slice a R.length c,.int .i64 0])∧Below W.heap.size W w'∧aP w' (.slice a R.length c) R
def aI4 (W:World) (R:List Fr) (e:Ending) (w':World):Prop:=∃ a c,e= .returned (.tuple #[.slice a R.length c,.int .i64 0])∧Below W.heap.size W w'∧gH w' 59 (.slice a R.length c) R
def NoM (W:World) (k:Int) (e:Ending) (w':World):Prop:=e= .returned (.tuple #[.slice none 0 0,.int .i64 k])∧Below W.heap.size W w'
theorem xZ {W w':World} {R:List (List Fr)} {e:Ending} (h:MatPost W 0 R e w'):Pb W R e w':=by
 obtain ⟨hb,v,rfl,h1, -⟩:=h
 obtain ⟨a,c,rfl⟩:=aP.sl (h1 rfl)
 exact ⟨a,c,rfl,hb,h1 rfl⟩
theorem RJ {W w':World} {R:List (List Fr)} {k:Int} {e:Ending} (hk:k≠0) (h:MatPost W k R e w'):NoM W k e w':=by
 obtain ⟨hb,v,rfl, -, h1⟩:=h
 rw [h1 hk]
 exact ⟨rfl,hb⟩
theorem WM {A B R:List (List Fr)} (h:vM A B=0) (h2:mulM A B=R):∀ x y W,aP W x A→aP W y B→qP.Pow W→Calls Tryz.prog 27 #[x,y] W (Pb W R):=fun x y W h3 h4 h5=>by
 have:=Mul_at x y A B W h3 h4 h5
 rw [h,h2] at this
 exact this.mono fun _ _=>xZ
theorem ac3 {A B:List (List Fr)} {k:Int} (h:vM A B=k) (hk:k≠0):∀ x y W,aP W x A→aP W y B→qP.Pow W→Calls Tryz.prog 27 #[x,y] W (NoM W k):=fun x y W h3 h4 h5=>by
 have:=Mul_at x y A B W h3 h4 h5
 rw [h] at this
 exact this.mono fun _ _=>RJ hk
theorem Xd {A R:List (List Fr)} (h:uy A=0) (h2:Gp A=R):∀ x W,aP W x A→qP.Pow W→Calls Tryz.prog 37 #[x] W (Pb W R):=fun x W h3 h5=>by
 have:=Inv_at x A W h3 h5
 rw [h,h2] at this
 exact this.mono fun _ _=>xZ
theorem ac8 {A:List (List Fr)} {k:Int} (h:uy A=k) (hk:k≠0):∀ x W,aP W x A→qP.Pow W→Calls Tryz.prog 37 #[x] W (NoM W k):=fun x W h3 h5=>by
 have:=Inv_at x A W h3 h5
 rw [h] at this
 exact this.mono fun _ _=>RJ hk
theorem Nf {A R:List (List Fr)} (h:gY A=0) (h2:jf A (A.headD []).length=R):∀ x W,aP W x A→Calls Tryz.prog 21 #[x] W (Pb W R):=fun x W h3=>by
 have:=Transp_at x A W h3
 rw [h,h2] at this
 exact this.mono fun _ _=>xZ
theorem ad4 {n:Int} {R:List (List Fr)} (h:idE n=0) (h2:kE (List.replicate n.toNat Fr.one)=R):∀ W,Calls Tryz.prog 13 #[.int .i64 n] W (Pb W R):=fun W=>by
 have:=Identity_ok n W
 rw [h,h2] at this
 exact this.mono fun _ _=>xZ
theorem as6 {n:Int} {k:Int} (h:idE n=k) (hk:k≠0):∀ W,Calls Tryz.prog 13 #[.int .i64 n] W (NoM W k):=fun W=>by
 have:=Identity_ok n W
 rw [h] at this
 exact this.mono fun _ _=>RJ hk
theorem Ul {l:List Fr} {R:List (List Fr)} (h:GQ l=0) (h2:kE l=R):∀ x W,gH W 59 x l→Calls Tryz.prog 18 #[x] W (Pb W R):=fun x W h3=>by
 have:=Diagonal_ok x l _ W h3
 rw [h,h2] at this
 exact this.mono fun _ _=>xZ
theorem Ye {A:List (List Fr)} {l R:List Fr} (h:Yg A l=0) (h2:ay8 A l=R):∀ x y W,aP W x A→gH W 59 y l→qP.Pow W→Calls Tryz.prog 29 #[x,y] W (aI4 W R):=fun x y W h3 h4 h5=>by
 have:=App_at x y A l _ W h3 h4 h5
 rw [h,h2] at this
 refine this.mono ?_
 rintro e w' ⟨hb,v,h6,h7, -⟩
 obtain ⟨a,c,rfl, -⟩:=(h7 rfl).read
 exact ⟨a,c,h6,hb,h7 rfl⟩
theorem ah5 {A:List (List Fr)} {l:List Fr} {k:Int} (h:Yg A l=k) (hk:k≠0):∀ x y W,aP W x A→gH W 59 y l→qP.Pow W→Calls Tryz.prog 29 #[x,y] W (NoM W k):=fun x y W h3 h4 h5=>by
 have:=App_at x y A l _ W h3 h4 h5
 rw [h] at this
 refine this.mono ?_
 rintro e w' ⟨hb,v,h6, -, h7⟩
 rw [h7 hk] at h6
 exact ⟨h6,hb⟩
theorem Uy {A:List (List Fr)} {k:Int} (h:gY A=k):∀ x W,aP W x A→Calls Tryz.prog 23 #[x] W (fun e w'=>e= .returned (.int .i64 k)∧Below W.heap.size W w'):=fun x W h3=>by
 have:=Check_ok x A W h3
 rwa [h] at this
theorem aq8 {s x y:ByteArray} (e:iT s=⟨x,y⟩) (ht:[s].all VN=true):∀ v W,Strs W v [s]→Calls Tryz.prog 48 #[v] W (fun e w'=>∃ b off c,e= .returned (.slice (some ⟨b,off,none⟩) 1 c)∧Below W.heap.size W w'∧b<w'.heap.size∧w'.cell? ⟨b,off,none⟩=some (.string x)∧w'.cell? ⟨b,off+1,none⟩=some (.string y)):=fun v W h =>
 (q_ok v [s] W h zi (IU ht)).mono fun en w' ⟨v',h1,h2,h3⟩=>by
  obtain ⟨a,c,rfl, -, -, hread⟩:=h3.read
  obtain ⟨b,off,rfl,lb,x1,x2⟩:=hread 0 zi
  simp only [List.map_cons,List.map_nil,List.getElem_cons_zero,e,Nat.zero_mul,Nat.add_zero] at x1 x2
  exact ⟨b,off,c,h1,h2,lb,x1,x2⟩
theorem run_eqFr_same (a1 a2:ByteArray) (w:World):(binOp .eql 59 (.agg #[.string a1,.string a2]) (.agg #[.string a1,.string a2])).run Tryz.prog w= .ok (.bool true) w:=by go_simp
theorem xA (a1 a2:Int) (w:World):(binOp .eql 69 (.agg #[.int .i64 a1,.int .i64 a2]) (.agg #[.int .i64 a1,.int .i64 a2])).run Tryz.prog w= .ok (.bool true) w:=by go_simp
theorem Yd {w:World} {T:TypeId} {v:Value} {x y:Int} (h:vC w T v [(x,y)]):∃ b o c,v= .slice (some ⟨b,o,none⟩) 1 c∧b<w.heap.size∧w.cell? ⟨b,o,none⟩=some (.int .i64 x)∧w.cell? ⟨b,o+1,none⟩=some (.int .i64 y):=by
 obtain ⟨a,c,rfl, -, -, hr⟩:=h.read
 obtain ⟨b,o,rfl,lb,h1,h2⟩:=hr 0 zi
 exact ⟨b,o,c,rfl,lb,h1,h2⟩
theorem WV {P:Program} {ops:Array Oper} {mk:Nat→Nat→Value} {is:List (K × Nat)} {L:List (Array Value × TypeId × Nat)} (h:is.filterMap (fun x=>match x.1 with| .alloc cs T=>some (cs,T,x.2)| _=>none)=L)
  (hL:∀ x∈L,∀ o,ops[x.2.2]? =some o→∀ (a:Act) w,(execOp a.eval o).run P w= .ok (.value (mk x.2.2 w.heap.size)) (w.alloc (.cells x.1 x.2.1 (0,0)))):Ag P ops mk is:=fun cs T j hj o ho a w=>by
 have:(cs,T,j)∈L:=by
  rw [← h]
  exact List.mem_filterMap.2 ⟨_,hj,rfl⟩
 exact hL _ this o ho a w
end Go.Proofs.verdigrislaw05
namespace Go.Proofs.verdigrislaw05
open Go Go.RowKit Go.SW Go.Num Go.Mem Go.Proofs Go.Dec Go.dF Go.Proofs.matrix Go.Proofs.fM
def YR (i:Nat):Nat:=if i == 3 || i == 28 || i == 36 || i == 38 || i == 40 then 1 else if i == 44 then 3 else if false then 4 else 2
def as0 (i b:Nat):Value:=.slice (some ⟨b,0,none⟩) (YR i) (YR i)
theorem works_ok (w:World) (ht:qP.Pow w) (he:whole.Er w):Calls Tryz.prog 12 #[] w (fun e w'=>e= .returned (.bool true)∧Below w.heap.size w w'):=by
 have HP:=zh ht
 have HE:=zh he
 have HB:=zh (Below.refl w.heap.size w)
 clear ht he
 obtain ⟨q0,E0⟩:∃ y,Hid (([⟨#[49]⟩,⟨#[50]⟩]:List ByteArray).map iT=y):=⟨_,zh rfl⟩
 have Q0:=zh (gT E0.out zd (by decide+kernel))
 obtain ⟨q1,E1⟩:∃ y,Hid (([⟨#[51]⟩,⟨#[52]⟩]:List ByteArray).map iT=y):=⟨_,zh rfl⟩
 have Q1:=zh (gT E1.out zd (by decide+kernel))
 obtain ⟨q2,E2⟩:∃ y,Hid (([⟨#[50]⟩,⟨#[49]⟩]:List ByteArray).map iT=y):=⟨_,zh rfl⟩
 have Q2:=zh (gT E2.out zd (by decide+kernel))
 obtain ⟨q3,E3⟩:∃ y,Hid (([⟨#[52]⟩,⟨#[51]⟩]:List ByteArray).map iT=y):=⟨_,zh rfl⟩
 have Q3:=zh (gT E3.out zd (by decide+kernel))
 obtain ⟨q4,E4⟩:∃ y,Hid (([⟨#[48]⟩,⟨#[49]⟩]:List ByteArray).map iT=y):=⟨_,zh rfl⟩
 have Q4:=zh (gT E4.out zd (by decide+kernel))
 obtain ⟨q5,E5⟩:∃ y,Hid (([⟨#[49]⟩,⟨#[48]⟩]:List ByteArray).map iT=y):=⟨_,zh rfl⟩
 have Q5:=zh (gT E5.out zd (by decide+kernel))
 have C0:=zh (WM (A:=[q0,q1]) (B:=[q4,q5]) (R:=[q2,q3]) (by rw [← E0.out,← E1.out,← E4.out,← E5.out];decide+kernel) (by rw [← E0.out,← E1.out,← E2.out,← E3.out,← E4.out,← E5.out];decide+kernel))
 have C1:=zh (ac3 (A:=[q0]) (B:=[q0]) (k:=2) (by rw [← E0.out];decide+kernel) zd)
 obtain ⟨q6,E6⟩:∃ y,Hid (([⟨#[45,50]⟩,⟨#[49]⟩]:List ByteArray).map iT=y):=⟨_,zh rfl⟩
 have Q6:=zh (gT E6.out zd (by decide+kernel))
 obtain ⟨q7,E7⟩:∃ y,Hid (([⟨#[51,47,50]⟩,⟨#[45,49,47,50]⟩]:List ByteArray).map iT=y):=⟨_,zh rfl⟩
 have Q7:=zh (gT E7.out zd (by decide+kernel))
 have C2:=zh (Xd (A:=[q0,q1]) (R:=[q6,q7]) (by rw [← E0.out,← E1.out];decide+kernel) (by rw [← E0.out,← E1.out,← E6.out,← E7.out];decide+kernel))
 obtain ⟨q8,E8⟩:∃ y,Hid (([⟨#[50]⟩,⟨#[52]⟩]:List ByteArray).map iT=y):=⟨_,zh rfl⟩
 have Q8:=zh (gT E8.out zd (by decide+kernel))
 have C3:=zh (ac8 (A:=[q0,q8]) (k:=7) (by rw [← E0.out,← E8.out];decide+kernel) zd)
 have C4:=zh (ag6 (A:=[q0,q1]) (x:=⟨#[45,50]⟩) (y:=⟨#[49]⟩) (k:=0) (by rw [← E0.out,← E1.out];decide+kernel))
 have C5:=zh (aq8 (s:=⟨#[45,50]⟩) (x:=⟨#[45,50]⟩) (y:=⟨#[49]⟩) (by decide+kernel) (by decide+kernel))
 obtain ⟨q9,E9⟩:∃ y,Hid (([⟨#[49,47,50]⟩,⟨#[49,47,51]⟩]:List ByteArray).map iT=y):=⟨_,zh rfl⟩
 have Q9:=zh (gT E9.out zd (by decide+kernel))
 obtain ⟨q10,E10⟩:∃ y,Hid (([⟨#[55,47,54]⟩,⟨#[49,55,47,54]⟩]:List ByteArray).map iT=y):=⟨_,zh rfl⟩
 have Q10:=zh (gT E10.out zd (by decide+kernel))
 have C6:=zh (Ye (A:=[q0,q1]) (l:=q9) (R:=q10) (by rw [← E0.out,← E1.out,← E9.out];decide+kernel) (by rw [← E0.out,← E1.out,← E9.out,← E10.out];decide+kernel))
 obtain ⟨q11,E11⟩:∃ y,Hid (([⟨#[49]⟩]:List ByteArray).map iT=y):=⟨_,zh rfl⟩
 have Q11:=zh (gT E11.out zd (by decide+kernel))
 have C7:=zh (ah5 (A:=[q0]) (l:=q11) (k:=2) (by rw [← E0.out,← E11.out];decide+kernel) zd)
 obtain ⟨q12,E12⟩:∃ y,Hid (([⟨#[50]⟩]:List ByteArray).map iT=y):=⟨_,zh rfl⟩
 have Q12:=zh (gT E12.out zd (by decide+kernel))
 obtain ⟨q13,E13⟩:∃ y,Hid (([⟨#[51]⟩]:List ByteArray).map iT=y):=⟨_,zh rfl⟩
 have Q13:=zh (gT E13.out zd (by decide+kernel))
 obtain ⟨q14,E14⟩:∃ y,Hid (([⟨#[49]⟩,⟨#[50]⟩,⟨#[51]⟩]:List ByteArray).map iT=y):=⟨_,zh rfl⟩
 have Q14:=zh (gT E14.out zd (by decide+kernel))
 have C8:=zh (Nf (A:=[q14]) (R:=[q11,q12,q13]) (by rw [← E14.out];decide+kernel) (by rw [← E11.out,← E12.out,← E13.out,← E14.out];decide+kernel))
 have C9:=zh (ad4 (n:=2) (R:=[q5,q4]) (by decide+kernel) (by rw [← E4.out,← E5.out];decide+kernel))
 have C10:=zh (as6 (n:=5) (k:=2) (by decide+kernel) zd)
 obtain ⟨q15,E15⟩:∃ y,Hid (([⟨#[50]⟩,⟨#[48]⟩]:List ByteArray).map iT=y):=⟨_,zh rfl⟩
 have Q15:=zh (gT E15.out zd (by decide+kernel))
 obtain ⟨q16,E16⟩:∃ y,Hid (([⟨#[48]⟩,⟨#[51]⟩]:List ByteArray).map iT=y):=⟨_,zh rfl⟩
 have Q16:=zh (gT E16.out zd (by decide+kernel))
 obtain ⟨q17,E17⟩:∃ y,Hid (([⟨#[50]⟩,⟨#[51]⟩]:List ByteArray).map iT=y):=⟨_,zh rfl⟩
 have Q17:=zh (gT E17.out zd (by decide+kernel))
 have C11:=zh (Ul (l:=q17) (R:=[q15,q16]) (by rw [← E17.out];decide+kernel) (by rw [← E15.out,← E16.out,← E17.out];decide+kernel))
 obtain ⟨q18,E18⟩:∃ y,Hid (([⟨#[49,47,51]⟩,⟨#[49]⟩]:List ByteArray).map iT=y):=⟨_,zh rfl⟩
 have Q18:=zh (gT E18.out zd (by decide+kernel))
 have C12:=zh (UL (m:=[q18]) (l:=[(1000000000000,1000000000000),(0,0)]) (r:=([(333333333333,333333333334)],0)) (by rw [← E18.out];decide+kernel) zi)
 have C13:=zh (Uy (A:=[]) (k:=50) (by decide+kernel))
 have C14:=zh (Uy (A:=[q11,q0]) (k:=50) (by rw [← E0.out,← E11.out];decide+kernel))
 clear E0 E1 E2 E3 E4 E5 E6 E7 E8 E9 E11 E12 E13 E14 E15 E16 E17 E18
 go_enter Tryz.func12,Tryz.ntmps12
 go_wp2_with fail
 obtain ⟨z1,EW,h,Z0⟩:=al1 w #[.string ⟨#[49]⟩,.string ⟨#[50]⟩] 9
 rw [EW]
 clear EW
 obtain ⟨b1,eb⟩:∃ y,w.heap.size=y:=⟨_,rfl⟩
 rw [eb] at Z0 ⊢
 clear eb
 replace HB:=zh (Bt HB.out h)
 have F1:=zh (dI Z0.out)
 clear h Z0
 refine (Q0.out _ _ F1.out).mono ?_
 rintro e u3 ⟨a2,c2,rfl,h,hf⟩
 clear F1
 replace HB:=zh (Bt HB.out h)
 have F2:=zh hf
 clear hf
 clear h
 go_wp2_with fail
 obtain ⟨z4,EW,h,Z0⟩:=al1 u3 #[.string ⟨#[51]⟩,.string ⟨#[52]⟩] 9
 rw [EW]
 clear EW
 obtain ⟨b4,eb⟩:∃ y,u3.heap.size=y:=⟨_,rfl⟩
 rw [eb] at Z0 ⊢
 clear eb
 replace F2:=zh (F2.out.later h)
 replace HB:=zh (Bt HB.out h)
 have F3:=zh (dI Z0.out)
 clear h Z0
 refine (Q1.out _ _ F3.out).mono ?_
 rintro e u6 ⟨a5,c5,rfl,h,hf⟩
 clear F3
 replace F2:=zh (F2.out.later h)
 replace HB:=zh (Bt HB.out h)
 have F4:=zh hf
 clear hf
 clear h
 go_wp2_with fail
 obtain ⟨z7,EW,h,Z0,Z1⟩:=al2 u6 #[.slice a2 q0.length c2,.slice a5 q1.length c5] 29 #[.string ⟨#[50]⟩,.string ⟨#[49]⟩] 9
 rw [EW]
 clear EW
 obtain ⟨b7,eb⟩:∃ y,u6.heap.size=y:=⟨_,rfl⟩
 rw [eb] at Z0 Z1 ⊢
 clear eb
 replace F2:=zh (F2.out.later h)
 replace F4:=zh (F4.out.later h)
 replace HB:=zh (Bt HB.out h)
 have F5:=zh (nu Z0.out F2.out F4.out)
 have F6:=zh (dI Z1.out)
 clear h Z0 Z1
 refine (Q2.out _ _ F6.out).mono ?_
 rintro e u9 ⟨a8,c8,rfl,h,hf⟩
 clear F2 F4 F6
 replace F5:=zh (F5.out.later h)
 replace HB:=zh (Bt HB.out h)
 have F7:=zh hf
 clear hf
 clear h
 go_wp2_with fail
 obtain ⟨z10,EW,h,Z0⟩:=al1 u9 #[.string ⟨#[52]⟩,.string ⟨#[51]⟩] 9
 rw [EW]
 clear EW
 obtain ⟨b10,eb⟩:∃ y,u9.heap.size=y:=⟨_,rfl⟩
 rw [eb] at Z0 ⊢
 clear eb
 replace F5:=zh (F5.out.later h)
 replace F7:=zh (F7.out.later h)
 replace HB:=zh (Bt HB.out h)
 have F8:=zh (dI Z0.out)
 clear h Z0
 refine (Q3.out _ _ F8.out).mono ?_
 rintro e u12 ⟨a11,c11,rfl,h,hf⟩
 clear F8
 replace F5:=zh (F5.out.later h)
 replace F7:=zh (F7.out.later h)
 replace HB:=zh (Bt HB.out h)
 have F9:=zh hf
 clear hf
 clear h
 go_wp2_with fail
 obtain ⟨z13,EW,h,Z0⟩:=al1 u12 #[.slice a8 q2.length c8,.slice a11 q3.length c11] 29
 rw [EW]
 clear EW
 obtain ⟨b13,eb⟩:∃ y,u12.heap.size=y:=⟨_,rfl⟩
 rw [eb] at Z0 ⊢
 clear eb
 replace F5:=zh (F5.out.later h)
 replace F7:=zh (F7.out.later h)
 replace F9:=zh (F9.out.later h)
 replace HB:=zh (Bt HB.out h)
 have F10:=zh (nu Z0.out F7.out F9.out)
 clear h Z0
 refine (is_ok _ [q2,q3] _ F10.out).mono ?_
 rintro e u15 ⟨⟨_,rfl,a14,v14,rfl,ha,hv⟩,h⟩
 clear F7 F9 F10
 replace F5:=zh (F5.out.later h)
 replace HB:=zh (Bt HB.out h)
 have MO:=zh ha
 have MK:=zh hv
 clear ha hv
 clear h
 go_wp2_with fail
 obtain ⟨z16,EW,h,Z0⟩:=al1 u15 #[.string ⟨#[48]⟩,.string ⟨#[49]⟩] 9
 rw [EW]
 clear EW
 obtain ⟨b16,eb⟩:∃ y,u15.heap.size=y:=⟨_,rfl⟩
 rw [eb] at Z0 ⊢
 clear eb
 replace F5:=zh (F5.out.later h)
 replace MO:=zh (MO.out.later h)
 replace MK:=zh (MK.out.later h)
 replace HB:=zh (Bt HB.out h)
 have F13:=zh (dI Z0.out)
 clear h Z0
 refine (Q4.out _ _ F13.out).mono ?_
 rintro e u18 ⟨a17,c17,rfl,h,hf⟩
 clear F13
 replace F5:=zh (F5.out.later h)
 replace MO:=zh (MO.out.later h)
 replace MK:=zh (MK.out.later h)
 replace HB:=zh (Bt HB.out h)
 have ZH:=zh hf
 clear hf
 clear h
 go_wp2_with fail
 obtain ⟨z19,EW,h,Z0⟩:=al1 u18 #[.string ⟨#[49]⟩,.string ⟨#[48]⟩] 9
 rw [EW]
 clear EW
 obtain ⟨b19,eb⟩:∃ y,u18.heap.size=y:=⟨_,rfl⟩
 rw [eb] at Z0 ⊢
 clear eb
 replace F5:=zh (F5.out.later h)
 replace MO:=zh (MO.out.later h)
 replace MK:=zh (MK.out.later h)
 replace ZH:=zh (ZH.out.later h)
 replace HB:=zh (Bt HB.out h)
 have F15:=zh (dI Z0.out)
 clear h Z0
 refine (Q5.out _ _ F15.out).mono ?_
 rintro e u21 ⟨a20,c20,rfl,h,hf⟩
 clear F15
 replace F5:=zh (F5.out.later h)
 replace MO:=zh (MO.out.later h)
 replace MK:=zh (MK.out.later h)
 replace ZH:=zh (ZH.out.later h)
 replace HB:=zh (Bt HB.out h)
 have F16:=zh hf
 clear hf
 clear h
 go_wp2_with fail
 obtain ⟨z22,EW,h,Z0⟩:=al1 u21 #[.slice a17 q4.length c17,.slice a20 q5.length c20] 29
 rw [EW]
 clear EW
 obtain ⟨b22,eb⟩:∃ y,u21.heap.size=y:=⟨_,rfl⟩
 rw [eb] at Z0 ⊢
 clear eb
 replace F5:=zh (F5.out.later h)
 replace MO:=zh (MO.out.later h)
 replace MK:=zh (MK.out.later h)
 replace ZH:=zh (ZH.out.later h)
 replace F16:=zh (F16.out.later h)
 replace HB:=zh (Bt HB.out h)
 have F17:=zh (nu Z0.out ZH.out F16.out)
 clear h Z0
 refine (C0.out _ _ _ F5.out F17.out (HP.out.later HB.out)).mono ?_
 rintro e u24 ⟨aO0,aM5,rfl,h,hf⟩
 clear ZH F16 F17
 replace F5:=zh (F5.out.later h)
 replace MO:=zh (MO.out.later h)
 replace MK:=zh (MK.out.later h)
 replace HB:=zh (Bt HB.out h)
 have F18:=zh hf
 clear hf
 clear h
 go_wp2_with fail
 refine (yZ _ [q2,q3] a14 v14 _ F18.out MO.out MK.out).mono ?_
 rintro e u25 ⟨rfl,h⟩
 clear MO MK F18
 replace F5:=zh (F5.out.later h)
 replace HB:=zh (Bt HB.out h)
 clear h
 go_wp2_with fail
 refine (fails_ok 2 _).mono ?_
 rintro e u27 ⟨⟨_,rfl,a26,rfl,ha⟩,h⟩
 replace F5:=zh (F5.out.later h)
 replace HB:=zh (Bt HB.out h)
 have MJ:=zh ha
 clear ha
 clear h
 go_wp2_with fail
 obtain ⟨z28,EW,h,Z0⟩:=al1 u27 #[.string ⟨#[49]⟩,.string ⟨#[50]⟩] 9
 rw [EW]
 clear EW
 obtain ⟨b28,eb⟩:∃ y,u27.heap.size=y:=⟨_,rfl⟩
 rw [eb] at Z0 ⊢
 clear eb
 replace F5:=zh (F5.out.later h)
 replace MJ:=zh (MJ.out.later h)
 replace HB:=zh (Bt HB.out h)
 have F20:=zh (dI Z0.out)
 clear h Z0
 refine (Q0.out _ _ F20.out).mono ?_
 rintro e u30 ⟨a29,c29,rfl,h,hf⟩
 clear F20
 replace F5:=zh (F5.out.later h)
 replace MJ:=zh (MJ.out.later h)
 replace HB:=zh (Bt HB.out h)
 have F21:=zh hf
 clear hf
 clear h
 go_wp2_with fail
 obtain ⟨z31,EW,h,Z0,Z1⟩:=al2 u30 #[.slice a29 q0.length c29] 29 #[.string ⟨#[49]⟩,.string ⟨#[50]⟩] 9
 rw [EW]
 clear EW
 obtain ⟨b31,eb⟩:∃ y,u30.heap.size=y:=⟨_,rfl⟩
 rw [eb] at Z0 Z1 ⊢
 clear eb
 replace F5:=zh (F5.out.later h)
 replace MJ:=zh (MJ.out.later h)
 replace F21:=zh (F21.out.later h)
 replace HB:=zh (Bt HB.out h)
 have F22:=zh (xP Z0.out F21.out)
 have F23:=zh (dI Z1.out)
 clear h Z0 Z1
 refine (Q0.out _ _ F23.out).mono ?_
 rintro e u33 ⟨a32,c32,rfl,h,hf⟩
 clear F21 F23
 replace F5:=zh (F5.out.later h)
 replace MJ:=zh (MJ.out.later h)
 replace F22:=zh (F22.out.later h)
 replace HB:=zh (Bt HB.out h)
 have F24:=zh hf
 clear hf
 clear h
 go_wp2_with fail
 obtain ⟨z34,EW,h,Z0⟩:=al1 u33 #[.slice a32 q0.length c32] 29
 rw [EW]
 clear EW
 obtain ⟨b34,eb⟩:∃ y,u33.heap.size=y:=⟨_,rfl⟩
 rw [eb] at Z0 ⊢
 clear eb
 replace F5:=zh (F5.out.later h)
 replace MJ:=zh (MJ.out.later h)
 replace F22:=zh (F22.out.later h)
 replace F24:=zh (F24.out.later h)
 replace HB:=zh (Bt HB.out h)
 have F25:=zh (xP Z0.out F24.out)
 clear h Z0
 refine (C1.out _ _ _ F22.out F25.out (HP.out.later HB.out)).mono ?_
 rintro e u36 ⟨rfl,h⟩
 clear F22 F24 F25
 replace F5:=zh (F5.out.later h)
 replace MJ:=zh (MJ.out.later h)
 replace HB:=zh (Bt HB.out h)
 clear h
 go_wp2_with fail
 refine (fails1_ok 2 a26 _ MJ.out).mono ?_
 rintro e u37 ⟨rfl,h⟩
 clear MJ
 replace F5:=zh (F5.out.later h)
 replace HB:=zh (Bt HB.out h)
 clear h
 go_wp2_with fail
 obtain ⟨z38,EW,h,Z0⟩:=al1 u37 #[.string ⟨#[45,50]⟩,.string ⟨#[49]⟩] 9
 rw [EW]
 clear EW
 obtain ⟨b38,eb⟩:∃ y,u37.heap.size=y:=⟨_,rfl⟩
 rw [eb] at Z0 ⊢
 clear eb
 replace F5:=zh (F5.out.later h)
 replace HB:=zh (Bt HB.out h)
 have F26:=zh (dI Z0.out)
 clear h Z0
 refine (Q6.out _ _ F26.out).mono ?_
 rintro e u40 ⟨a39,c39,rfl,h,hf⟩
 clear F26
 replace F5:=zh (F5.out.later h)
 replace HB:=zh (Bt HB.out h)
 have F27:=zh hf
 clear hf
 clear h
 go_wp2_with fail
 obtain ⟨z41,EW,h,Z0⟩:=al1 u40 #[.string ⟨#[51,47,50]⟩,.string ⟨#[45,49,47,50]⟩] 9
 rw [EW]
 clear EW
 obtain ⟨b41,eb⟩:∃ y,u40.heap.size=y:=⟨_,rfl⟩
 rw [eb] at Z0 ⊢
 clear eb
 replace F5:=zh (F5.out.later h)
 replace F27:=zh (F27.out.later h)
 replace HB:=zh (Bt HB.out h)
 have F28:=zh (dI Z0.out)
 clear h Z0
 refine (Q7.out _ _ F28.out).mono ?_
 rintro e u43 ⟨a42,c42,rfl,h,hf⟩
 clear F28
 replace F5:=zh (F5.out.later h)
 replace F27:=zh (F27.out.later h)
 replace HB:=zh (Bt HB.out h)
 have F29:=zh hf
 clear hf
 clear h
 go_wp2_with fail
 obtain ⟨z44,EW,h,Z0⟩:=al1 u43 #[.slice a39 q6.length c39,.slice a42 q7.length c42] 29
 rw [EW]
 clear EW
 obtain ⟨b44,eb⟩:∃ y,u43.heap.size=y:=⟨_,rfl⟩
 rw [eb] at Z0 ⊢
 clear eb
 replace F5:=zh (F5.out.later h)
 replace F27:=zh (F27.out.later h)
 replace F29:=zh (F29.out.later h)
 replace HB:=zh (Bt HB.out h)
 have F30:=zh (nu Z0.out F27.out F29.out)
 clear h Z0
 refine (is_ok _ [q6,q7] _ F30.out).mono ?_
 rintro e u46 ⟨⟨_,rfl,a45,v45,rfl,ha,hv⟩,h⟩
 clear F27 F29 F30
 replace F5:=zh (F5.out.later h)
 replace HB:=zh (Bt HB.out h)
 have F31:=zh ha
 have F32:=zh hv
 clear ha hv
 clear h
 go_wp2_with fail
 refine (C2.out _ _ F5.out (HP.out.later HB.out)).mono ?_
 rintro e u48 ⟨aN9,aM4,rfl,h,hf⟩
 replace F5:=zh (F5.out.later h)
 replace F31:=zh (F31.out.later h)
 replace F32:=zh (F32.out.later h)
 replace HB:=zh (Bt HB.out h)
 have F33:=zh hf
 clear hf
 clear h
 go_wp2_with fail
 refine (yZ _ [q6,q7] a45 v45 _ F33.out F31.out F32.out).mono ?_
 rintro e u49 ⟨rfl,h⟩
 clear F31 F32 F33
 replace F5:=zh (F5.out.later h)
 replace HB:=zh (Bt HB.out h)
 clear h
 go_wp2_with fail
 refine (fails_ok 7 _).mono ?_
 rintro e u51 ⟨⟨_,rfl,a50,rfl,ha⟩,h⟩
 replace F5:=zh (F5.out.later h)
 replace HB:=zh (Bt HB.out h)
 have MH:=zh ha
 clear ha
 clear h
 go_wp2_with fail
 obtain ⟨z52,EW,h,Z0⟩:=al1 u51 #[.string ⟨#[49]⟩,.string ⟨#[50]⟩] 9
 rw [EW]
 clear EW
 obtain ⟨b52,eb⟩:∃ y,u51.heap.size=y:=⟨_,rfl⟩
 rw [eb] at Z0 ⊢
 clear eb
 replace F5:=zh (F5.out.later h)
 replace MH:=zh (MH.out.later h)
 replace HB:=zh (Bt HB.out h)
 have F35:=zh (dI Z0.out)
 clear h Z0
 refine (Q0.out _ _ F35.out).mono ?_
 rintro e u54 ⟨a53,c53,rfl,h,hf⟩
 clear F35
 replace F5:=zh (F5.out.later h)
 replace MH:=zh (MH.out.later h)
 replace HB:=zh (Bt HB.out h)
 have ZG:=zh hf
 clear hf
 clear h
 go_wp2_with fail
 obtain ⟨z55,EW,h,Z0⟩:=al1 u54 #[.string ⟨#[50]⟩,.string ⟨#[52]⟩] 9
 rw [EW]
 clear EW
 obtain ⟨b55,eb⟩:∃ y,u54.heap.size=y:=⟨_,rfl⟩
 rw [eb] at Z0 ⊢
 clear eb
 replace F5:=zh (F5.out.later h)
 replace MH:=zh (MH.out.later h)
 replace ZG:=zh (ZG.out.later h)
 replace HB:=zh (Bt HB.out h)
 have F37:=zh (dI Z0.out)
 clear h Z0
 refine (Q8.out _ _ F37.out).mono ?_
 rintro e u57 ⟨a56,c56,rfl,h,hf⟩
 clear F37
 replace F5:=zh (F5.out.later h)
 replace MH:=zh (MH.out.later h)
 replace ZG:=zh (ZG.out.later h)
 replace HB:=zh (Bt HB.out h)
 have F38:=zh hf
 clear hf
 clear h
 go_wp2_with fail
 obtain ⟨z58,EW,h,Z0⟩:=al1 u57 #[.slice a53 q0.length c53,.slice a56 q8.length c56] 29
 rw [EW]
 clear EW
 obtain ⟨b58,eb⟩:∃ y,u57.heap.size=y:=⟨_,rfl⟩
 rw [eb] at Z0 ⊢
 clear eb
 replace F5:=zh (F5.out.later h)
 replace MH:=zh (MH.out.later h)
 replace ZG:=zh (ZG.out.later h)
 replace F38:=zh (F38.out.later h)
 replace HB:=zh (Bt HB.out h)
 have F39:=zh (nu Z0.out ZG.out F38.out)
 clear h Z0
 refine (C3.out _ _ F39.out (HP.out.later HB.out)).mono ?_
 rintro e u60 ⟨rfl,h⟩
 clear ZG F38 F39
 replace F5:=zh (F5.out.later h)
 replace MH:=zh (MH.out.later h)
 replace HB:=zh (Bt HB.out h)
 clear h
 go_wp2_with fail
 refine (fails1_ok 7 a50 _ MH.out).mono ?_
 rintro e u61 ⟨rfl,h⟩
 clear MH
 replace F5:=zh (F5.out.later h)
 replace HB:=zh (Bt HB.out h)
 clear h
 go_wp2_with fail
 refine (C4.out _ _ F5.out (HP.out.later HB.out)).mono ?_
 rintro e u62 ⟨rfl,h⟩
 replace F5:=zh (F5.out.later h)
 replace HB:=zh (Bt HB.out h)
 clear h
 go_wp2_with fail
 obtain ⟨z63,EW,h,Z0⟩:=al1 u62 #[.string ⟨#[45,50]⟩,.string ⟨#[49]⟩] 59
 rw [EW]
 clear EW
 obtain ⟨b63,eb⟩:∃ y,u62.heap.size=y:=⟨_,rfl⟩
 rw [eb] at Z0 ⊢
 clear eb
 replace F5:=zh (F5.out.later h)
 replace HB:=zh (Bt HB.out h)
 have F40:=zh Z0.out
 clear h Z0
 have Qk:= @run_eqFr_same
 refine xu (mk:=as0) [(.pure,0),(.pure,1),(.read,2),(.alloc #[.string ⟨#[45,50]⟩] 9,3),(.ext,4),(.pure,5),(.read,6),(.pure,7),(.pure,8),(.pure,9),(.pure,10),(.pure,11),(.pure,12),(.pure,13),(.pure,16),(.alloc #[.string ⟨#[55,47,54]⟩,.string ⟨#[49,55,47,54]⟩] 9,14),(.ext,15),(.alloc #[.string ⟨#[49,47,50]⟩,.string ⟨#[49,47,51]⟩] 9,17),(.ext,18),(.ext,19),(.pure,20),(.pure,21),(.ext,22),(.pure,23),(.pure,24),(.pure,26),(.pure,27),(.ext,25),(.alloc #[.string ⟨#[49]⟩] 9,28),(.ext,29),(.ext,30),(.pure,31),(.pure,32),(.ext,33),(.pure,34),(.pure,35),(.alloc #[.string ⟨#[49]⟩] 9,36),(.ext,37),(.alloc #[.string ⟨#[50]⟩] 9,38),(.ext,39),(.alloc #[.string ⟨#[51]⟩] 9,40),(.ext,41),(.ext,42),(.ext,43),(.alloc #[.string ⟨#[49]⟩,.string ⟨#[50]⟩,.string ⟨#[51]⟩] 9,44),(.ext,45),(.ext,46),(.ext,47),(.pure,48),(.pure,49),(.ext,50),(.pure,51),(.pure,52),(.alloc #[.string ⟨#[49]⟩,.string ⟨#[48]⟩] 9,53),(.ext,54),(.alloc #[.string ⟨#[48]⟩,.string ⟨#[49]⟩] 9,55),(.ext,56),(.ext,57),(.ext,58),(.ext,59),(.pure,60),(.pure,61),(.ext,62),(.pure,63),(.pure,64),(.ext,65),(.ext,66),(.pure,67),(.pure,68),(.ext,69),(.pure,70),(.pure,71),(.alloc #[.string ⟨#[50]⟩,.string ⟨#[48]⟩] 9,72),(.ext,73),(.alloc #[.string ⟨#[48]⟩,.string ⟨#[51]⟩] 9,74),(.ext,75),(.ext,76),(.ext,77),(.alloc #[.string ⟨#[50]⟩,.string ⟨#[51]⟩] 9,78),(.ext,79),(.ext,80),(.pure,81),(.pure,82),(.ext,83),(.pure,84),(.fin,85)] zk zk (WV (L:=[(#[.string ⟨#[45,50]⟩],9,3),(#[.string ⟨#[55,47,54]⟩,.string ⟨#[49,55,47,54]⟩],9,14),(#[.string ⟨#[49,47,50]⟩,.string ⟨#[49,47,51]⟩],9,17),(#[.string ⟨#[49]⟩],9,28),(#[.string ⟨#[49]⟩],9,36),(#[.string ⟨#[50]⟩],9,38),(#[.string ⟨#[51]⟩],9,40),(#[.string ⟨#[49]⟩,.string ⟨#[50]⟩,.string ⟨#[51]⟩],9,44),(#[.string ⟨#[49]⟩,.string ⟨#[48]⟩],9,53),(#[.string ⟨#[48]⟩,.string ⟨#[49]⟩],9,55),(#[.string ⟨#[50]⟩,.string ⟨#[48]⟩],9,72),(#[.string ⟨#[48]⟩,.string ⟨#[51]⟩],9,74),(#[.string ⟨#[50]⟩,.string ⟨#[51]⟩],9,78)]) (by rfl) (by simp only [List.forall_mem_cons,List.not_mem_nil,false_implies,implies_true,and_true];refine ⟨?_,?_,?_,?_,?_,?_,?_,?_,?_,?_,?_,?_,?_⟩<;>(intro o ho a w;obtain rfl:=Option.some.inj ho;go_simp;rfl))) zP (Wm.out (?_:Wm _ _ _ _ _ _ _ _ _))
 have aH2:=F40.out.cell
 have aD2:=F40.out.lt
 repeat (first|(apply aV;(rfl);(rfl);(rfl);(intro J hJ;go_simp;(with_reducible refine hJ _ ?_);clear hJ J))|(apply aW;(rfl);(rfl);(intro J hJ;go_simp;(with_reducible refine hJ _ ?_);clear hJ J))|(apply aX;(rfl);(rfl);(rfl);(rfl);(intro J hJ;go_simp;(with_reducible refine hJ _ ?_);clear hJ J;try go_simp)))
 clear aH2 aD2
 refine iM rfl rfl (fun b64 u64 hbe hN hb1 hA hblk J hJ=>?_)
 go_simp
 have hy:Below z63.heap.size z63 u64:=belA
 refine hJ _ _ rfl ?_
 clear hJ J hbe hN hb1 hA
 clear F40
 replace F5:=zh (F5.out.later hy)
 replace HB:=zh (Bt HB.out hy)
 have F41:=zh (nT hblk)
 clear hblk hy
 repeat (first|(apply aV;(rfl);(rfl);(rfl);(intro J hJ;go_simp;(with_reducible refine hJ _ ?_);clear hJ J))|(apply aW;(rfl);(rfl);(intro J hJ;go_simp;(with_reducible refine hJ _ ?_);clear hJ J))|(apply aX;(rfl);(rfl);(rfl);(rfl);(intro J hJ;go_simp;(with_reducible refine hJ _ ?_);clear hJ J;try go_simp)))
 refine dD rfl rfl (fun we hbe J hJ=>?_)
 go_simp
 have hx:Below u64.heap.size u64 we:=belA
 have jr:=zh (Bt HB.out hx)
 refine (C5.out _ _ (F41.out.later hx)).mono ?_
 rintro e u66 ⟨b65,o65,c65,rfl,h,lb,x1,x2⟩
 have hy:=Bt hx h
 refine hJ _ _ h ?_
 clear hJ J hbe hx h jr
 clear F41
 replace F5:=zh (F5.out.later hy)
 replace HB:=zh (Bt HB.out hy)
 clear hy
 repeat (first|(apply aV;(rfl);(rfl);(rfl);(intro J hJ;go_simp;(with_reducible refine hJ _ ?_);clear hJ J))|(apply aW;(rfl);(rfl);(intro J hJ;go_simp;(with_reducible refine hJ _ ?_);clear hJ J))|(apply aX;(rfl);(rfl);(rfl);(rfl);(intro J hJ;go_simp;(with_reducible refine hJ _ ?_);clear hJ J;try go_simp)))
 clear x1 x2 lb
 refine iM rfl rfl (fun b67 u67 hbe hN hb1 hA hblk J hJ=>?_)
 go_simp
 have hy:Below u66.heap.size u66 u67:=belA
 refine hJ _ _ rfl ?_
 clear hJ J hbe hN hb1 hA
 replace F5:=zh (F5.out.later hy)
 replace HB:=zh (Bt HB.out hy)
 have F42:=zh (dI hblk)
 clear hblk hy
 repeat (first|(apply aV;(rfl);(rfl);(rfl);(intro J hJ;go_simp;(with_reducible refine hJ _ ?_);clear hJ J))|(apply aW;(rfl);(rfl);(intro J hJ;go_simp;(with_reducible refine hJ _ ?_);clear hJ J))|(apply aX;(rfl);(rfl);(rfl);(rfl);(intro J hJ;go_simp;(with_reducible refine hJ _ ?_);clear hJ J;try go_simp)))
 refine dD rfl rfl (fun we hbe J hJ=>?_)
 go_simp
 have hx:Below u67.heap.size u67 we:=belA
 have jr:=zh (Bt HB.out hx)
 refine (Sj _ [⟨#[55,47,54]⟩,⟨#[49,55,47,54]⟩] _ (F42.out.later hx)).mono ?_
 rintro e u69 ⟨⟨_,rfl,a68,v68,rfl,ha,hv⟩,h⟩
 have hy:=Bt hx h
 refine hJ _ _ h ?_
 clear hJ J hbe hx h jr
 clear F42
 replace F5:=zh (F5.out.later hy)
 replace HB:=zh (Bt HB.out hy)
 have ZF:=zh ha
 have ZE:=zh hv
 clear ha hv
 clear hy
 repeat (first|(apply aV;(rfl);(rfl);(rfl);(intro J hJ;go_simp;(with_reducible refine hJ _ ?_);clear hJ J))|(apply aW;(rfl);(rfl);(intro J hJ;go_simp;(with_reducible refine hJ _ ?_);clear hJ J))|(apply aX;(rfl);(rfl);(rfl);(rfl);(intro J hJ;go_simp;(with_reducible refine hJ _ ?_);clear hJ J;try go_simp)))
 refine iM rfl rfl (fun b70 u70 hbe hN hb1 hA hblk J hJ=>?_)
 go_simp
 have hy:Below u69.heap.size u69 u70:=belA
 refine hJ _ _ rfl ?_
 clear hJ J hbe hN hb1 hA
 replace F5:=zh (F5.out.later hy)
 replace ZF:=zh (ZF.out.later hy)
 replace ZE:=zh (ZE.out.later hy)
 replace HB:=zh (Bt HB.out hy)
 have F45:=zh (dI hblk)
 clear hblk hy
 repeat (first|(apply aV;(rfl);(rfl);(rfl);(intro J hJ;go_simp;(with_reducible refine hJ _ ?_);clear hJ J))|(apply aW;(rfl);(rfl);(intro J hJ;go_simp;(with_reducible refine hJ _ ?_);clear hJ J))|(apply aX;(rfl);(rfl);(rfl);(rfl);(intro J hJ;go_simp;(with_reducible refine hJ _ ?_);clear hJ J;try go_simp)))
 refine dD rfl rfl (fun we hbe J hJ=>?_)
 go_simp
 have hx:Below u70.heap.size u70 we:=belA
 have jr:=zh (Bt HB.out hx)
 refine (Q9.out _ _ (F45.out.later hx)).mono ?_
 rintro e u72 ⟨a71,c71,rfl,h,hf⟩
 have hy:=Bt hx h
 refine hJ _ _ h ?_
 clear hJ J hbe hx h jr
 clear F45
 replace F5:=zh (F5.out.later hy)
 replace ZF:=zh (ZF.out.later hy)
 replace ZE:=zh (ZE.out.later hy)
 replace HB:=zh (Bt HB.out hy)
 have F46:=zh hf
 clear hf
 clear hy
 repeat (first|(apply aV;(rfl);(rfl);(rfl);(intro J hJ;go_simp;(with_reducible refine hJ _ ?_);clear hJ J))|(apply aW;(rfl);(rfl);(intro J hJ;go_simp;(with_reducible refine hJ _ ?_);clear hJ J))|(apply aX;(rfl);(rfl);(rfl);(rfl);(intro J hJ;go_simp;(with_reducible refine hJ _ ?_);clear hJ J;try go_simp)))
 refine dD rfl rfl (fun we hbe J hJ=>?_)
 go_simp
 have hx:Below u72.heap.size u72 we:=belA
 have jr:=zh (Bt HB.out hx)
 refine (C6.out _ _ _ (F5.out.later hx) (F46.out.later hx) (HP.out.later jr.out)).mono ?_
 rintro e u74 ⟨aN8,aM3,rfl,h,hf⟩
 have hy:=Bt hx h
 refine hJ _ _ h ?_
 clear hJ J hbe hx h jr
 clear F46
 replace F5:=zh (F5.out.later hy)
 replace ZF:=zh (ZF.out.later hy)
 replace ZE:=zh (ZE.out.later hy)
 replace HB:=zh (Bt HB.out hy)
 have F47:=zh hf
 clear hf
 clear hy
 repeat (first|(apply aV;(rfl);(rfl);(rfl);(intro J hJ;go_simp;(with_reducible refine hJ _ ?_);clear hJ J))|(apply aW;(rfl);(rfl);(intro J hJ;go_simp;(with_reducible refine hJ _ ?_);clear hJ J))|(apply aX;(rfl);(rfl);(rfl);(rfl);(intro J hJ;go_simp;(with_reducible refine hJ _ ?_);clear hJ J;try go_simp)))
 refine dD rfl rfl (fun we hbe J hJ=>?_)
 go_simp
 have hx:Below u74.heap.size u74 we:=belA
 have jr:=zh (Bt HB.out hx)
 refine (Oh _ [⟨#[55,47,54]⟩,⟨#[49,55,47,54]⟩] a68 v68 _ (by rw [E10.out];exact (F47.out.later hx)) (ZF.out.later hx) (ZE.out.later hx) zd (IU (by decide+kernel))).mono ?_
 rintro e u75 ⟨rfl,h⟩
 have hy:=Bt hx h
 refine hJ _ _ h ?_
 clear hJ J hbe hx h jr
 clear ZF ZE F47
 replace F5:=zh (F5.out.later hy)
 replace HB:=zh (Bt HB.out hy)
 clear hy
 have ZC:=zh (RZ 1 F5.out zd)
 repeat (first|(apply aV;(rfl);(rfl);(rfl);(intro J hJ;go_simp;(with_reducible refine hJ _ ?_);clear hJ J))|(apply aW;(rfl);(rfl);(intro J hJ;go_simp;(with_reducible refine hJ _ ?_);clear hJ J))|(apply aX;(rfl);(rfl);(rfl);(rfl);(intro J hJ;go_simp;(with_reducible refine hJ _ ?_);clear hJ J;try go_simp)))
 refine dD rfl rfl (fun we hbe J hJ=>?_)
 go_simp
 have hx:Below u75.heap.size u75 we:=belA
 have jr:=zh (Bt HB.out hx)
 refine (WG 2 _).mono ?_
 rintro e u77 ⟨⟨_,rfl,a76,rfl,ha⟩,h⟩
 have hy:=Bt hx h
 refine hJ _ _ h ?_
 clear hJ J hbe hx h jr
 clear F5
 replace ZC:=zh (ZC.out.later hy)
 replace HB:=zh (Bt HB.out hy)
 have ZB:=zh ha
 clear ha
 clear hy
 repeat (first|(apply aV;(rfl);(rfl);(rfl);(intro J hJ;go_simp;(with_reducible refine hJ _ ?_);clear hJ J))|(apply aW;(rfl);(rfl);(intro J hJ;go_simp;(with_reducible refine hJ _ ?_);clear hJ J))|(apply aX;(rfl);(rfl);(rfl);(rfl);(intro J hJ;go_simp;(with_reducible refine hJ _ ?_);clear hJ J;try go_simp)))
 refine iM rfl rfl (fun b78 u78 hbe hN hb1 hA hblk J hJ=>?_)
 go_simp
 have hy:Below u77.heap.size u77 u78:=belA
 refine hJ _ _ rfl ?_
 clear hJ J hbe hN hb1 hA
 replace ZC:=zh (ZC.out.later hy)
 replace ZB:=zh (ZB.out.later hy)
 replace HB:=zh (Bt HB.out hy)
 have F50:=zh (nT hblk)
 clear hblk hy
 repeat (first|(apply aV;(rfl);(rfl);(rfl);(intro J hJ;go_simp;(with_reducible refine hJ _ ?_);clear hJ J))|(apply aW;(rfl);(rfl);(intro J hJ;go_simp;(with_reducible refine hJ _ ?_);clear hJ J))|(apply aX;(rfl);(rfl);(rfl);(rfl);(intro J hJ;go_simp;(with_reducible refine hJ _ ?_);clear hJ J;try go_simp)))
 refine dD rfl rfl (fun we hbe J hJ=>?_)
 go_simp
 have hx:Below u78.heap.size u78 we:=belA
 have jr:=zh (Bt HB.out hx)
 refine (Q11.out _ _ (F50.out.later hx)).mono ?_
 rintro e u80 ⟨a79,c79,rfl,h,hf⟩
 have hy:=Bt hx h
 refine hJ _ _ h ?_
 clear hJ J hbe hx h jr
 clear F50
 replace ZC:=zh (ZC.out.later hy)
 replace ZB:=zh (ZB.out.later hy)
 replace HB:=zh (Bt HB.out hy)
 have F51:=zh hf
 clear hf
 clear hy
 repeat (first|(apply aV;(rfl);(rfl);(rfl);(intro J hJ;go_simp;(with_reducible refine hJ _ ?_);clear hJ J))|(apply aW;(rfl);(rfl);(intro J hJ;go_simp;(with_reducible refine hJ _ ?_);clear hJ J))|(apply aX;(rfl);(rfl);(rfl);(rfl);(intro J hJ;go_simp;(with_reducible refine hJ _ ?_);clear hJ J;try go_simp)))
 refine dD rfl rfl (fun we hbe J hJ=>?_)
 go_simp
 have hx:Below u80.heap.size u80 we:=belA
 have jr:=zh (Bt HB.out hx)
 refine (C7.out _ _ _ (ZC.out.later hx) (F51.out.later hx) (HP.out.later jr.out)).mono ?_
 rintro e u82 ⟨rfl,h⟩
 have hy:=Bt hx h
 refine hJ _ _ h ?_
 clear hJ J hbe hx h jr
 clear ZC F51
 replace ZB:=zh (ZB.out.later hy)
 replace HB:=zh (Bt HB.out hy)
 clear hy
 repeat (first|(apply aV;(rfl);(rfl);(rfl);(intro J hJ;go_simp;(with_reducible refine hJ _ ?_);clear hJ J))|(apply aW;(rfl);(rfl);(intro J hJ;go_simp;(with_reducible refine hJ _ ?_);clear hJ J))|(apply aX;(rfl);(rfl);(rfl);(rfl);(intro J hJ;go_simp;(with_reducible refine hJ _ ?_);clear hJ J;try go_simp)))
 refine dD rfl rfl (fun we hbe J hJ=>?_)
 go_simp
 have hx:Below u82.heap.size u82 we:=belA
 have jr:=zh (Bt HB.out hx)
 refine (RH 2 a76 _ (ZB.out.later hx)).mono ?_
 rintro e u83 ⟨rfl,h⟩
 have hy:=Bt hx h
 refine hJ _ _ h ?_
 clear hJ J hbe hx h jr
 clear ZB
 replace HB:=zh (Bt HB.out hy)
 clear hy
 repeat (first|(apply aV;(rfl);(rfl);(rfl);(intro J hJ;go_simp;(with_reducible refine hJ _ ?_);clear hJ J))|(apply aW;(rfl);(rfl);(intro J hJ;go_simp;(with_reducible refine hJ _ ?_);clear hJ J))|(apply aX;(rfl);(rfl);(rfl);(rfl);(intro J hJ;go_simp;(with_reducible refine hJ _ ?_);clear hJ J;try go_simp)))
 refine iM rfl rfl (fun b84 u84 hbe hN hb1 hA hblk J hJ=>?_)
 go_simp
 have hy:Below u83.heap.size u83 u84:=belA
 refine hJ _ _ rfl ?_
 clear hJ J hbe hN hb1 hA
 replace HB:=zh (Bt HB.out hy)
 have F52:=zh (nT hblk)
 clear hblk hy
 repeat (first|(apply aV;(rfl);(rfl);(rfl);(intro J hJ;go_simp;(with_reducible refine hJ _ ?_);clear hJ J))|(apply aW;(rfl);(rfl);(intro J hJ;go_simp;(with_reducible refine hJ _ ?_);clear hJ J))|(apply aX;(rfl);(rfl);(rfl);(rfl);(intro J hJ;go_simp;(with_reducible refine hJ _ ?_);clear hJ J;try go_simp)))
 refine dD rfl rfl (fun we hbe J hJ=>?_)
 go_simp
 have hx:Below u84.heap.size u84 we:=belA
 have jr:=zh (Bt HB.out hx)
 refine (Q11.out _ _ (F52.out.later hx)).mono ?_
 rintro e u86 ⟨a85,c85,rfl,h,hf⟩
 have hy:=Bt hx h
 refine hJ _ _ h ?_
 clear hJ J hbe hx h jr
 clear F52
 replace HB:=zh (Bt HB.out hy)
 have Ql:=zh hf
 clear hf
 clear hy
 repeat (first|(apply aV;(rfl);(rfl);(rfl);(intro J hJ;go_simp;(with_reducible refine hJ _ ?_);clear hJ J))|(apply aW;(rfl);(rfl);(intro J hJ;go_simp;(with_reducible refine hJ _ ?_);clear hJ J))|(apply aX;(rfl);(rfl);(rfl);(rfl);(intro J hJ;go_simp;(with_reducible refine hJ _ ?_);clear hJ J;try go_simp)))
 refine iM rfl rfl (fun b87 u87 hbe hN hb1 hA hblk J hJ=>?_)
 go_simp
 have hy:Below u86.heap.size u86 u87:=belA
 refine hJ _ _ rfl ?_
 clear hJ J hbe hN hb1 hA
 replace Ql:=zh (Ql.out.later hy)
 replace HB:=zh (Bt HB.out hy)
 have F54:=zh (nT hblk)
 clear hblk hy
 repeat (first|(apply aV;(rfl);(rfl);(rfl);(intro J hJ;go_simp;(with_reducible refine hJ _ ?_);clear hJ J))|(apply aW;(rfl);(rfl);(intro J hJ;go_simp;(with_reducible refine hJ _ ?_);clear hJ J))|(apply aX;(rfl);(rfl);(rfl);(rfl);(intro J hJ;go_simp;(with_reducible refine hJ _ ?_);clear hJ J;try go_simp)))
 refine dD rfl rfl (fun we hbe J hJ=>?_)
 go_simp
 have hx:Below u87.heap.size u87 we:=belA
 have jr:=zh (Bt HB.out hx)
 refine (Q12.out _ _ (F54.out.later hx)).mono ?_
 rintro e u89 ⟨a88,c88,rfl,h,hf⟩
 have hy:=Bt hx h
 refine hJ _ _ h ?_
 clear hJ J hbe hx h jr
 clear F54
 replace Ql:=zh (Ql.out.later hy)
 replace HB:=zh (Bt HB.out hy)
 have ZA:=zh hf
 clear hf
 clear hy
 repeat (first|(apply aV;(rfl);(rfl);(rfl);(intro J hJ;go_simp;(with_reducible refine hJ _ ?_);clear hJ J))|(apply aW;(rfl);(rfl);(intro J hJ;go_simp;(with_reducible refine hJ _ ?_);clear hJ J))|(apply aX;(rfl);(rfl);(rfl);(rfl);(intro J hJ;go_simp;(with_reducible refine hJ _ ?_);clear hJ J;try go_simp)))
 refine iM rfl rfl (fun b90 u90 hbe hN hb1 hA hblk J hJ=>?_)
 go_simp
 have hy:Below u89.heap.size u89 u90:=belA
 refine hJ _ _ rfl ?_
 clear hJ J hbe hN hb1 hA
 replace Ql:=zh (Ql.out.later hy)
 replace ZA:=zh (ZA.out.later hy)
 replace HB:=zh (Bt HB.out hy)
 have F56:=zh (nT hblk)
 clear hblk hy
 repeat (first|(apply aV;(rfl);(rfl);(rfl);(intro J hJ;go_simp;(with_reducible refine hJ _ ?_);clear hJ J))|(apply aW;(rfl);(rfl);(intro J hJ;go_simp;(with_reducible refine hJ _ ?_);clear hJ J))|(apply aX;(rfl);(rfl);(rfl);(rfl);(intro J hJ;go_simp;(with_reducible refine hJ _ ?_);clear hJ J;try go_simp)))
 refine dD rfl rfl (fun we hbe J hJ=>?_)
 go_simp
 have hx:Below u90.heap.size u90 we:=belA
 have jr:=zh (Bt HB.out hx)
 refine (Q13.out _ _ (F56.out.later hx)).mono ?_
 rintro e u92 ⟨a91,c91,rfl,h,hf⟩
 have hy:=Bt hx h
 refine hJ _ _ h ?_
 clear hJ J hbe hx h jr
 clear F56
 replace Ql:=zh (Ql.out.later hy)
 replace ZA:=zh (ZA.out.later hy)
 replace HB:=zh (Bt HB.out hy)
 have F57:=zh hf
 clear hf
 clear hy
 repeat (first|(apply aV;(rfl);(rfl);(rfl);(intro J hJ;go_simp;(with_reducible refine hJ _ ?_);clear hJ J))|(apply aW;(rfl);(rfl);(intro J hJ;go_simp;(with_reducible refine hJ _ ?_);clear hJ J))|(apply aX;(rfl);(rfl);(rfl);(rfl);(intro J hJ;go_simp;(with_reducible refine hJ _ ?_);clear hJ J;try go_simp)))
 refine dD rfl rfl (fun we hbe J hJ=>?_)
 have hx:Below u92.heap.size u92 we:=belA
 obtain ⟨z93,EW,h,Z⟩:=al1 we #[.slice a85 q11.length c85,.slice a88 q12.length c88,.slice a91 q13.length c91] 29
 go_simp
 (try rw [EW])
 clear EW
 obtain ⟨b93,eb⟩:∃ y,we.heap.size=y:=⟨_,rfl⟩
 (try rw [eb] at Z ⊢)
 clear eb
 have hy:=Bt hx h
 refine hJ _ _ h ?_
 clear hJ J hbe hx h
 replace Ql:=zh (Ql.out.later hy)
 replace ZA:=zh (ZA.out.later hy)
 replace F57:=zh (F57.out.later hy)
 replace HB:=zh (Bt HB.out hy)
 have F58:=zh (Od Z.out Ql.out ZA.out F57.out)
 clear Z hy
 repeat (first|(apply aV;(rfl);(rfl);(rfl);(intro J hJ;go_simp;(with_reducible refine hJ _ ?_);clear hJ J))|(apply aW;(rfl);(rfl);(intro J hJ;go_simp;(with_reducible refine hJ _ ?_);clear hJ J))|(apply aX;(rfl);(rfl);(rfl);(rfl);(intro J hJ;go_simp;(with_reducible refine hJ _ ?_);clear hJ J;try go_simp)))
 refine dD rfl rfl (fun we hbe J hJ=>?_)
 go_simp
 have hx:Below z93.heap.size z93 we:=belA
 have jr:=zh (Bt HB.out hx)
 refine (is_ok _ [q11,q12,q13] _ (F58.out.later hx)).mono ?_
 rintro e u95 ⟨⟨_,rfl,a94,v94,rfl,ha,hv⟩,h⟩
 have hy:=Bt hx h
 refine hJ _ _ h ?_
 clear hJ J hbe hx h jr
 clear Ql ZA F57 F58
 replace HB:=zh (Bt HB.out hy)
 have VB:=zh ha
 have Vz:=zh hv
 clear ha hv
 clear hy
 repeat (first|(apply aV;(rfl);(rfl);(rfl);(intro J hJ;go_simp;(with_reducible refine hJ _ ?_);clear hJ J))|(apply aW;(rfl);(rfl);(intro J hJ;go_simp;(with_reducible refine hJ _ ?_);clear hJ J))|(apply aX;(rfl);(rfl);(rfl);(rfl);(intro J hJ;go_simp;(with_reducible refine hJ _ ?_);clear hJ J;try go_simp)))
 refine iM rfl rfl (fun b96 u96 hbe hN hb1 hA hblk J hJ=>?_)
 go_simp
 have hy:Below u95.heap.size u95 u96:=belA
 refine hJ _ _ rfl ?_
 clear hJ J hbe hN hb1 hA
 replace VB:=zh (VB.out.later hy)
 replace Vz:=zh (Vz.out.later hy)
 replace HB:=zh (Bt HB.out hy)
 have F61:=zh (IZ hblk)
 clear hblk hy
 repeat (first|(apply aV;(rfl);(rfl);(rfl);(intro J hJ;go_simp;(with_reducible refine hJ _ ?_);clear hJ J))|(apply aW;(rfl);(rfl);(intro J hJ;go_simp;(with_reducible refine hJ _ ?_);clear hJ J))|(apply aX;(rfl);(rfl);(rfl);(rfl);(intro J hJ;go_simp;(with_reducible refine hJ _ ?_);clear hJ J;try go_simp)))
 refine dD rfl rfl (fun we hbe J hJ=>?_)
 go_simp
 have hx:Below u96.heap.size u96 we:=belA
 have jr:=zh (Bt HB.out hx)
 refine (Q14.out _ _ (F61.out.later hx)).mono ?_
 rintro e u98 ⟨a97,c97,rfl,h,hf⟩
 have hy:=Bt hx h
 refine hJ _ _ h ?_
 clear hJ J hbe hx h jr
 clear F61
 replace VB:=zh (VB.out.later hy)
 replace Vz:=zh (Vz.out.later hy)
 replace HB:=zh (Bt HB.out hy)
 have F62:=zh hf
 clear hf
 clear hy
 repeat (first|(apply aV;(rfl);(rfl);(rfl);(intro J hJ;go_simp;(with_reducible refine hJ _ ?_);clear hJ J))|(apply aW;(rfl);(rfl);(intro J hJ;go_simp;(with_reducible refine hJ _ ?_);clear hJ J))|(apply aX;(rfl);(rfl);(rfl);(rfl);(intro J hJ;go_simp;(with_reducible refine hJ _ ?_);clear hJ J;try go_simp)))
 refine dD rfl rfl (fun we hbe J hJ=>?_)
 have hx:Below u98.heap.size u98 we:=belA
 obtain ⟨z99,EW,h,Z⟩:=al1 we #[.slice a97 q14.length c97] 29
 go_simp
 (try rw [EW])
 clear EW
 obtain ⟨b99,eb⟩:∃ y,we.heap.size=y:=⟨_,rfl⟩
 (try rw [eb] at Z ⊢)
 clear eb
 have hy:=Bt hx h
 refine hJ _ _ h ?_
 clear hJ J hbe hx h
 replace VB:=zh (VB.out.later hy)
 replace Vz:=zh (Vz.out.later hy)
 replace F62:=zh (F62.out.later hy)
 replace HB:=zh (Bt HB.out hy)
 have F63:=zh (xP Z.out F62.out)
 clear Z hy
 repeat (first|(apply aV;(rfl);(rfl);(rfl);(intro J hJ;go_simp;(with_reducible refine hJ _ ?_);clear hJ J))|(apply aW;(rfl);(rfl);(intro J hJ;go_simp;(with_reducible refine hJ _ ?_);clear hJ J))|(apply aX;(rfl);(rfl);(rfl);(rfl);(intro J hJ;go_simp;(with_reducible refine hJ _ ?_);clear hJ J;try go_simp)))
 refine dD rfl rfl (fun we hbe J hJ=>?_)
 go_simp
 have hx:Below z99.heap.size z99 we:=belA
 have jr:=zh (Bt HB.out hx)
 refine (C8.out _ _ (F63.out.later hx)).mono ?_
 rintro e aq6 ⟨pa100,pc100,rfl,h,hf⟩
 have hy:=Bt hx h
 refine hJ _ _ h ?_
 clear hJ J hbe hx h jr
 clear F62 F63
 replace VB:=zh (VB.out.later hy)
 replace Vz:=zh (Vz.out.later hy)
 replace HB:=zh (Bt HB.out hy)
 have F64:=zh hf
 clear hf
 clear hy
 repeat (first|(apply aV;(rfl);(rfl);(rfl);(intro J hJ;go_simp;(with_reducible refine hJ _ ?_);clear hJ J))|(apply aW;(rfl);(rfl);(intro J hJ;go_simp;(with_reducible refine hJ _ ?_);clear hJ J))|(apply aX;(rfl);(rfl);(rfl);(rfl);(intro J hJ;go_simp;(with_reducible refine hJ _ ?_);clear hJ J;try go_simp)))
 refine dD rfl rfl (fun we hbe J hJ=>?_)
 go_simp
 have hx:Below aq6.heap.size aq6 we:=belA
 have jr:=zh (Bt HB.out hx)
 refine (yZ _ [q11,q12,q13] a94 v94 _ (F64.out.later hx) (VB.out.later hx) (Vz.out.later hx)).mono ?_
 rintro e aq5 ⟨rfl,h⟩
 have hy:=Bt hx h
 refine hJ _ _ h ?_
 clear hJ J hbe hx h jr
 clear VB Vz F64
 replace HB:=zh (Bt HB.out hy)
 clear hy
 repeat (first|(apply aV;(rfl);(rfl);(rfl);(intro J hJ;go_simp;(with_reducible refine hJ _ ?_);clear hJ J))|(apply aW;(rfl);(rfl);(intro J hJ;go_simp;(with_reducible refine hJ _ ?_);clear hJ J))|(apply aX;(rfl);(rfl);(rfl);(rfl);(intro J hJ;go_simp;(with_reducible refine hJ _ ?_);clear hJ J;try go_simp)))
 refine iM rfl rfl (fun aT8 aa8 hbe hN hb1 hA hblk J hJ=>?_)
 go_simp
 have hy:Below aq5.heap.size aq5 aa8:=belA
 refine hJ _ _ rfl ?_
 clear hJ J hbe hN hb1 hA
 replace HB:=zh (Bt HB.out hy)
 have F65:=zh (dI hblk)
 clear hblk hy
 repeat (first|(apply aV;(rfl);(rfl);(rfl);(intro J hJ;go_simp;(with_reducible refine hJ _ ?_);clear hJ J))|(apply aW;(rfl);(rfl);(intro J hJ;go_simp;(with_reducible refine hJ _ ?_);clear hJ J))|(apply aX;(rfl);(rfl);(rfl);(rfl);(intro J hJ;go_simp;(with_reducible refine hJ _ ?_);clear hJ J;try go_simp)))
 refine dD rfl rfl (fun we hbe J hJ=>?_)
 go_simp
 have hx:Below aa8.heap.size aa8 we:=belA
 have jr:=zh (Bt HB.out hx)
 refine (Q5.out _ _ (F65.out.later hx)).mono ?_
 rintro e u105 ⟨aI3,aH5,rfl,h,hf⟩
 have hy:=Bt hx h
 refine hJ _ _ h ?_
 clear hJ J hbe hx h jr
 clear F65
 replace HB:=zh (Bt HB.out hy)
 have Zz:=zh hf
 clear hf
 clear hy
 repeat (first|(apply aV;(rfl);(rfl);(rfl);(intro J hJ;go_simp;(with_reducible refine hJ _ ?_);clear hJ J))|(apply aW;(rfl);(rfl);(intro J hJ;go_simp;(with_reducible refine hJ _ ?_);clear hJ J))|(apply aX;(rfl);(rfl);(rfl);(rfl);(intro J hJ;go_simp;(with_reducible refine hJ _ ?_);clear hJ J;try go_simp)))
 refine iM rfl rfl (fun aT7 aa7 hbe hN hb1 hA hblk J hJ=>?_)
 go_simp
 have hy:Below u105.heap.size u105 aa7:=belA
 refine hJ _ _ rfl ?_
 clear hJ J hbe hN hb1 hA
 replace Zz:=zh (Zz.out.later hy)
 replace HB:=zh (Bt HB.out hy)
 have F67:=zh (dI hblk)
 clear hblk hy
 repeat (first|(apply aV;(rfl);(rfl);(rfl);(intro J hJ;go_simp;(with_reducible refine hJ _ ?_);clear hJ J))|(apply aW;(rfl);(rfl);(intro J hJ;go_simp;(with_reducible refine hJ _ ?_);clear hJ J))|(apply aX;(rfl);(rfl);(rfl);(rfl);(intro J hJ;go_simp;(with_reducible refine hJ _ ?_);clear hJ J;try go_simp)))
 refine dD rfl rfl (fun we hbe J hJ=>?_)
 go_simp
 have hx:Below aa7.heap.size aa7 we:=belA
 have jr:=zh (Bt HB.out hx)
 refine (Q4.out _ _ (F67.out.later hx)).mono ?_
 rintro e aq4 ⟨a107,c107,rfl,h,hf⟩
 have hy:=Bt hx h
 refine hJ _ _ h ?_
 clear hJ J hbe hx h jr
 clear F67
 replace Zz:=zh (Zz.out.later hy)
 replace HB:=zh (Bt HB.out hy)
 have F68:=zh hf
 clear hf
 clear hy
 repeat (first|(apply aV;(rfl);(rfl);(rfl);(intro J hJ;go_simp;(with_reducible refine hJ _ ?_);clear hJ J))|(apply aW;(rfl);(rfl);(intro J hJ;go_simp;(with_reducible refine hJ _ ?_);clear hJ J))|(apply aX;(rfl);(rfl);(rfl);(rfl);(intro J hJ;go_simp;(with_reducible refine hJ _ ?_);clear hJ J;try go_simp)))
 refine dD rfl rfl (fun we hbe J hJ=>?_)
 have hx:Below aq4.heap.size aq4 we:=belA
 obtain ⟨z109,EW,h,Z⟩:=al1 we #[.slice aI3 q5.length aH5,.slice a107 q4.length c107] 29
 go_simp
 (try rw [EW])
 clear EW
 obtain ⟨aT6,eb⟩:∃ y,we.heap.size=y:=⟨_,rfl⟩
 (try rw [eb] at Z ⊢)
 clear eb
 have hy:=Bt hx h
 refine hJ _ _ h ?_
 clear hJ J hbe hx h
 replace Zz:=zh (Zz.out.later hy)
 replace F68:=zh (F68.out.later hy)
 replace HB:=zh (Bt HB.out hy)
 have F69:=zh (nu Z.out Zz.out F68.out)
 clear Z hy
 repeat (first|(apply aV;(rfl);(rfl);(rfl);(intro J hJ;go_simp;(with_reducible refine hJ _ ?_);clear hJ J))|(apply aW;(rfl);(rfl);(intro J hJ;go_simp;(with_reducible refine hJ _ ?_);clear hJ J))|(apply aX;(rfl);(rfl);(rfl);(rfl);(intro J hJ;go_simp;(with_reducible refine hJ _ ?_);clear hJ J;try go_simp)))
 refine dD rfl rfl (fun we hbe J hJ=>?_)
 go_simp
 have hx:Below z109.heap.size z109 we:=belA
 have jr:=zh (Bt HB.out hx)
 refine (is_ok _ [q5,q4] _ (F69.out.later hx)).mono ?_
 rintro e aq3 ⟨⟨_,rfl,aI2,aB1,rfl,ha,hv⟩,h⟩
 have hy:=Bt hx h
 refine hJ _ _ h ?_
 clear hJ J hbe hx h jr
 clear Zz F68 F69
 replace HB:=zh (Bt HB.out hy)
 have F70:=zh ha
 have F71:=zh hv
 clear ha hv
 clear hy
 repeat (first|(apply aV;(rfl);(rfl);(rfl);(intro J hJ;go_simp;(with_reducible refine hJ _ ?_);clear hJ J))|(apply aW;(rfl);(rfl);(intro J hJ;go_simp;(with_reducible refine hJ _ ?_);clear hJ J))|(apply aX;(rfl);(rfl);(rfl);(rfl);(intro J hJ;go_simp;(with_reducible refine hJ _ ?_);clear hJ J;try go_simp)))
 refine dD rfl rfl (fun we hbe J hJ=>?_)
 go_simp
 have hx:Below aq3.heap.size aq3 we:=belA
 have jr:=zh (Bt HB.out hx)
 refine (C9.out _).mono ?_
 rintro e aq2 ⟨pa112,pc112,rfl,h,hf⟩
 have hy:=Bt hx h
 refine hJ _ _ h ?_
 clear hJ J hbe hx h jr
 replace F70:=zh (F70.out.later hy)
 replace F71:=zh (F71.out.later hy)
 replace HB:=zh (Bt HB.out hy)
 have F72:=zh hf
 clear hf
 clear hy
 repeat (first|(apply aV;(rfl);(rfl);(rfl);(intro J hJ;go_simp;(with_reducible refine hJ _ ?_);clear hJ J))|(apply aW;(rfl);(rfl);(intro J hJ;go_simp;(with_reducible refine hJ _ ?_);clear hJ J))|(apply aX;(rfl);(rfl);(rfl);(rfl);(intro J hJ;go_simp;(with_reducible refine hJ _ ?_);clear hJ J;try go_simp)))
 refine dD rfl rfl (fun we hbe J hJ=>?_)
 go_simp
 have hx:Below aq2.heap.size aq2 we:=belA
 have jr:=zh (Bt HB.out hx)
 refine (yZ _ [q5,q4] aI2 aB1 _ (F72.out.later hx) (F70.out.later hx) (F71.out.later hx)).mono ?_
 rintro e aq1 ⟨rfl,h⟩
 have hy:=Bt hx h
 refine hJ _ _ h ?_
 clear hJ J hbe hx h jr
 clear F70 F71 F72
 replace HB:=zh (Bt HB.out hy)
 clear hy
 repeat (first|(apply aV;(rfl);(rfl);(rfl);(intro J hJ;go_simp;(with_reducible refine hJ _ ?_);clear hJ J))|(apply aW;(rfl);(rfl);(intro J hJ;go_simp;(with_reducible refine hJ _ ?_);clear hJ J))|(apply aX;(rfl);(rfl);(rfl);(rfl);(intro J hJ;go_simp;(with_reducible refine hJ _ ?_);clear hJ J;try go_simp)))
 refine dD rfl rfl (fun we hbe J hJ=>?_)
 go_simp
 have hx:Below aq1.heap.size aq1 we:=belA
 have jr:=zh (Bt HB.out hx)
 refine (fails_ok 2 _).mono ?_
 rintro e aq0 ⟨⟨_,rfl,aI1,rfl,ha⟩,h⟩
 have hy:=Bt hx h
 refine hJ _ _ h ?_
 clear hJ J hbe hx h jr
 replace HB:=zh (Bt HB.out hy)
 have F73:=zh ha
 clear ha
 clear hy
 repeat (first|(apply aV;(rfl);(rfl);(rfl);(intro J hJ;go_simp;(with_reducible refine hJ _ ?_);clear hJ J))|(apply aW;(rfl);(rfl);(intro J hJ;go_simp;(with_reducible refine hJ _ ?_);clear hJ J))|(apply aX;(rfl);(rfl);(rfl);(rfl);(intro J hJ;go_simp;(with_reducible refine hJ _ ?_);clear hJ J;try go_simp)))
 refine dD rfl rfl (fun we hbe J hJ=>?_)
 go_simp
 have hx:Below aq0.heap.size aq0 we:=belA
 have jr:=zh (Bt HB.out hx)
 refine (C10.out _).mono ?_
 rintro e ap9 ⟨rfl,h⟩
 have hy:=Bt hx h
 refine hJ _ _ h ?_
 clear hJ J hbe hx h jr
 replace F73:=zh (F73.out.later hy)
 replace HB:=zh (Bt HB.out hy)
 clear hy
 repeat (first|(apply aV;(rfl);(rfl);(rfl);(intro J hJ;go_simp;(with_reducible refine hJ _ ?_);clear hJ J))|(apply aW;(rfl);(rfl);(intro J hJ;go_simp;(with_reducible refine hJ _ ?_);clear hJ J))|(apply aX;(rfl);(rfl);(rfl);(rfl);(intro J hJ;go_simp;(with_reducible refine hJ _ ?_);clear hJ J;try go_simp)))
 refine dD rfl rfl (fun we hbe J hJ=>?_)
 go_simp
 have hx:Below ap9.heap.size ap9 we:=belA
 have jr:=zh (Bt HB.out hx)
 refine (fails1_ok 2 aI1 _ (F73.out.later hx)).mono ?_
 rintro e u119 ⟨rfl,h⟩
 have hy:=Bt hx h
 refine hJ _ _ h ?_
 clear hJ J hbe hx h jr
 clear F73
 replace HB:=zh (Bt HB.out hy)
 clear hy
 repeat (first|(apply aV;(rfl);(rfl);(rfl);(intro J hJ;go_simp;(with_reducible refine hJ _ ?_);clear hJ J))|(apply aW;(rfl);(rfl);(intro J hJ;go_simp;(with_reducible refine hJ _ ?_);clear hJ J))|(apply aX;(rfl);(rfl);(rfl);(rfl);(intro J hJ;go_simp;(with_reducible refine hJ _ ?_);clear hJ J;try go_simp)))
 refine iM rfl rfl (fun aT5 aa6 hbe hN hb1 hA hblk J hJ=>?_)
 go_simp
 have hy:Below u119.heap.size u119 aa6:=belA
 refine hJ _ _ rfl ?_
 clear hJ J hbe hN hb1 hA
 replace HB:=zh (Bt HB.out hy)
 have F74:=zh (dI hblk)
 clear hblk hy
 repeat (first|(apply aV;(rfl);(rfl);(rfl);(intro J hJ;go_simp;(with_reducible refine hJ _ ?_);clear hJ J))|(apply aW;(rfl);(rfl);(intro J hJ;go_simp;(with_reducible refine hJ _ ?_);clear hJ J))|(apply aX;(rfl);(rfl);(rfl);(rfl);(intro J hJ;go_simp;(with_reducible refine hJ _ ?_);clear hJ J;try go_simp)))
 refine dD rfl rfl (fun we hbe J hJ=>?_)
 go_simp
 have hx:Below aa6.heap.size aa6 we:=belA
 have jr:=zh (Bt HB.out hx)
 refine (Q15.out _ _ (F74.out.later hx)).mono ?_
 rintro e ap8 ⟨aI0,aH4,rfl,h,hf⟩
 have hy:=Bt hx h
 refine hJ _ _ h ?_
 clear hJ J hbe hx h jr
 clear F74
 replace HB:=zh (Bt HB.out hy)
 have Zy:=zh hf
 clear hf
 clear hy
 repeat (first|(apply aV;(rfl);(rfl);(rfl);(intro J hJ;go_simp;(with_reducible refine hJ _ ?_);clear hJ J))|(apply aW;(rfl);(rfl);(intro J hJ;go_simp;(with_reducible refine hJ _ ?_);clear hJ J))|(apply aX;(rfl);(rfl);(rfl);(rfl);(intro J hJ;go_simp;(with_reducible refine hJ _ ?_);clear hJ J;try go_simp)))
 refine iM rfl rfl (fun aT4 aa5 hbe hN hb1 hA hblk J hJ=>?_)
 go_simp
 have hy:Below ap8.heap.size ap8 aa5:=belA
 refine hJ _ _ rfl ?_
 clear hJ J hbe hN hb1 hA
 replace Zy:=zh (Zy.out.later hy)
 replace HB:=zh (Bt HB.out hy)
 have F76:=zh (dI hblk)
 clear hblk hy
 repeat (first|(apply aV;(rfl);(rfl);(rfl);(intro J hJ;go_simp;(with_reducible refine hJ _ ?_);clear hJ J))|(apply aW;(rfl);(rfl);(intro J hJ;go_simp;(with_reducible refine hJ _ ?_);clear hJ J))|(apply aX;(rfl);(rfl);(rfl);(rfl);(intro J hJ;go_simp;(with_reducible refine hJ _ ?_);clear hJ J;try go_simp)))
 refine dD rfl rfl (fun we hbe J hJ=>?_)
 go_simp
 have hx:Below aa5.heap.size aa5 we:=belA
 have jr:=zh (Bt HB.out hx)
 refine (Q16.out _ _ (F76.out.later hx)).mono ?_
 rintro e ap7 ⟨a124,c124,rfl,h,hf⟩
 have hy:=Bt hx h
 refine hJ _ _ h ?_
 clear hJ J hbe hx h jr
 clear F76
 replace Zy:=zh (Zy.out.later hy)
 replace HB:=zh (Bt HB.out hy)
 have F77:=zh hf
 clear hf
 clear hy
 repeat (first|(apply aV;(rfl);(rfl);(rfl);(intro J hJ;go_simp;(with_reducible refine hJ _ ?_);clear hJ J))|(apply aW;(rfl);(rfl);(intro J hJ;go_simp;(with_reducible refine hJ _ ?_);clear hJ J))|(apply aX;(rfl);(rfl);(rfl);(rfl);(intro J hJ;go_simp;(with_reducible refine hJ _ ?_);clear hJ J;try go_simp)))
 refine dD rfl rfl (fun we hbe J hJ=>?_)
 have hx:Below ap7.heap.size ap7 we:=belA
 obtain ⟨ao5,EW,h,Z⟩:=al1 we #[.slice aI0 q15.length aH4,.slice a124 q16.length c124] 29
 go_simp
 (try rw [EW])
 clear EW
 obtain ⟨aT3,eb⟩:∃ y,we.heap.size=y:=⟨_,rfl⟩
 (try rw [eb] at Z ⊢)
 clear eb
 have hy:=Bt hx h
 refine hJ _ _ h ?_
 clear hJ J hbe hx h
 replace Zy:=zh (Zy.out.later hy)
 replace F77:=zh (F77.out.later hy)
 replace HB:=zh (Bt HB.out hy)
 have F78:=zh (nu Z.out Zy.out F77.out)
 clear Z hy
 repeat (first|(apply aV;(rfl);(rfl);(rfl);(intro J hJ;go_simp;(with_reducible refine hJ _ ?_);clear hJ J))|(apply aW;(rfl);(rfl);(intro J hJ;go_simp;(with_reducible refine hJ _ ?_);clear hJ J))|(apply aX;(rfl);(rfl);(rfl);(rfl);(intro J hJ;go_simp;(with_reducible refine hJ _ ?_);clear hJ J;try go_simp)))
 refine dD rfl rfl (fun we hbe J hJ=>?_)
 go_simp
 have hx:Below ao5.heap.size ao5 we:=belA
 have jr:=zh (Bt HB.out hx)
 refine (is_ok _ [q15,q16] _ (F78.out.later hx)).mono ?_
 rintro e ap6 ⟨⟨_,rfl,a127,v127,rfl,ha,hv⟩,h⟩
 have hy:=Bt hx h
 refine hJ _ _ h ?_
 clear hJ J hbe hx h jr
 clear Zy F77 F78
 replace HB:=zh (Bt HB.out hy)
 have Zx:=zh ha
 have Zw:=zh hv
 clear ha hv
 clear hy
 repeat (first|(apply aV;(rfl);(rfl);(rfl);(intro J hJ;go_simp;(with_reducible refine hJ _ ?_);clear hJ J))|(apply aW;(rfl);(rfl);(intro J hJ;go_simp;(with_reducible refine hJ _ ?_);clear hJ J))|(apply aX;(rfl);(rfl);(rfl);(rfl);(intro J hJ;go_simp;(with_reducible refine hJ _ ?_);clear hJ J;try go_simp)))
 refine iM rfl rfl (fun aT2 aa4 hbe hN hb1 hA hblk J hJ=>?_)
 go_simp
 have hy:Below ap6.heap.size ap6 aa4:=belA
 refine hJ _ _ rfl ?_
 clear hJ J hbe hN hb1 hA
 replace Zx:=zh (Zx.out.later hy)
 replace Zw:=zh (Zw.out.later hy)
 replace HB:=zh (Bt HB.out hy)
 have F81:=zh (dI hblk)
 clear hblk hy
 repeat (first|(apply aV;(rfl);(rfl);(rfl);(intro J hJ;go_simp;(with_reducible refine hJ _ ?_);clear hJ J))|(apply aW;(rfl);(rfl);(intro J hJ;go_simp;(with_reducible refine hJ _ ?_);clear hJ J))|(apply aX;(rfl);(rfl);(rfl);(rfl);(intro J hJ;go_simp;(with_reducible refine hJ _ ?_);clear hJ J;try go_simp)))
 refine dD rfl rfl (fun we hbe J hJ=>?_)
 go_simp
 have hx:Below aa4.heap.size aa4 we:=belA
 have jr:=zh (Bt HB.out hx)
 refine (Q17.out _ _ (F81.out.later hx)).mono ?_
 rintro e u131 ⟨a130,c130,rfl,h,hf⟩
 have hy:=Bt hx h
 refine hJ _ _ h ?_
 clear hJ J hbe hx h jr
 clear F81
 replace Zx:=zh (Zx.out.later hy)
 replace Zw:=zh (Zw.out.later hy)
 replace HB:=zh (Bt HB.out hy)
 have F82:=zh hf
 clear hf
 clear hy
 repeat (first|(apply aV;(rfl);(rfl);(rfl);(intro J hJ;go_simp;(with_reducible refine hJ _ ?_);clear hJ J))|(apply aW;(rfl);(rfl);(intro J hJ;go_simp;(with_reducible refine hJ _ ?_);clear hJ J))|(apply aX;(rfl);(rfl);(rfl);(rfl);(intro J hJ;go_simp;(with_reducible refine hJ _ ?_);clear hJ J;try go_simp)))
 refine dD rfl rfl (fun we hbe J hJ=>?_)
 go_simp
 have hx:Below u131.heap.size u131 we:=belA
 have jr:=zh (Bt HB.out hx)
 refine (C11.out _ _ (F82.out.later hx)).mono ?_
 rintro e ap5 ⟨aJ7,aJ2,rfl,h,hf⟩
 have hy:=Bt hx h
 refine hJ _ _ h ?_
 clear hJ J hbe hx h jr
 clear F82
 replace Zx:=zh (Zx.out.later hy)
 replace Zw:=zh (Zw.out.later hy)
 replace HB:=zh (Bt HB.out hy)
 have F83:=zh hf
 clear hf
 clear hy
 repeat (first|(apply aV;(rfl);(rfl);(rfl);(intro J hJ;go_simp;(with_reducible refine hJ _ ?_);clear hJ J))|(apply aW;(rfl);(rfl);(intro J hJ;go_simp;(with_reducible refine hJ _ ?_);clear hJ J))|(apply aX;(rfl);(rfl);(rfl);(rfl);(intro J hJ;go_simp;(with_reducible refine hJ _ ?_);clear hJ J;try go_simp)))
 refine dD rfl rfl (fun we hbe J hJ=>?_)
 go_simp
 have hx:Below ap5.heap.size ap5 we:=belA
 have jr:=zh (Bt HB.out hx)
 refine (yZ _ [q15,q16] a127 v127 _ (F83.out.later hx) (Zx.out.later hx) (Zw.out.later hx)).mono ?_
 rintro e ap4 ⟨rfl,h⟩
 have hy:=Bt hx h
 refine hJ _ _ h ?_
 clear hJ J hbe hx h jr
 clear Zx Zw F83
 replace HB:=zh (Bt HB.out hy)
 clear hy
 repeat (first|(apply aV;(rfl);(rfl);(rfl);(intro J hJ;go_simp;(with_reducible refine hJ _ ?_);clear hJ J))|(apply aW;(rfl);(rfl);(intro J hJ;go_simp;(with_reducible refine hJ _ ?_);clear hJ J))|(apply aX;(rfl);(rfl);(rfl);(rfl);(intro J hJ;go_simp;(with_reducible refine hJ _ ?_);clear hJ J;try go_simp)))
 refine aa0 [_] rfl (fun aa2 hbf=>?_)
 have hy:Below ap4.heap.size ap4 aa2:=belA
 replace HB:=zh (Bt HB.out hy)
 clear hy hbf
 go_wp2_with fail
 clear Qk
 obtain ⟨aK9,EW,h,Z0⟩:=al1 aa2 #[.string ⟨#[49,47,51]⟩,.string ⟨#[49]⟩] 9
 rw [EW]
 clear EW
 obtain ⟨aT1,eb⟩:∃ y,aa2.heap.size=y:=⟨_,rfl⟩
 rw [eb] at Z0 ⊢
 clear eb
 replace HB:=zh (Bt HB.out h)
 have F84:=zh (dI Z0.out)
 clear h Z0
 refine (Q18.out _ _ F84.out).mono ?_
 rintro e ap3 ⟨aH9,aH3,rfl,h,hf⟩
 clear F84
 replace HB:=zh (Bt HB.out h)
 have F85:=zh hf
 clear hf
 clear h
 go_wp2_with fail
 obtain ⟨z138,EW,h,Z0,Z1⟩:=al2 ap3 #[.slice aH9 q18.length aH3] 29 #[.int .i64 1000000000000,.int .i64 1000000000000,.int .i64 0,.int .i64 0] 69
 rw [EW]
 clear EW
 obtain ⟨aT0,eb⟩:∃ y,ap3.heap.size=y:=⟨_,rfl⟩
 rw [eb] at Z0 Z1 ⊢
 clear eb
 replace F85:=zh (F85.out.later h)
 replace HB:=zh (Bt HB.out h)
 have F86:=zh (xP Z0.out F85.out)
 have F87:Hid (vC _ 69 _ _):=zh (vC.two Z1.out)
 clear h Z0 Z1
 refine (C12.out _ _ _ F86.out F87.out (HP.out.later HB.out) (HE.out.later HB.out)).mono ?_
 rintro e aL6 ⟨v139,rfl,h,hf⟩
 clear F85 F86 F87
 replace HB:=zh (Bt HB.out h)
 obtain ⟨bb,bo,bc,rfl,lb,y1,y2⟩:=Yd hf
 have HEB:= @xA
 clear hf
 clear h
 go_wp2_with fail
 clear lb y1 y2 HEB
 refine (C13.out _ _ (WU _)).mono ?_
 rintro e ap2 ⟨rfl,h⟩
 replace HB:=zh (Bt HB.out h)
 clear h
 go_wp2_with fail
 obtain ⟨aK8,EW,h,Z0⟩:=al1 ap2 #[.string ⟨#[49]⟩] 9
 rw [EW]
 clear EW
 obtain ⟨aS9,eb⟩:∃ y,ap2.heap.size=y:=⟨_,rfl⟩
 rw [eb] at Z0 ⊢
 clear eb
 replace HB:=zh (Bt HB.out h)
 have F88:=zh (nT Z0.out)
 clear h Z0
 refine (Q11.out _ _ F88.out).mono ?_
 rintro e ap1 ⟨a143,c143,rfl,h,hf⟩
 clear F88
 replace HB:=zh (Bt HB.out h)
 have Zv:=zh hf
 clear hf
 clear h
 go_wp2_with fail
 obtain ⟨z145,EW,h,Z0⟩:=al1 ap1 #[.string ⟨#[49]⟩,.string ⟨#[50]⟩] 9
 rw [EW]
 clear EW
 obtain ⟨aS8,eb⟩:∃ y,ap1.heap.size=y:=⟨_,rfl⟩
 rw [eb] at Z0 ⊢
 clear eb
 replace Zv:=zh (Zv.out.later h)
 replace HB:=zh (Bt HB.out h)
 have F90:=zh (dI Z0.out)
 clear h Z0
 refine (Q0.out _ _ F90.out).mono ?_
 rintro e ap0 ⟨a146,c146,rfl,h,hf⟩
 clear F90
 replace Zv:=zh (Zv.out.later h)
 replace HB:=zh (Bt HB.out h)
 have F91:=zh hf
 clear hf
 clear h
 go_wp2_with fail
 obtain ⟨z148,EW,h,Z0⟩:=al1 ap0 #[.slice a143 q11.length c143,.slice a146 q0.length c146] 29
 rw [EW]
 clear EW
 obtain ⟨aS7,eb⟩:∃ y,ap0.heap.size=y:=⟨_,rfl⟩
 rw [eb] at Z0 ⊢
 clear eb
 replace Zv:=zh (Zv.out.later h)
 replace F91:=zh (F91.out.later h)
 replace HB:=zh (Bt HB.out h)
 have F92:=zh (nu Z0.out Zv.out F91.out)
 clear h Z0
 refine (C14.out _ _ F92.out).mono ?_
 rintro e aL5 ⟨rfl,h⟩
 clear Zv F91 F92
 replace HB:=zh (Bt HB.out h)
 clear h
 go_wp2_with fail
 go_ret
 exact ⟨rfl,HB.out⟩
end Go.Proofs.verdigrislaw05
namespace Go.Proofs.aI
open Go Go.RowKit Go.SW Go.Num Go.Mem Go.Proofs Go.Dec Go.dF Go.Proofs.aL Go.Proofs.matrix
theorem Pl.kept {l:List TypeId} {w w':World} {v:Value} {z:Int} (h:Pl w v z) (k:Keep l w w') (hT:3∉l):Pl w' v z:=by
 obtain ⟨pa,n,c,h1,h2⟩:=h
 exact ⟨pa,n,c,h1,Row.kept h2 k hT⟩
theorem Ra.kept {l:List TypeId} {w w':World} {v:Value} {q:Rat} (h:Ra w v q) (k:Keep l w w') (hT:3∉l):Ra w' v q:=by
 obtain ⟨bn,pn,ln,cn,bd,pd,ld,cd,e,h1,h2⟩:=h
 exact ⟨bn,pn,ln,cn,bd,pd,ld,cd,e,Pl.kept h1 k hT,Pl.kept h2 k hT⟩
def Vt:Rl Rat:=fun w q c=>∃ bn pn ln cn bd pd ld cd,c=[.bool bn,.slice pn ln cn,.bool bd,.slice pd ld cd]∧Ra w (.agg #[.bool bn,.slice pn ln cn,.bool bd,.slice pd ld cd]) q
theorem Vt.stay {m:List TypeId} (h:3∉m):sV m Vt:=fun w w' a c k hr=>by
 obtain ⟨bn,pn,ln,cn,bd,pd,ld,cd,e,h1⟩:=hr
 exact ⟨bn,pn,ln,cn,bd,pd,ld,cd,e,Ra.kept h1 k h⟩
def xH (w:World) (v:Value) (qs:List Rat):Prop:=SlV w 123 4 Vt v qs
def Dt:Rl (List Rat):=RRow xH
theorem Dt.stay {m:List TypeId} (h:3∉m) (h2:123∉m):sV m Dt:=fun w w' a c k hr=>by
 obtain ⟨v,e,h1⟩:=hr
 exact ⟨v,e,SlV.kept h1 k h2 (Vt.stay h)⟩
def Dw (w:World) (v:Value) (m:RM):Prop:=SlV w 118 1 Dt v m
theorem xH.later {w w':World} {v:Value} {qs:List Rat} (h:xH w v qs) (hb:Below w.heap.size w w'):xH w' v qs:=SlV.later h hb (Vt.stay zi)
theorem Dw.later {w w':World} {v:Value} {m:RM} (h:Dw w v m) (hb:Below w.heap.size w w'):Dw w' v m:=SlV.later h hb (Dt.stay zi zi)
def Yj (w:World) (qs:List Rat) (e:Ending) (w':World):Prop:=∃ v,e= .returned v∧Below w.heap.size w w'∧xH w' v qs
def Yl (w:World) (m:RM) (e:Ending) (w':World):Prop:=∃ v,e= .returned v∧Below w.heap.size w w'∧Dw w' v m
theorem ad2:(Tryz.prog.info? 123).map (fun i=>(i.zero,i.size,i.bytes))=some (some (.agg #[.bool false,.slice none 0 0,.bool false,.slice none 0 0]),4,64):=by kernel_rfl
theorem Xf:(Tryz.prog.info? 118).map (fun i=>(i.zero,i.size,i.bytes))=some (some (.slice none 0 0),1,24):=by kernel_rfl
theorem Pf (v:Value) (qs:List Rat) (T:TypeId) (w:World) (h:gH w T v (qs.map Fr.of)) (hq:∀ q∈qs,iU q=true) (hn:qs.length≤1000) :
  Calls Tryz.prog 71 #[v] w (Yj w qs):=by
 obtain ⟨i0,hi,hz0,hz1,hz2⟩:=info_parts ad2
 obtain ⟨a,cap,rfl,hc1,hc2,hread⟩:=h.read
 have H:Hid (∀ k (_:k<qs.length),∃ b off,a=some ⟨b,off,none⟩∧b<w.heap.size∧w.cell? ⟨b,off+k*2,none⟩=some (.string (Fr.of qs[k]).n)∧w.cell? ⟨b,off+k*2+1,none⟩=some (.string (Fr.of qs[k]).d)):=zh fun k hk=>by
  have:=hread k (by simpa using hk)
  simp only [List.getElem_map] at this
  exact this
 have HQ:=zh hq
 rw [List.length_map] at hc1 ⊢
 clear h hread hq
 go_enter Tryz.func71,Tryz.ntmps71
 go_wp2_with fail
 go_loopw [3,4] (fun ov iv wr=>∃ k:Nat,iv= .int .i64 (k:Int)∧k≤qs.length∧Hid (dQ wr w.heap.size 123 4 Vt ov (qs.take k))∧Below w.heap.size w wr) (fun _ iv _=>qs.length - (intOf iv).toNat)
 case atStart=>exact ⟨0,rfl,by omega,zh (dQ.nil _ _ _ _ _),Below.refl _ _⟩
 case round =>
  obtain ⟨k,rfl,hk,HG,hb⟩:=hrel
  rcases Nat.lt_or_ge k qs.length with hlt|hge
  ·obtain ⟨b,off,rfl,hbl,hx1,hx2⟩:=H.out k hlt
   have hc1:=(hb.cell (p:=⟨b,off+k*2,none⟩) hbl).trans hx1
   have hc2:=(hb.cell (p:=⟨b,off+k*2+1,none⟩) hbl).trans hx2
   clear hx1 hx2
   have IN:=zh (fun W=>az2 (QO (HQ.out _ (List.getElem_mem hlt))) W)
   generalize Fr.of qs[k]=lk at *
   obtain ⟨s,t⟩:=lk
   unfold Fr.v at IN
   obtain ⟨av,cv,rfl⟩:=HG.out.at (n:=k) (by simp;omega)
   go_wp2_with fail
   refine (IN.out _).mono ?_
   rintro e w1 ⟨v,rfl,hb1,hra⟩
   obtain ⟨bn,pn,ln,cn,bd,pd,ld,cd,rfl, -, -⟩:=id hra
   have HA:=zh hra
   have HB:=zh (Bt hb hb1)
   replace HG:=zh (HG.out.later hb1 (Vt.stay zi))
   clear hra hb hb1 hc1 hc2
   go_wp2_with (at_builtin;refine wpList_grow (w0:=w) rfl (.tmp 11) (.tmp 17) 118 rfl 123 i0 (.agg #[.bool false,.slice none 0 0,.bool false,.slice none 0 0]) 4 64 Tryz.underlying118 hi hz0 hz1 hz2 rfl zd Vt _ (qs.take k) rfl (HG.out.later belA (Vt.stay zi)) (Bt HB.out belA) _ [.bool bn,.slice pn ln cn,.bool bd,.slice pd ld cd] qs[k] rfl (ah.new _ _ _) rfl ?c1 ⟨_,_,_,_,_,_,_,_,rfl,HA.out.later belA⟩ (Vt.stay zi) ?c2 zo ?_)
   case c1=>intro u hu;simp only [List.mem_cons,List.not_mem_nil,or_false] at hu;rcases hu with rfl|rfl|rfl|rfl<;>rfl
   case c2=>simp;omega
   intro v' w2 hg hb2 _
   have HG2:=zh hg
   clear hg HG HA HB
   go_wp2_with fail
   go_roundw
   case rel=>exact ⟨k+1,by go_num,by omega,HG2,hb2⟩
   case measure=>exact zM
  ·obtain rfl:k=qs.length:=by omega
   rw [List.take_length] at HG
   obtain ⟨av,cv,rfl⟩:=HG.out.slice
   go_wp2_with fail
   go_ret
   exact ⟨_,rfl,hb,HG.out.YG⟩
theorem Ai (v:Value) (m:RM) (w:World) (h:aP w v m.fr) (hq:∀ r∈m,∀ q∈r,iU q=true) (hn:m.length≤1000∧∀ r∈m,r.length≤1000) :
  Calls Tryz.prog 67 #[v] w (Yl w m):=by
 obtain ⟨i0,hi,hz0,hz1,hz2⟩:=info_parts Xf
 obtain ⟨a,cap,rfl,hc1,hc2,hread⟩:=aP.read h
 have hl:m.fr.length=m.length:=List.length_map _
 have H:Hid (∀ k (_:k<m.length),∃ b off a' c',a=some ⟨b,off,none⟩∧b<w.heap.size∧w.cell? ⟨b,off+k,none⟩=some (.slice a' m[k].length c')∧gH w 59 (.slice a' m[k].length c') (m[k].map Fr.of)):=zh fun k hk=>by
  have:=hread k zo
  simp only [RM.fr,List.getElem_map,List.length_map] at this
  exact this
 have HQ:=zh hq
 have HN:=zh hn.2
 have hn1:=hn.1
 rw [hl] at hc1 ⊢
 clear h hread hq hl hn
 go_enter Tryz.func67,Tryz.ntmps67
 go_wp2_with fail
 go_loopw [3,4] (fun ov iv wr=>∃ k:Nat,iv= .int .i64 (k:Int)∧k≤m.length∧Hid (dQ wr w.heap.size 118 1 Dt ov (m.take k))∧Below w.heap.size w wr) (fun _ iv _=>m.length - (intOf iv).toNat)
 case atStart=>exact ⟨0,rfl,by omega,zh (dQ.nil _ _ _ _ _),Below.refl _ _⟩
 case round =>
  obtain ⟨k,rfl,hk,HG,hb⟩:=hrel
  rcases Nat.lt_or_ge k m.length with hlt|hge
  ·obtain ⟨b,off,a',c',rfl,hbl,hx1,hx2⟩:=H.out k hlt
   have hc1:=(hb.cell (p:=⟨b,off+k,none⟩) hbl).trans hx1
   have IN:=zh (Pf _ m[k] 59 wr (hx2.later hb) (HQ.out _ (List.getElem_mem hlt)) (HN.out _ (List.getElem_mem hlt)))
   clear hx1 hx2
   generalize m[k].length=n at *
   obtain ⟨av,cv,rfl⟩:=HG.out.at (n:=k) (by simp;omega)
   go_wp2_with fail
   refine IN.out.mono ?_
   rintro e w1 ⟨v,rfl,hb1,hra⟩
   have HA:=zh hra
   obtain ⟨ax,cx,rfl⟩:=SlV.slice hra
   have HB:=zh (Bt hb hb1)
   replace HG:=zh (HG.out.later hb1 (Dt.stay zi zi))
   clear hra hb hb1 hc1
   go_wp2_with (at_builtin;refine wpList_grow (w0:=w) rfl (.tmp 11) (.tmp 17) 116 rfl 118 i0 (.slice none 0 0) 1 24 Tryz.underlying116 hi hz0 hz1 hz2 rfl zd Dt _ (m.take k) rfl (HG.out.later belA (Dt.stay zi zi)) (Bt HB.out belA) _ [.slice ax m[k].length cx] m[k] rfl (ah.new _ _ _) rfl ?c1 ⟨_,rfl,HA.out.later belA⟩ (Dt.stay zi zi) ?c2 zo ?_)
   case c1=>intro u hu;simp only [List.mem_cons,List.not_mem_nil,or_false] at hu;rcases hu with rfl;rfl
   case c2=>simp;omega
   intro v' w2 hg hb2 _
   have HG2:=zh hg
   clear hg HG HA HB
   go_wp2_with fail
   go_roundw
   case rel=>exact ⟨k+1,by go_num,by omega,HG2,hb2⟩
   case measure=>exact zM
  ·obtain rfl:k=m.length:=by omega
   rw [List.take_length] at HG
   obtain ⟨av,cv,rfl⟩:=HG.out.slice
   go_wp2_with fail
   go_ret
   exact ⟨_,rfl,hb,HG.out.YG⟩
theorem xH.at {w:World} {v:Value} {qs:List Rat} (h:xH w v qs):∃ a cap,v= .slice a qs.length cap∧qs.length≤cap∧cap≤9223372036854775807 ∧
  ∀ k (_:k<qs.length),∃ b off bn pn ln cn bd pd ld cd,a=some ⟨b,off,none⟩∧b<w.heap.size∧w.cell? ⟨b,off+k*4,none⟩=some (.bool bn)∧w.cell? ⟨b,off+k*4+1,none⟩=some (.slice pn ln cn)∧w.cell? ⟨b,off+k*4+2,none⟩=some (.bool bd)∧w.cell? ⟨b,off+k*4+3,none⟩=some (.slice pd ld cd) ∧
   Ra w (.agg #[.bool bn,.slice pn ln cn,.bool bd,.slice pd ld cd]) qs[k]:=by
 obtain ⟨a,cap,h1,h2,h3,h4⟩:=SlV.read h
 refine ⟨a,cap,h1,h2,h3,fun k hk=>?_⟩
 obtain ⟨b,off,c,k1,k2,⟨bn,pn,ln,cn,bd,pd,ld,cd,rfl,k3⟩, -, k5⟩:=h4 k hk
 exact ⟨b,off,bn,pn,ln,cn,bd,pd,ld,cd,k1,k2,k5 0 zo,k5 1 zo,k5 2 zo,k5 3 zo,k3⟩
theorem Dw.at {w:World} {v:Value} {m:RM} (h:Dw w v m):∃ a cap,v= .slice a m.length cap∧m.length≤cap∧cap≤9223372036854775807 ∧
  ∀ k (_:k<m.length),∃ b off a' c',a=some ⟨b,off,none⟩∧b<w.heap.size∧w.cell? ⟨b,off+k,none⟩=some (.slice a' m[k].length c')∧xH w (.slice a' m[k].length c') m[k]:=by
 obtain ⟨a,cap,h1,h2,h3,h4⟩:=SlV.read h
 refine ⟨a,cap,h1,h2,h3,fun k hk=>?_⟩
 obtain ⟨b,off,c,k1,k2,⟨x,rfl,k3⟩, -, k5⟩:=h4 k hk
 obtain ⟨a',c',rfl⟩:=SlV.slice k3
 have:=k5 0 zo
 rw [Nat.mul_one,Nat.add_zero] at this
 exact ⟨b,off,a',c',k1,k2,this,k3⟩
def Sz1 (q:Rat):Prop:=qW 100000000 q
theorem Sz1.four {q:Rat} (h:Sz1 q):sz 10000 q.num.natAbs≤1073741824∧sz 10000 q.den≤1073741824:=by
 have h1:=yC h.1
 have h2:=yC h.2
 exact ⟨by omega,by omega⟩
theorem qE:(Tryz.prog.info? 59).map (fun i=>(i.zero,i.size,i.bytes))=some (some (.agg #[.string ⟨#[]⟩,.string ⟨#[]⟩]),2,32):=by kernel_rfl
theorem Lu:(Tryz.prog.info? 29).map (fun i=>(i.zero,i.size,i.bytes))=some (some (.slice none 0 0),1,24):=by kernel_rfl
def uY:Rl (List Fr):=RRow fun w v l=>gH w 59 v l
theorem uY.stay {m:List TypeId} (h:59∉m):sV m uY:=fun w w' a c k hr=>by
 obtain ⟨v,e,h1⟩:=hr
 exact ⟨v,e,gH.kept h1 k h⟩
theorem qZ {f:Nat→Rat} (h:∀ i,qW 134 (f i)):∀ k,qW (200*2^k - 1) (qw f k)
 | 0=>by
  show qW 199 0
  exact ⟨by decide+kernel,by decide+kernel⟩
 | k+1=>by
  have hp:1≤2^k:=Nat.one_le_two_pow
  have:=Ck (qZ h k) ((h k).mono (show 134≤200*2^k - 1 by omega))
  exact this.mono (by rw [Nat.pow_succ];omega)
theorem itoa_len (z:Int):(Lib.itoa z).length≤(Lib.decDigits z.natAbs).length+1:=by
 unfold Lib.itoa
 split
 ·simp
 ·rw [show z.toNat=z.natAbs by omega];omega
theorem sJ {α:Type} (f:Nat→α) (n:Nat):(List.range (n+1)).map f=(List.range n).map f++[f n]:=by
 rw [List.range_succ,List.map_append,List.map_singleton]
end Go.Proofs.aI
