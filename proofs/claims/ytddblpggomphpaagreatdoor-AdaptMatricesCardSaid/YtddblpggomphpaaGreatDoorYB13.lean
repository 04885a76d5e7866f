/- Lemmas for the proof. No condition. -/
import Derived.Test.YtddblpggomphpaaGreatDoorYB01
import Derived.Test.YtddblpggomphpaaGreatDoorYB02
import Derived.Test.YtddblpggomphpaaGreatDoorYB06
import Derived.Test.YtddblpggomphpaaGreatDoorYB12
set_option linter.unusedVariables false
set_option linter.unusedSimpArgs false
set_option maxRecDepth 100000
set_option maxHeartbeats 16000000
namespace Go.Proofs.aK
open Go Go.RowKit Go.SW Go.Num Go.Mem Go.Proofs Go.Dec Go.dx Go.Proofs.aH
def Kn (l:List Fr):Bool:=l.all fun a=>(rd a).isSome
theorem Fw (l:List Fr):Kn l=(dK l == 0):=by
 unfold Kn dK
 split<;>rename_i h
 ·rw [h];rfl
 ·rw [Bool.not_eq_true] at h;rw [h];rfl
theorem Gj (v:Value) (l:List Fr) (T:TypeId) (w:World) (h:jL w T v l) (hf:∀ x∈l,Fits x) :
  Calls Tryz.prog 105 #[v] w (fun e w'=>e= .returned (.bool (Kn l))∧Below w.heap.size w w'):=by
 obtain ⟨a,cap,rfl,hc1,hc2,hread⟩:=h.read
 have H:=zh hread
 have HF:=zh hf
 clear h hread hf
 go_enter Tryz.func105,Tryz.ntmps105
 go_wp2_with fail
 go_loopw [3] (fun iv wr=>∃ k:Nat,iv= .int .i64 (k:Int)∧k≤l.length∧Hid (∀ j (h:j<l.length),j<k→(rd l[j]).isSome=true)∧Below w.heap.size w wr) (fun iv _=>l.length - (intOf iv).toNat)
 case atStart=>exact ⟨0,rfl,by omega,zh (fun j _ h=>by omega),Below.refl _ _⟩
 case round =>
  obtain ⟨k,rfl,hk,HK,hb⟩:=hrel
  rcases Nat.lt_or_ge k l.length with hlt|hge
  ·obtain ⟨b,off,rfl,hbl,hx1,hx2⟩:=H.out k hlt
   have hc1:=(hb.cell (p:=⟨b,off+k*2,none⟩) hbl).trans hx1
   have hc2:=(hb.cell (p:=⟨b,off+k*2+1,none⟩) hbl).trans hx2
   clear hx1 hx2
   have HRT:=zh (fun W b (h:(rd l[k]).isSome=b)=>iq h (HF.out _ (List.getElem_mem hlt)) W)
   generalize hlk:l[k]=lk at *
   have Xe:=zh hlk
   obtain ⟨s,t⟩:=lk
   cases hv:(rd ⟨s,t⟩).isSome with
   | true =>
    have rO:Hid (∀ w,Calls Tryz.prog 149 #[.agg #[.string s,.string t]] w (fun e w'=>e= .returned (.bool true)∧Below w.heap.size w w')):=zh (fun W=>HRT.out W _ hv)
    have HV:=zh hv
    clear hlk hv
    go_wp2_with fail
    refine (rO.out _).mono ?_
    rintro e v1 ⟨rfl,hc1⟩
    go_wp2_with fail
    go_roundw
    case rel =>
     refine ⟨k+1,by go_num,by omega,zh fun j hj hjk=>?_,Bt hb aA⟩
     rcases Nat.lt_or_ge j k with h|h
     ·exact HK.out j hj h
     ·obtain rfl:j=k:=by omega
      rw [Xe.out]
      exact HV.out
    case measure=>exact zM
   | false =>
    have rO:Hid (∀ w,Calls Tryz.prog 149 #[.agg #[.string s,.string t]] w (fun e w'=>e= .returned (.bool false)∧Below w.heap.size w w')):=zh (fun W=>HRT.out W _ hv)
    have hno:Kn l=false:=by
     rw [Bool.eq_false_iff]
     intro h
     have:=List.all_eq_true.1 h l[k] (List.getElem_mem _)
     rw [hlk,hv] at this
     cases this
    have Qm:=zh hno
    clear hlk hv hno
    go_wp2_with fail
    refine (rO.out _).mono ?_
    rintro e v1 ⟨rfl,hc1⟩
    go_wp2_with fail
    go_ret
    exact ⟨by rw [Qm.out];rfl,Bt hb aA⟩
  ·have hyes:Kn l=true:=by
    unfold Kn
    rw [List.all_eq_true]
    intro x hx
    obtain ⟨j,hj,rfl⟩:=List.getElem_of_mem hx
    exact HK.out j hj zo
   have Di:=zh hyes
   clear hyes
   obtain rfl:k=l.length:=by omega
   go_wp2_with fail
   go_ret
   exact ⟨by rw [Di.out];rfl,hb⟩
theorem bQ.read {w:World} {v:Value} {m:List (List Fr)} (h:bQ w v m):∃ a cap,v= .slice a m.length cap∧m.length≤cap∧cap≤9223372036854775807 ∧
  ∀ k (_:k<m.length),∃ b off a' c',a=some ⟨b,off,none⟩∧b<w.heap.size∧w.cell? ⟨b,off+k,none⟩=some (.slice a' m[k].length c')∧jL w 36 (.slice a' m[k].length c') m[k]:=by
 obtain ⟨rs,hR,hl,hF⟩:=h
 have hR2:=hR
 obtain ⟨a,cap,rfl,h1,h2,h3,h4⟩:=hR2
 refine ⟨a,cap,by rw [hl],by omega,h2,fun k hk=>?_⟩
 have hk':k<rs.length:=by omega
 rcases hR.cases with ⟨-, e⟩|⟨b,off,cap',arr,e, -, -, hx,hc⟩
 ·rw [e] at hk';cases hk'
 ·simp only [Value.slice.injEq] at e
  have hf:=hF k hk' hk
  obtain ⟨a',c',e', -⟩:=hf.read
  rw [e'] at hf
  exact ⟨b,off,a',c',e.1,hx.lt,by rw [hx.cell,hc k hk',e'],hf⟩
def am7 (n0:Nat) (r:List Fr):Bool:=r.length == n0&&dK r == 0
theorem Y7 {m:List (List Fr)} (h1:1≤m.length) (h4:m.length≤4):Fv m=(decide (1≤(m.headD []).length)&&decide ((m.headD []).length≤4)&&m.all (am7 (m.headD []).length)):=by
 unfold Fv
 rw [decide_eq_true h1,decide_eq_true h4]
 rfl
theorem XJ {m:List (List Fr)} (h:0<m.length):(m.headD [])=m[0]:=by
 cases m with
 | nil=>cases h
 | cons r t=>rfl
theorem Y6 {m:List (List Fr)} {k:Nat} (hk:k<m.length) (h:m[k].length<1∨4<m[k].length∨m[k].length≠(m.headD []).length∨Kn m[k]=false):Fv m=false:=by
 rw [Bool.eq_false_iff]
 intro e
 unfold Fv at e
 simp only [Bool.and_eq_true,decide_eq_true_eq] at e
 obtain ⟨⟨⟨⟨e1,e2⟩,e3⟩,e4⟩,e5⟩:=e
 have:=List.all_eq_true.1 e5 m[k] (List.getElem_mem _)
 simp only [Bool.and_eq_true,beq_iff_eq] at this
 rw [Fw,beq_eq_false_iff_ne] at h
 omega
theorem Vo {m:List (List Fr)} (h1:1≤m.length) (h4:m.length≤4) (h:∀ k (hk:k<m.length),1≤m[k].length∧m[k].length≤4∧m[k].length=(m.headD []).length∧Kn m[k]=true):Fv m=true:=by
 rw [Y7 h1 h4]
 have h0:=h 0 zo
 rw [← XJ (m:=m) zo] at h0
 rw [decide_eq_true h0.1,decide_eq_true h0.2.1,Bool.true_and,Bool.true_and,List.all_eq_true]
 intro r hr
 obtain ⟨j,hj,rfl⟩:=List.getElem_of_mem hr
 obtain ⟨-, -, k3,k4⟩:=h j hj
 rw [Fw] at k4
 unfold am7
 rw [k4,beq_iff_eq.2 k3]
 rfl
def N7 (m:List (List Fr)):Prop:=∀ r∈m,∀ x∈r,Fits x
theorem oG (v:Value) (m:List (List Fr)) (w:World) (h:bQ w v m) (hf:N7 m) :
  Calls Tryz.prog 98 #[v] w (fun e w'=>e= .returned (.bool (Fv m))∧Below w.heap.size w w'):=by
 obtain ⟨a,cap,rfl,hc1,hc2,hread⟩:=bQ.read h
 by_cases hl:m.length<1∨4<m.length
 ·have e:Fv m=false:=by
   unfold Fv
   rcases hl with hl|hl
   ·rw [decide_eq_false (by omega:¬ 1≤m.length)];rfl
   ·rw [decide_eq_false (by omega:¬ m.length≤4),Bool.and_false];rfl
  rw [e]
  clear hread h hf e
  generalize m.length=n at *
  rcases hl with hl|hl
  ·have q1:decide ((n:Int)<1)=true:=by simp;omega
   clear hl
   go_enter Tryz.func98,Tryz.ntmps98
   go_wp2_with fail
   go_ret
   exact ⟨rfl,aA⟩
  ·have q1:decide ((n:Int)<1)=false:=by simp;omega
   have q2:decide ((4:Int)<(n:Int))=true:=by simp;omega
   clear hl
   go_enter Tryz.func98,Tryz.ntmps98
   go_wp2_with fail
   go_ret
   exact ⟨rfl,aA⟩
 have h1:1≤m.length:=by omega
 have h4:m.length≤4:=by omega
 obtain ⟨b,off,a0,c0,rfl,lb,cell0, -⟩:=hread 0 zo
 have LV:Hid (∀ k (_:k<m.length),∃ a' c',w.cell? ⟨b,off+k,none⟩=some (.slice a' m[k].length c')∧jL w 36 (.slice a' m[k].length c') m[k]):=zh fun k hk=>by
  obtain ⟨b',off',a',c',e, -, k1,k2⟩:=hread k hk
  simp only [Option.some.injEq,Addr.mk.injEq,and_true] at e
  obtain ⟨rfl,rfl⟩:=e
  exact ⟨a',c',k1,k2⟩
 have Qm:=zh (fun k hk h=>Y6 (m:=m) (k:=k) hk h)
 have Di:=zh (fun h=>Vo h1 h4 h)
 have HF:=zh hf
 have h0m:0<m.length:=by omega
 have q1:decide ((m.length:Int)<1)=false:=by simp;omega
 have q2:decide ((4:Int)<(m.length:Int))=false:=by simp;omega
 clear h hf hread
 rw [← XJ (m:=m) zo] at cell0
 obtain ⟨n0,hn0⟩:∃ n0,(m.headD []).length=n0:=⟨_,rfl⟩
 rw [hn0] at cell0 Qm Di
 generalize Fv m=z at *
 clear hn0 hl
 go_enter Tryz.func98,Tryz.ntmps98
 go_wp2_with fail
 go_loopw [3] (fun iv wr=>∃ k:Nat,iv= .int .i64 (k:Int)∧k≤m.length∧Hid (∀ j (h:j<m.length),j<k→1≤m[j].length∧m[j].length≤4∧m[j].length=n0∧Kn m[j]=true)∧Below w.heap.size w wr) (fun iv _=>m.length - (intOf iv).toNat)
 case atStart=>exact ⟨0,rfl,by omega,zh (fun j _ h=>by omega),Below.refl _ _⟩
 case round =>
  obtain ⟨k,rfl,hk,HK,hb⟩:=hrel
  rcases Nat.lt_or_ge k m.length with hlt|hge
  ·obtain ⟨a',c',hx1,hx2⟩:=LV.out k hlt
   have ck:=(hb.cell (p:=⟨b,off+k,none⟩) lb).trans hx1
   have c0:=(hb.cell (p:=⟨b,off,none⟩) lb).trans cell0
   have lb':b<wr.heap.size:=Nat.lt_of_lt_of_le lb hb.size
   have NO:=zh (Qm.out k hlt)
   have LI:=zh (fun W (hW:Below wr.heap.size wr W)=>Gj _ m[k] 36 W ((hx2.later hb).later hW) (HF.out _ (List.getElem_mem hlt)))
   clear hx1 hx2 cell0
   generalize hn:m[k].length=n at *
   have HN:=zh hn
   clear hn
   rcases Nat.lt_or_ge n 1 with h1|h1
   ·have g1:decide ((n:Int)<1)=true:=by simp;omega
    have HZ:=zh (NO.out (.inl h1))
    clear h1
    go_wp2_with fail
    refine aC ((.pure,0)::(.pure,1)::(.pure,2)::(.read,3)::(.pure,4)::(.pure,5)::(.pure,6)::(.pure,7)::(.pure,8)::(.pure,9)::(.read,10)::(.pure,11)::(.pure,12)::(.pure,13)::(.pure,14)::(.pure,15)::(.pure,16)::(.pure,17)::(.read,18)::(.pure,19)::(.pure,20)::(.pure,21)::(.read,22)::(.pure,23)::(.pure,24)::(.pure,25)::(.pure,26)::(.pure,27)::(.pure,28)::(.pure,29)::(.read,30)::(.ext,31)::(.pure,32)::(.pure,33)::[]) zk zk zR zP ?_;refine Wk.out ?_;(iterate 34 (first|(apply iX;(rfl);(rfl);(rfl);(intro J hJ;go_simp;(with_reducible refine hJ _ ?_);clear hJ J))|(apply jX;(rfl);(rfl);(rfl);(rfl);(exact zk);(intro J hJ;go_simp;(with_reducible refine hJ _ ?_);clear hJ J))|(apply iG;(rfl);(rfl);(intro J hJ;go_simp;(with_reducible refine hJ _ ?_);clear hJ J))|(apply iY;(rfl);(rfl);(rfl);(rfl);(intro J hJ;go_simp;(with_reducible refine hJ _ ?_);clear hJ J;try go_simp))));refine xP fun wf hf=>?_
    go_wp2_with fail
    go_ret
    exact ⟨by rw [HZ.out];rfl,Bt hb aA⟩
   have g1:decide ((n:Int)<1)=false:=by simp;omega
   rcases Nat.lt_or_ge 4 n with h4|h4
   ·have g2:decide ((4:Int)<(n:Int))=true:=by simp;omega
    have HZ:=zh (NO.out (.inr (.inl h4)))
    clear h1 h4
    go_wp2_with fail
    refine aC ((.pure,0)::(.pure,1)::(.pure,2)::(.read,3)::(.pure,4)::(.pure,5)::(.pure,6)::(.pure,7)::(.pure,8)::(.pure,9)::(.read,10)::(.pure,11)::(.pure,12)::(.pure,13)::(.pure,14)::(.pure,15)::(.pure,16)::(.pure,17)::(.read,18)::(.pure,19)::(.pure,20)::(.pure,21)::(.read,22)::(.pure,23)::(.pure,24)::(.pure,25)::(.pure,26)::(.pure,27)::(.pure,28)::(.pure,29)::(.read,30)::(.ext,31)::(.pure,32)::(.pure,33)::[]) zk zk zR zP ?_;refine Wk.out ?_;(iterate 34 (first|(apply iX;(rfl);(rfl);(rfl);(intro J hJ;go_simp;(with_reducible refine hJ _ ?_);clear hJ J))|(apply jX;(rfl);(rfl);(rfl);(rfl);(exact zk);(intro J hJ;go_simp;(with_reducible refine hJ _ ?_);clear hJ J))|(apply iG;(rfl);(rfl);(intro J hJ;go_simp;(with_reducible refine hJ _ ?_);clear hJ J))|(apply iY;(rfl);(rfl);(rfl);(rfl);(intro J hJ;go_simp;(with_reducible refine hJ _ ?_);clear hJ J;try go_simp))));refine xP fun wf hf=>?_
    go_wp2_with fail
    go_ret
    exact ⟨by rw [HZ.out];rfl,Bt hb aA⟩
   have g2:decide ((4:Int)<(n:Int))=false:=by simp;omega
   by_cases he:n=n0
   rotate_left
   ·have g3:((n:Int) != (n0:Int))=true:=by rw [bne_iff_ne];omega
    have HZ:=zh (NO.out (.inr (.inr (.inl he))))
    clear h1 h4 he
    go_wp2_with fail
    refine aC ((.pure,0)::(.pure,1)::(.pure,2)::(.read,3)::(.pure,4)::(.pure,5)::(.pure,6)::(.pure,7)::(.pure,8)::(.pure,9)::(.read,10)::(.pure,11)::(.pure,12)::(.pure,13)::(.pure,14)::(.pure,15)::(.pure,16)::(.pure,17)::(.read,18)::(.pure,19)::(.pure,20)::(.pure,21)::(.read,22)::(.pure,23)::(.pure,24)::(.pure,25)::(.pure,26)::(.pure,27)::(.pure,28)::(.pure,29)::(.read,30)::(.ext,31)::(.pure,32)::(.pure,33)::[]) zk zk zR zP ?_;refine Wk.out ?_;(iterate 34 (first|(apply iX;(rfl);(rfl);(rfl);(intro J hJ;go_simp;(with_reducible refine hJ _ ?_);clear hJ J))|(apply jX;(rfl);(rfl);(rfl);(rfl);(exact zk);(intro J hJ;go_simp;(with_reducible refine hJ _ ?_);clear hJ J))|(apply iG;(rfl);(rfl);(intro J hJ;go_simp;(with_reducible refine hJ _ ?_);clear hJ J))|(apply iY;(rfl);(rfl);(rfl);(rfl);(intro J hJ;go_simp;(with_reducible refine hJ _ ?_);clear hJ J;try go_simp))));refine xP fun wf hf=>?_
    go_wp2_with fail
    go_ret
    exact ⟨by rw [HZ.out];rfl,Bt hb aA⟩
   have g3:((n:Int) != (n0:Int))=false:=by rw [bne_eq_false_iff_eq];omega
   have HE:=zh he
   have H1:=zh h1
   have H4:=zh h4
   clear h1 h4 he
   cases hv:Kn m[k] with
   | false =>
    rw [hv] at LI
    have HZ:=zh (NO.out (.inr (.inr (.inr hv))))
    clear hv
    go_wp2_with fail
    refine aC ((.pure,0)::(.pure,1)::(.pure,2)::(.read,3)::(.pure,4)::(.pure,5)::(.pure,6)::(.pure,7)::(.pure,8)::(.pure,9)::(.read,10)::(.pure,11)::(.pure,12)::(.pure,13)::(.pure,14)::(.pure,15)::(.pure,16)::(.pure,17)::(.read,18)::(.pure,19)::(.pure,20)::(.pure,21)::(.read,22)::(.pure,23)::(.pure,24)::(.pure,25)::(.pure,26)::(.pure,27)::(.pure,28)::(.pure,29)::(.read,30)::(.ext,31)::(.pure,32)::(.pure,33)::[]) zk zk zR zP ?_;refine Wk.out ?_;(iterate 31 (first|(apply iX;(rfl);(rfl);(rfl);(intro J hJ;go_simp;(with_reducible refine hJ _ ?_);clear hJ J))|(apply jX;(rfl);(rfl);(rfl);(rfl);(exact zk);(intro J hJ;go_simp;(with_reducible refine hJ _ ?_);clear hJ J))|(apply iG;(rfl);(rfl);(intro J hJ;go_simp;(with_reducible refine hJ _ ?_);clear hJ J))|(apply iY;(rfl);(rfl);(rfl);(rfl);(intro J hJ;go_simp;(with_reducible refine hJ _ ?_);clear hJ J;try go_simp))))
    refine jM rfl rfl (fun wa hba J hJ=>?_);go_simp
    refine (LI.out _ aA).mono ?_
    rintro e wb ⟨rfl,hbb⟩
    refine hJ _ _ hbb ?_
    clear hJ J
    (iterate 2 (first|(apply iX;(rfl);(rfl);(rfl);(intro J hJ;go_simp;(with_reducible refine hJ _ ?_);clear hJ J))|(apply jX;(rfl);(rfl);(rfl);(rfl);(exact zk);(intro J hJ;go_simp;(with_reducible refine hJ _ ?_);clear hJ J))|(apply iG;(rfl);(rfl);(intro J hJ;go_simp;(with_reducible refine hJ _ ?_);clear hJ J))|(apply iY;(rfl);(rfl);(rfl);(rfl);(intro J hJ;go_simp;(with_reducible refine hJ _ ?_);clear hJ J;try go_simp))));refine xP fun wf hf=>?_
    go_wp2_with fail
    go_ret
    exact ⟨by rw [HZ.out];rfl,Bt hb (Bt (Bt aA hbb) aA)⟩
   | true =>
    rw [hv] at LI
    have HV:=zh hv
    clear hv
    go_wp2_with fail
    refine aC ((.pure,0)::(.pure,1)::(.pure,2)::(.read,3)::(.pure,4)::(.pure,5)::(.pure,6)::(.pure,7)::(.pure,8)::(.pure,9)::(.read,10)::(.pure,11)::(.pure,12)::(.pure,13)::(.pure,14)::(.pure,15)::(.pure,16)::(.pure,17)::(.read,18)::(.pure,19)::(.pure,20)::(.pure,21)::(.read,22)::(.pure,23)::(.pure,24)::(.pure,25)::(.pure,26)::(.pure,27)::(.pure,28)::(.pure,29)::(.read,30)::(.ext,31)::(.pure,32)::(.pure,33)::[]) zk zk zR zP ?_;refine Wk.out ?_;(iterate 31 (first|(apply iX;(rfl);(rfl);(rfl);(intro J hJ;go_simp;(with_reducible refine hJ _ ?_);clear hJ J))|(apply jX;(rfl);(rfl);(rfl);(rfl);(exact zk);(intro J hJ;go_simp;(with_reducible refine hJ _ ?_);clear hJ J))|(apply iG;(rfl);(rfl);(intro J hJ;go_simp;(with_reducible refine hJ _ ?_);clear hJ J))|(apply iY;(rfl);(rfl);(rfl);(rfl);(intro J hJ;go_simp;(with_reducible refine hJ _ ?_);clear hJ J;try go_simp))))
    refine jM rfl rfl (fun wa hba J hJ=>?_);go_simp
    refine (LI.out _ aA).mono ?_
    rintro e wb ⟨rfl,hbb⟩
    refine hJ _ _ hbb ?_
    clear hJ J
    (iterate 2 (first|(apply iX;(rfl);(rfl);(rfl);(intro J hJ;go_simp;(with_reducible refine hJ _ ?_);clear hJ J))|(apply jX;(rfl);(rfl);(rfl);(rfl);(exact zk);(intro J hJ;go_simp;(with_reducible refine hJ _ ?_);clear hJ J))|(apply iG;(rfl);(rfl);(intro J hJ;go_simp;(with_reducible refine hJ _ ?_);clear hJ J))|(apply iY;(rfl);(rfl);(rfl);(rfl);(intro J hJ;go_simp;(with_reducible refine hJ _ ?_);clear hJ J;try go_simp))));refine xP fun wf hf=>?_
    have hbz:Below w.heap.size w wf:=Bt hb (Bt (Bt aA hbb) aA)
    go_wp2_with fail
    go_roundw
    case rel =>
     refine ⟨k+1,by go_num,by omega,zh fun j hj hjk=>?_,hbz⟩
     rcases Nat.lt_or_ge j k with h|h
     ·exact HK.out j hj h
     ·obtain rfl:j=k:=by omega
      rw [HN.out]
      exact ⟨H1.out,H4.out,HE.out,HV.out⟩
    case measure=>exact zM
  ·have HZ:=zh (Di.out fun j hj=>HK.out j hj zo)
   obtain rfl:k=m.length:=by omega
   clear cell0
   go_wp2_with fail
   go_ret
   exact ⟨by rw [HZ.out];rfl,hb⟩
theorem gW (v:Value) (m:List (List Fr)) (w:World) (h:bQ w v m) (hf:N7 m) :
  Calls Tryz.prog 53 #[v] w (fun e w'=>e= .returned (.int .i64 (qz m))∧Below w.heap.size w w'):=by
 obtain ⟨a,cap,rfl, -⟩:=bQ.read h
 have R:=zh (oG _ m w h hf)
 unfold qz
 clear h hf
 cases hv:Fv m with
 | false =>
  rw [hv] at R
  clear hv
  go_enter Tryz.func53,Tryz.ntmps53
  go_wp2_with fail
  refine R.out.mono ?_
  rintro e wb ⟨rfl,hb⟩
  go_wp2_with fail
  go_ret
  exact ⟨rfl,hb⟩
 | true =>
  rw [hv] at R
  clear hv
  go_enter Tryz.func53,Tryz.ntmps53
  go_wp2_with fail
  refine R.out.mono ?_
  rintro e wb ⟨rfl,hb⟩
  go_wp2_with fail
  go_ret
  exact ⟨rfl,hb⟩
end Go.Proofs.aK
namespace Go.Proofs.aK
open Go Go.RowKit Go.SW Go.Num Go.Mem Go.Proofs Go.Dec Go.dx Go.Proofs.aH Go.Proofs.matrix
theorem Pl.kept {l:List TypeId} {w w':World} {v:Value} {z:Int} (h:Pl w v z) (k:Keep l w w') (hT:3∉l):Pl w' v z:=by
 obtain ⟨pa,n,c,h1,h2⟩:=h
 exact ⟨pa,n,c,h1,Row.kept h2 k hT⟩
theorem Ra.kept {l:List TypeId} {w w':World} {v:Value} {q:Rat} (h:Ra w v q) (k:Keep l w w') (hT:3∉l):Ra w' v q:=by
 obtain ⟨bn,pn,ln,cn,bd,pd,ld,cd,e,h1,h2⟩:=h
 exact ⟨bn,pn,ln,cn,bd,pd,ld,cd,e,Pl.kept h1 k hT,Pl.kept h2 k hT⟩
def o9:Rl Rat:=fun w q c=>∃ bn pn ln cn bd pd ld cd,c=[.bool bn,.slice pn ln cn,.bool bd,.slice pd ld cd]∧Ra w (.agg #[.bool bn,.slice pn ln cn,.bool bd,.slice pd ld cd]) q
theorem o9.stay {m:List TypeId} (h:3∉m):uP m o9:=fun w w' a c k hr=>by
 obtain ⟨bn,pn,ln,cn,bd,pd,ld,cd,e,h1⟩:=hr
 exact ⟨bn,pn,ln,cn,bd,pd,ld,cd,e,Ra.kept h1 k h⟩
def kT (w:World) (v:Value) (qs:List Rat):Prop:=uE w 152 4 o9 v qs
def jU:Rl (List Rat):=af6 kT
theorem jU.stay {m:List TypeId} (h:3∉m) (h2:152∉m):uP m jU:=fun w w' a c k hr=>by
 obtain ⟨v,e,h1⟩:=hr
 exact ⟨v,e,uE.kept h1 k h2 (o9.stay h)⟩
def mR (w:World) (v:Value) (m:RM):Prop:=uE w 154 1 jU v m
theorem kT.later {w w':World} {v:Value} {qs:List Rat} (h:kT w v qs) (hb:Below w.heap.size w w'):kT w' v qs:=uE.later h hb (o9.stay zi)
theorem mR.later {w w':World} {v:Value} {m:RM} (h:mR w v m) (hb:Below w.heap.size w w'):mR w' v m:=uE.later h hb (jU.stay zi zi)
def WJ (w:World) (qs:List Rat) (e:Ending) (w':World):Prop:=∃ v,e= .returned v∧Below w.heap.size w w'∧kT w' v qs
def zU (w:World) (m:RM) (e:Ending) (w':World):Prop:=∃ v,e= .returned v∧Below w.heap.size w w'∧mR w' v m
theorem A9:(Tryz.prog.info? 152).map (fun i=>(i.zero,i.size,i.bytes))=some (some (.agg #[.bool false,.slice none 0 0,.bool false,.slice none 0 0]),4,64):=by kernel_rfl
theorem zL:(Tryz.prog.info? 154).map (fun i=>(i.zero,i.size,i.bytes))=some (some (.slice none 0 0),1,24):=by kernel_rfl
theorem D6 (v:Value) (qs:List Rat) (T:TypeId) (w:World) (h:jL w T v (qs.map Fr.of)) (hq:∀ q∈qs,dz q=true) (hn:qs.length≤1000) :
  Calls Tryz.prog 116 #[v] w (WJ w qs):=by
 obtain ⟨i0,hi,hz0,hz1,hz2⟩:=info_parts A9
 obtain ⟨a,cap,rfl,hc1,hc2,hread⟩:=h.read
 have H:Hid (∀ k (_:k<qs.length),∃ b off,a=some ⟨b,off,none⟩∧b<w.heap.size∧w.cell? ⟨b,off+k*2,none⟩=some (.string (Fr.of qs[k]).n)∧w.cell? ⟨b,off+k*2+1,none⟩=some (.string (Fr.of qs[k]).d)):=zh fun k hk=>by
  have:=hread k (by simpa using hk)
  simp only [List.getElem_map] at this
  exact this
 have HQ:=zh hq
 rw [List.length_map] at hc1 ⊢
 clear h hread hq
 go_enter Tryz.func116,Tryz.ntmps116
 go_wp2_with fail
 go_loopw [3,4] (fun ov iv wr=>∃ k:Nat,iv= .int .i64 (k:Int)∧k≤qs.length∧Hid (bK wr w.heap.size 152 4 o9 ov (qs.take k))∧Below w.heap.size w wr) (fun _ iv _=>qs.length - (intOf iv).toNat)
 case atStart=>exact ⟨0,rfl,by omega,zh (bK.nil _ _ _ _ _),Below.refl _ _⟩
 case round =>
  obtain ⟨k,rfl,hk,HG,hb⟩:=hrel
  rcases Nat.lt_or_ge k qs.length with hlt|hge
  ·obtain ⟨b,off,rfl,hbl,hx1,hx2⟩:=H.out k hlt
   have hc1:=(hb.cell (p:=⟨b,off+k*2,none⟩) hbl).trans hx1
   have hc2:=(hb.cell (p:=⟨b,off+k*2+1,none⟩) hbl).trans hx2
   clear hx1 hx2
   have IN:=zh (fun W=>uW (jc (HQ.out _ (List.getElem_mem hlt))) W)
   generalize Fr.of qs[k]=lk at *
   obtain ⟨s,t⟩:=lk
   unfold Fr.v at IN
   obtain ⟨av,cv,rfl⟩:=HG.out.at (n:=k) (by simp;omega)
   go_wp2_with fail
   refine (IN.out _).mono ?_
   rintro e w1 ⟨v,rfl,hb1,hra⟩
   obtain ⟨bn,pn,ln,cn,bd,pd,ld,cd,rfl, -, -⟩:=id hra
   have HA:=zh hra
   have HB:=zh (Bt hb hb1)
   replace HG:=zh (HG.out.later hb1 (o9.stay zi))
   clear hra hb hb1 hc1 hc2
   go_wp2_with (at_builtin;refine bS (w0:=w) rfl (.tmp 11) (.tmp 17) 154 rfl 152 i0 (.agg #[.bool false,.slice none 0 0,.bool false,.slice none 0 0]) 4 64 Tryz.underlying154 hi hz0 hz1 hz2 rfl zd o9 _ (qs.take k) rfl (HG.out.later aA (o9.stay zi)) (Bt HB.out aA) _ [.bool bn,.slice pn ln cn,.bool bd,.slice pd ld cd] qs[k] rfl (au.new _ _ _) rfl ?c1 ⟨_,_,_,_,_,_,_,_,rfl,HA.out.later aA⟩ (o9.stay zi) ?c2 zo ?_)
   case c1=>intro u hu;simp only [List.mem_cons,List.not_mem_nil,or_false] at hu;rcases hu with rfl|rfl|rfl|rfl<;>rfl
   case c2=>simp;omega
   intro v' w2 hg hb2 _
   have HG2:=zh hg
   clear hg HG HA HB
   go_wp2_with fail
   go_roundw
   case rel=>exact ⟨k+1,by go_num,by omega,HG2,hb2⟩
   case measure=>exact zM
  ·obtain rfl:k=qs.length:=by omega
   rw [List.take_length] at HG
   obtain ⟨av,cv,rfl⟩:=HG.out.slice
   go_wp2_with fail
   go_ret
   exact ⟨_,rfl,hb,HG.out.Gy⟩
theorem tV (v:Value) (m:RM) (w:World) (h:bQ w v m.fr) (hq:∀ r∈m,∀ q∈r,dz q=true) (hn:m.length≤1000∧∀ r∈m,r.length≤1000) :
  Calls Tryz.prog 99 #[v] w (zU w m):=by
 obtain ⟨i0,hi,hz0,hz1,hz2⟩:=info_parts zL
 obtain ⟨a,cap,rfl,hc1,hc2,hread⟩:=bQ.read h
 have hl:m.fr.length=m.length:=List.length_map _
 have H:Hid (∀ k (_:k<m.length),∃ b off a' c',a=some ⟨b,off,none⟩∧b<w.heap.size∧w.cell? ⟨b,off+k,none⟩=some (.slice a' m[k].length c')∧jL w 36 (.slice a' m[k].length c') (m[k].map Fr.of)):=zh fun k hk=>by
  have:=hread k zo
  simp only [RM.fr,List.getElem_map,List.length_map] at this
  exact this
 have HQ:=zh hq
 have HN:=zh hn.2
 have hn1:=hn.1
 rw [hl] at hc1 ⊢
 clear h hread hq hl hn
 go_enter Tryz.func99,Tryz.ntmps99
 go_wp2_with fail
 go_loopw [3,4] (fun ov iv wr=>∃ k:Nat,iv= .int .i64 (k:Int)∧k≤m.length∧Hid (bK wr w.heap.size 154 1 jU ov (m.take k))∧Below w.heap.size w wr) (fun _ iv _=>m.length - (intOf iv).toNat)
 case atStart=>exact ⟨0,rfl,by omega,zh (bK.nil _ _ _ _ _),Below.refl _ _⟩
 case round =>
  obtain ⟨k,rfl,hk,HG,hb⟩:=hrel
  rcases Nat.lt_or_ge k m.length with hlt|hge
  ·obtain ⟨b,off,a',c',rfl,hbl,hx1,hx2⟩:=H.out k hlt
   have hc1:=(hb.cell (p:=⟨b,off+k,none⟩) hbl).trans hx1
   have IN:=zh (D6 _ m[k] 36 wr (hx2.later hb) (HQ.out _ (List.getElem_mem hlt)) (HN.out _ (List.getElem_mem hlt)))
   clear hx1 hx2
   generalize m[k].length=n at *
   obtain ⟨av,cv,rfl⟩:=HG.out.at (n:=k) (by simp;omega)
   go_wp2_with fail
   refine IN.out.mono ?_
   rintro e w1 ⟨v,rfl,hb1,hra⟩
   have HA:=zh hra
   obtain ⟨ax,cx,rfl⟩:=uE.slice hra
   have HB:=zh (Bt hb hb1)
   replace HG:=zh (HG.out.later hb1 (jU.stay zi zi))
   clear hra hb hb1 hc1
   go_wp2_with (at_builtin;refine bS (w0:=w) rfl (.tmp 11) (.tmp 17) 146 rfl 154 i0 (.slice none 0 0) 1 24 Tryz.underlying146 hi hz0 hz1 hz2 rfl zd jU _ (m.take k) rfl (HG.out.later aA (jU.stay zi zi)) (Bt HB.out aA) _ [.slice ax m[k].length cx] m[k] rfl (au.new _ _ _) rfl ?c1 ⟨_,rfl,HA.out.later aA⟩ (jU.stay zi zi) ?c2 zo ?_)
   case c1=>intro u hu;simp only [List.mem_cons,List.not_mem_nil,or_false] at hu;rcases hu with rfl;rfl
   case c2=>simp;omega
   intro v' w2 hg hb2 _
   have HG2:=zh hg
   clear hg HG HA HB
   go_wp2_with fail
   go_roundw
   case rel=>exact ⟨k+1,by go_num,by omega,HG2,hb2⟩
   case measure=>exact zM
  ·obtain rfl:k=m.length:=by omega
   rw [List.take_length] at HG
   obtain ⟨av,cv,rfl⟩:=HG.out.slice
   go_wp2_with fail
   go_ret
   exact ⟨_,rfl,hb,HG.out.Gy⟩
theorem kT.at {w:World} {v:Value} {qs:List Rat} (h:kT w v qs):∃ a cap,v= .slice a qs.length cap∧qs.length≤cap∧cap≤9223372036854775807 ∧
  ∀ k (_:k<qs.length),∃ b off bn pn ln cn bd pd ld cd,a=some ⟨b,off,none⟩∧b<w.heap.size∧w.cell? ⟨b,off+k*4,none⟩=some (.bool bn)∧w.cell? ⟨b,off+k*4+1,none⟩=some (.slice pn ln cn)∧w.cell? ⟨b,off+k*4+2,none⟩=some (.bool bd)∧w.cell? ⟨b,off+k*4+3,none⟩=some (.slice pd ld cd) ∧
   Ra w (.agg #[.bool bn,.slice pn ln cn,.bool bd,.slice pd ld cd]) qs[k]:=by
 obtain ⟨a,cap,h1,h2,h3,h4⟩:=uE.read h
 refine ⟨a,cap,h1,h2,h3,fun k hk=>?_⟩
 obtain ⟨b,off,c,k1,k2,⟨bn,pn,ln,cn,bd,pd,ld,cd,rfl,k3⟩, -, k5⟩:=h4 k hk
 exact ⟨b,off,bn,pn,ln,cn,bd,pd,ld,cd,k1,k2,k5 0 zo,k5 1 zo,k5 2 zo,k5 3 zo,k3⟩
theorem mR.at {w:World} {v:Value} {m:RM} (h:mR w v m):∃ a cap,v= .slice a m.length cap∧m.length≤cap∧cap≤9223372036854775807 ∧
  ∀ k (_:k<m.length),∃ b off a' c',a=some ⟨b,off,none⟩∧b<w.heap.size∧w.cell? ⟨b,off+k,none⟩=some (.slice a' m[k].length c')∧kT w (.slice a' m[k].length c') m[k]:=by
 obtain ⟨a,cap,h1,h2,h3,h4⟩:=uE.read h
 refine ⟨a,cap,h1,h2,h3,fun k hk=>?_⟩
 obtain ⟨b,off,c,k1,k2,⟨x,rfl,k3⟩, -, k5⟩:=h4 k hk
 obtain ⟨a',c',rfl⟩:=uE.slice k3
 have:=k5 0 zo
 rw [Nat.mul_one,Nat.add_zero] at this
 exact ⟨b,off,a',c',k1,k2,this,k3⟩
def Ql (q:Rat):Prop:=dZ 100000000 q
theorem Ql.four {q:Rat} (h:Ql q):sz 10000 q.num.natAbs≤1073741824∧sz 10000 q.den≤1073741824:=by
 have h1:=vw h.1
 have h2:=vw h.2
 exact ⟨by omega,by omega⟩
theorem pK:(Tryz.prog.info? 36).map (fun i=>(i.zero,i.size,i.bytes))=some (some (.agg #[.string ⟨#[]⟩,.string ⟨#[]⟩]),2,32):=by kernel_rfl
theorem zN:(Tryz.prog.info? 56).map (fun i=>(i.zero,i.size,i.bytes))=some (some (.slice none 0 0),1,24):=by kernel_rfl
theorem QD {qs:List Rat} {k:Nat} (hk:k<qs.length) (h:∀ q∈qs.take k,dz q=true) (hq:dz qs[k]=true):∀ q∈qs.take (k+1),dz q=true:=fun q hm=>by
 rw [List.take_succ_eq_append_getElem hk,List.mem_append] at hm
 rcases hm with hm|hm
 ·exact h q hm
 ·rw [List.mem_singleton.1 hm];exact hq
theorem T9 {q:Rat} (h:Ql q) (x:Value) (W:World) (hx:Ra W x q):Calls Tryz.prog 109 #[x] W (oH W (wr q)):=rF x q W hx h.four.1 h.four.2
theorem Vj {q:Rat} (h:Ql q) (hq:dz q=true) (x:Value) (W:World) (hx:Ra W x q):Calls Tryz.prog 109 #[x] W (fun e w'=>e= .returned (.tuple #[(Fr.of q).v,.int .i64 0])∧Below W.heap.size W w'):=by
 have:=T9 h x W hx
 rw [show wr q=(Fr.of q,0) by unfold wr;rw [if_pos hq]] at this
 exact this
theorem YZ {q:Rat} (h:Ql q) (hq:dz q=false) (x:Value) (W:World) (hx:Ra W x q):Calls Tryz.prog 109 #[x] W (fun e w'=>e= .returned (.tuple #[.agg #[.string ⟨#[]⟩,.string ⟨#[]⟩],.int .i64 6])∧Below W.heap.size W w'):=by
 have:=T9 h x W hx
 rw [show wr q=(Fr.no,6) by unfold wr;rw [if_neg (by simp [hq])]] at this
 exact this
theorem af4 {qs:List Rat} {k:Nat} (hk:k<qs.length) (h:dz qs[k]=false):qs.all dz=false:=by
 rw [Bool.eq_false_iff]
 intro e
 have:=List.all_eq_true.1 e _ (List.getElem_mem hk)
 rw [h] at this
 cases this
theorem Nt (v:Value) (qs:List Rat) (w:World) (h:kT w v qs) (hs:∀ q∈qs,Ql q) (hn:qs.length≤1000) :
  Calls Tryz.prog 117 #[v] w (xI w qs):=by
 obtain ⟨i0,hi,hz0,hz1,hz2⟩:=info_parts pK
 obtain ⟨a,cap,rfl,hc1,hc2,hread⟩:=kT.at h
 have H:=zh hread
 have HS:=zh hs
 clear h hread hs
 go_enter Tryz.func117,Tryz.ntmps117
 go_wp2_with fail
 go_loopw [4,5] (fun ov iv wr=>∃ k:Nat,iv= .int .i64 (k:Int)∧k≤qs.length∧Hid (bK wr w.heap.size 36 2 xC ov ((qs.take k).map Fr.of))∧Hid (∀ q∈qs.take k,dz q=true)∧Below w.heap.size w wr) (fun _ iv _=>qs.length - (intOf iv).toNat)
 case atStart=>exact ⟨0,rfl,by omega,zh (bK.nil _ _ _ _ _),zh (fun q h=>by cases h),Below.refl _ _⟩
 case round =>
  obtain ⟨k,rfl,hk,HG,HK,hb⟩:=hrel
  rcases Nat.lt_or_ge k qs.length with hlt|hge
  ·obtain ⟨b,off,bn,pn,ln,cn,bd,pd,ld,cd,rfl,hbl,x0,x1,x2,x3,hra⟩:=H.out k hlt
   have c0:=(hb.cell (p:=⟨b,off+k*4,none⟩) hbl).trans x0
   have c1:=(hb.cell (p:=⟨b,off+k*4+1,none⟩) hbl).trans x1
   have c2:=(hb.cell (p:=⟨b,off+k*4+2,none⟩) hbl).trans x2
   have c3:=(hb.cell (p:=⟨b,off+k*4+3,none⟩) hbl).trans x3
   have RA:=zh (hra.later hb)
   have SQ:=zh (HS.out _ (List.getElem_mem hlt))
   clear x0 x1 x2 x3 hra
   obtain ⟨av,cv,rfl⟩:=HG.out.at (n:=k) (by simp;omega)
   cases hv:dz qs[k] with
   | true =>
    have HV:=zh hv
    have OU:=zh (Vj SQ.out hv _ wr RA.out)
    obtain ⟨⟨s,t⟩,hf⟩:∃ y,Fr.of qs[k]=y:=⟨_,rfl⟩
    rw [hf] at OU
    have HF:=zh hf
    replace OU:Hid (Calls Tryz.prog 109 #[.agg #[.bool bn,.slice pn ln cn,.bool bd,.slice pd ld cd]] wr (fun e w'=>e= .returned (.tuple #[.agg #[.string s,.string t],.int .i64 0])∧Below wr.heap.size wr w')):=OU
    clear hv hf
    go_wp2_with fail
    refine OU.out.mono ?_
    rintro e w1 ⟨rfl,hb1⟩
    have HB:=zh (Bt hb hb1)
    replace HG:=zh (HG.out.later hb1 (xC.stay _))
    clear hb hb1 c0 c1 c2 c3 OU
    go_wp2_with (at_builtin;refine bS (w0:=w) rfl (.tmp 25) (.tmp 27) 56 rfl 36 i0 (.agg #[.string ⟨#[]⟩,.string ⟨#[]⟩]) 2 32 Tryz.underlying56 hi hz0 hz1 hz2 rfl zd xC _ ((qs.take k).map Fr.of) rfl (HG.out.later aA (xC.stay _)) (Bt HB.out aA) _ [.string s,.string t] ⟨s,t⟩ rfl (aJ) rfl ?c1 rfl (xC.stay _) ?c2 zo ?_)
    case c1=>intro u hu;simp only [List.mem_cons,List.not_mem_nil,or_false] at hu;rcases hu with rfl|rfl<;>rfl
    case c2=>simp;omega
    intro v' w2 hg hb2 _
    have HG2:Hid (bK w2 w.heap.size 36 2 xC v' ((qs.take (k+1)).map Fr.of)):=zh (by rw [List.take_succ_eq_append_getElem hlt,List.map_append,List.map_singleton,HF.out,List.map_take];exact hg)
    clear hg HG
    go_wp2_with fail
    go_roundw
    case rel=>exact ⟨k+1,by go_num,by omega,HG2,zh (QD hlt HK.out HV.out),hb2⟩
    case measure=>exact zM
   | false =>
    have HN:=zh (af4 hlt hv)
    have OU:=zh (YZ SQ.out hv _ wr RA.out)
    clear hv
    go_wp2_with fail
    refine OU.out.mono ?_
    rintro e w1 ⟨rfl,hb1⟩
    have HB:=zh (Bt hb hb1)
    go_wp2_with fail
    go_ret2
    exact .inr ⟨HN.out,rfl,Bt HB.out aA⟩
  ·obtain rfl:k=qs.length:=by omega
   rw [List.take_length] at HG HK
   obtain ⟨av,cv,rfl⟩:=HG.out.slice
   have HY:Hid (qs.all dz=true):=zh (List.all_eq_true.2 HK.out)
   go_wp2_with fail
   go_ret2
   exact .inl ⟨HY.out,_,rfl,hb,HG.out.Gy.C8⟩
def mP:Rl (List Fr):=af6 fun w v l=>jL w 36 v l
theorem mP.stay {m:List TypeId} (h:36∉m):uP m mP:=fun w w' a c k hr=>by
 obtain ⟨v,e,h1⟩:=hr
 exact ⟨v,e,jL.kept h1 k h⟩
theorem WG {m:RM} {k:Nat} (hk:k<m.length) (h:m[k].all dz=false):iF m=false:=by
 unfold iF
 rw [Bool.eq_false_iff]
 intro e
 have:=List.all_eq_true.1 e _ (List.getElem_mem hk)
 rw [h] at this
 cases this
theorem Ol {m:RM} {k:Nat} (hk:k<m.length) (h:∀ r∈m.take k,r.all dz=true) (hq:m[k].all dz=true):∀ r∈m.take (k+1),r.all dz=true:=fun q hm=>by
 rw [List.take_succ_eq_append_getElem hk,List.mem_append] at hm
 rcases hm with hm|hm
 ·exact h q hm
 ·rw [List.mem_singleton.1 hm];exact hq
theorem Nz (v:Value) (m:RM) (w:World) (h:mR w v m) (hs:∀ r∈m,∀ q∈r,Ql q) (hn:m.length≤1000∧∀ r∈m,r.length≤1000) :
  Calls Tryz.prog 104 #[v] w (aQ w (if iF m then 0 else 6) m.fr):=by
 obtain ⟨i0,hi,hz0,hz1,hz2⟩:=info_parts zN
 obtain ⟨a,cap,rfl,hc1,hc2,hread⟩:=mR.at h
 have H:=zh hread
 have HS:=zh hs
 have HN:=zh hn.2
 have hn1:=hn.1
 have NO:=zh (fun k hk h=>show (if iF m then (0:Int) else 6)=6 by rw [WG (m:=m) (k:=k) hk h];rfl)
 have YES:Hid ((∀ r∈m,r.all dz=true)→(if iF m then (0:Int) else 6)=0):=zh fun h=>by rw [show iF m=true from List.all_eq_true.2 h];rfl
 generalize (if iF m then (0:Int) else 6)=z at *
 clear h hread hs hn
 go_enter Tryz.func104,Tryz.ntmps104
 go_wp2_with fail
 go_loopw [4,5] (fun ov iv wr=>∃ k:Nat,iv= .int .i64 (k:Int)∧k≤m.length∧Hid (bK wr w.heap.size 56 1 mP ov ((m.take k).map fun r=>r.map Fr.of))∧Hid (∀ r∈m.take k,r.all dz=true)∧Below w.heap.size w wr) (fun _ iv _=>m.length - (intOf iv).toNat)
 case atStart=>exact ⟨0,rfl,by omega,zh (bK.nil _ _ _ _ _),zh (fun q h=>by cases h),Below.refl _ _⟩
 case round =>
  obtain ⟨k,rfl,hk,HG,HK,hb⟩:=hrel
  rcases Nat.lt_or_ge k m.length with hlt|hge
  ·obtain ⟨b,off,a',c',rfl,hbl,hx1,hx2⟩:=H.out k hlt
   have hc1:=(hb.cell (p:=⟨b,off+k,none⟩) hbl).trans hx1
   have TO:=zh (Nt _ m[k] wr (hx2.later hb) (HS.out _ (List.getElem_mem hlt)) (HN.out _ (List.getElem_mem hlt)))
   clear hx1 hx2
   generalize m[k].length=n at *
   obtain ⟨av,cv,rfl⟩:=HG.out.at (n:=k) (by simp;omega)
   go_wp2_with fail
   refine TO.out.mono ?_
   rintro e w1 (⟨hy,vo,rfl,hb1,hf⟩|⟨hy,rfl,hb1⟩)
   ·obtain ⟨ax,cx,rfl, -⟩:=hf.read
    have HF:=zh hf
    have HY:=zh hy
    have HB:=zh (Bt hb hb1)
    replace HG:=zh (HG.out.later hb1 (mP.stay zi))
    clear hf hy hb hb1 hc1
    have hl:(m[k].map Fr.of).length=m[k].length:=List.length_map _
    rw [hl] at HF ⊢
    clear hl
    generalize m[k].length=n2 at *
    go_wp2_with (at_builtin;refine bS (w0:=w) rfl (.tmp 25) (.tmp 27) 44 rfl 56 i0 (.slice none 0 0) 1 24 Tryz.underlying44 hi hz0 hz1 hz2 rfl zd mP _ ((m.take k).map fun r=>r.map Fr.of) rfl (HG.out.later aA (mP.stay zi)) (Bt HB.out aA) _ [.slice ax n2 cx] (m[k].map Fr.of) rfl (au.new _ _ _) rfl ?c1 ⟨_,rfl,HF.out.later aA⟩ (mP.stay zi) ?c2 zo ?_)
    case c1=>intro u hu;simp only [List.mem_cons,List.not_mem_nil,or_false] at hu;rcases hu with rfl;rfl
    case c2=>simp;omega
    intro v' w2 hg hb2 _
    have HG2:Hid (bK w2 w.heap.size 56 1 mP v' ((m.take (k+1)).map fun r=>r.map Fr.of)):=zh (by rw [List.take_succ_eq_append_getElem hlt,List.map_append,List.map_singleton];first|exact hg|(rw [List.map_take];exact hg))
    clear hg HG
    go_wp2_with fail
    go_roundw
    case rel=>exact ⟨k+1,by go_num,by omega,HG2,zh (Ol hlt HK.out HY.out),hb2⟩
    case measure=>exact zM
   ·have HZ:=zh (NO.out k hlt hy)
    have HB:=zh (Bt hb hb1)
    clear hy
    go_wp2_with fail
    go_ret2
    rw [HZ.out]
    exact aQ.no HB.out zd
  ·obtain rfl:k=m.length:=by omega
   rw [List.take_length] at HG HK
   have HZ:=zh (YES.out HK.out)
   obtain ⟨av,cv,rfl⟩:=HG.out.slice
   go_wp2_with fail
   go_ret2
   rw [HZ.out]
   exact aQ.yes hb HG.out.Gy.Cy
def H7 (p q:List Rat) (i:Nat):Rat:=p.getD i 0*q.getD i 0
theorem AA {p q:List Rat} (hp:∀ x∈p,dZ 67 x) (hq:∀ x∈q,dZ 67 x) (i:Nat):dZ 134 (H7 p q i):=by
 have h0:dZ 67 0:=⟨by decide+kernel,by decide+kernel⟩
 have e:∀ l:List Rat,(∀ x∈l,dZ 67 x)→dZ 67 (l.getD i 0):=fun l h=>by
  rw [List.getD_eq_getElem?_getD]
  rcases Nat.lt_or_ge i l.length with hi|hi
  ·rw [List.getElem?_eq_getElem hi];exact h _ (List.getElem_mem hi)
  ·rw [List.getElem?_eq_none hi];exact h0
 exact qN (e p hp) (e q hq)
theorem oM {f:Nat→Rat} (h:∀ i,dZ 134 (f i)):∀ k,dZ (200*2^k - 1) (jP f k)
 | 0=>by
  show dZ 199 0
  exact ⟨by decide+kernel,by decide+kernel⟩
 | k+1=>by
  have hp:1≤2^k:=Nat.one_le_two_pow
  have:=uf (oM h k) ((h k).mono (show 134≤200*2^k - 1 by omega))
  exact this.mono (by rw [Nat.pow_succ];omega)
theorem Hy {f:Nat→Rat} (h:∀ i,dZ 134 (f i)) {k:Nat} (hk:k≤4):Ql (jP f k):=(oM h k).mono (by
 have:2^k≤2^4:=Nat.pow_le_pow_right zo hk
 omega)
theorem TW (W:World):Calls Tryz.prog 110 #[.int .i64 0,.int .i64 1] W (dD W 0):=by
 have:=xE 0 1 zo zo zo zo zo W
 rwa [Qr] at this
theorem Ut (v1 v2:Value) (p q:List Rat) (w:World) (h1:kT w v1 p) (h2:kT w v2 q) (hl:q.length=p.length) (hn:p.length≤4) (hp:∀ x∈p,dZ 67 x) (hq:∀ x∈q,dZ 67 x) :
  Calls Tryz.prog 107 #[v1,v2] w (dD w (dH p q)):=by
 rw [yw hl]
 have hf:=oM (AA hp hq)
 have hfe:(fun i=>p.getD i 0*q.getD i 0)=H7 p q:=rfl
 rw [hfe]
 obtain ⟨a1,aV9,rfl, -, hc1,hr1⟩:=kT.at h1
 obtain ⟨a2,cap2,rfl, -, hc2,hr2⟩:=kT.at h2
 have H1:Hid (∀ k (_:k<p.length),∃ b off bn pn ln cn bd pd ld cd,a1=some ⟨b,off,none⟩∧b<w.heap.size∧w.cell? ⟨b,off+k*4,none⟩=some (.bool bn)∧w.cell? ⟨b,off+k*4+1,none⟩=some (.slice pn ln cn)∧w.cell? ⟨b,off+k*4+2,none⟩=some (.bool bd)∧w.cell? ⟨b,off+k*4+3,none⟩=some (.slice pd ld cd) ∧
   Ra w (.agg #[.bool bn,.slice pn ln cn,.bool bd,.slice pd ld cd]) (p.getD k 0)):=zh fun k hk=>by
  have:=hr1 k hk
  rw [show p[k]=p.getD k 0 by simp [hk]] at this
  exact this
 have H2:Hid (∀ k (_:k<p.length),∃ b off bn pn ln cn bd pd ld cd,a2=some ⟨b,off,none⟩∧b<w.heap.size∧w.cell? ⟨b,off+k*4,none⟩=some (.bool bn)∧w.cell? ⟨b,off+k*4+1,none⟩=some (.slice pn ln cn)∧w.cell? ⟨b,off+k*4+2,none⟩=some (.bool bd)∧w.cell? ⟨b,off+k*4+3,none⟩=some (.slice pd ld cd) ∧
   Ra w (.agg #[.bool bn,.slice pn ln cn,.bool bd,.slice pd ld cd]) (q.getD k 0)):=zh fun k hk=>by
  have hk':k<q.length:=by omega
  have:=hr2 k hk'
  rw [show q[k]=q.getD k 0 by simp [hk']] at this
  exact this
 rw [hl]
 have PS:Hid (∀ i,dZ 134 (H7 p q i)):=zh (AA hp hq)
 have TI:Hid (∀ k x y W,Ra W x (p.getD k 0)→Ra W y (q.getD k 0)→Calls Tryz.prog 156 #[x,y] W (dD W (H7 p q k))):=zh fun k x y W hx hy=>iR x y _ _ W hx hy (by
  have e:∀ l:List Rat,(∀ x∈l,dZ 67 x)→dZ 67 (l.getD k 0):=fun l h=>by
   rw [List.getD_eq_getElem?_getD]
   rcases Nat.lt_or_ge k l.length with hi|hi
   ·rw [List.getElem?_eq_getElem hi];exact h _ (List.getElem_mem hi)
   ·rw [List.getElem?_eq_none hi];exact ⟨by decide+kernel,by decide+kernel⟩
  exact (e p hp).mono zo) (by
  have e:∀ l:List Rat,(∀ x∈l,dZ 67 x)→dZ 67 (l.getD k 0):=fun l h=>by
   rw [List.getD_eq_getElem?_getD]
   rcases Nat.lt_or_ge k l.length with hi|hi
   ·rw [List.getElem?_eq_getElem hi];exact h _ (List.getElem_mem hi)
   ·rw [List.getElem?_eq_none hi];exact ⟨by decide+kernel,by decide+kernel⟩
  exact (e q hq).mono zo)
 generalize H7 p q=F at *
 have PL:Hid (∀ k,k<4→∀ x y W,Ra W x (jP F k)→Ra W y (F k)→Calls Tryz.prog 157 #[x,y] W (dD W (jP F (k+1)))):=zh fun k hk x y W hx hy=>rE x y _ _ W hx hy ((Hy PS.out zo).mono zo) ((PS.out k).mono zo)
 clear h1 h2 hr1 hr2 hp hq hf hfe
 generalize p.length=n at *
 clear hl
 go_enter Tryz.func107,Tryz.ntmps107
 go_wp2_with fail
 obtain ⟨w0,E0⟩:∃ y,w.alloc (.cells #[.bool false,.slice none 0 0,.bool false,.slice none 0 0] 152)=y:=⟨_,rfl⟩
 have hb0:Below w.heap.size w w0:=by rw [← E0];exact aA
 have X4:Hid (au w0 w.heap.size #[.bool false,.slice none 0 0,.bool false,.slice none 0 0] 152):=zh (by rw [← E0];exact au.new _ _ _)
 rw [E0]
 clear E0
 refine (TW _).mono ?_
 rintro e w1 ⟨v,rfl,hb1,hra⟩
 obtain ⟨bn,pn,ln,cn,bd,pd,ld,cd,rfl, -, -⟩:=id hra
 replace X4:=zh (X4.out.later hb1)
 have HB1:=zh (Bt hb0 hb1)
 obtain ⟨p4,E4⟩:∃ y,w.heap.size=y:=⟨_,rfl⟩
 have Wd:w.heap.size≤p4:=by omega
 rw [E4] at X4 ⊢
 clear E4
 have hne:=X4.out.lt
 go_wp2_with fail
 have h12:Below w1.heap.size w1 (w1.alloc (.cells #[.bool bn,.slice pn ln cn,.bool bd,.slice pd ld cd] 152)):=aA
 have hx5:=au.new w1 #[.bool bn,.slice pn ln cn,.bool bd,.slice pd ld cd] 152
 obtain ⟨w2,E2⟩:∃ y,w1.alloc (.cells #[.bool bn,.slice pn ln cn,.bool bd,.slice pd ld cd] 152)=y:=⟨_,rfl⟩
 rw [E2] at h12 hx5 ⊢
 replace X4:=zh (X4.out.later h12)
 have xJ:=zh (hra.later h12)
 have HB2:Hid (Below w.heap.size w w2):=zh (Bt HB1.out h12)
 have zy:=HB1.out.size
 obtain ⟨p5,E5⟩:∃ y,w1.heap.size=y:=⟨_,rfl⟩
 rw [E5] at hx5 hne zy ⊢
 have X5:=zh hx5
 clear E2 E5 hx5 h12 hb1 hra HB1 hb0
 go_loopw [6] (fun iv wr=>∃ (k:Nat) (bn:Bool) (pn:Option Addr) (ln cn:Nat) (bd:Bool) (pd:Option Addr) (ld cd:Nat),iv= .int .i64 (k:Int)∧k≤n∧Hid (au wr p5 #[.bool bn,.slice pn ln cn,.bool bd,.slice pd ld cd] 152)∧Hid (au wr p4 #[.bool false,.slice none 0 0,.bool false,.slice none 0 0] 152)∧Hid (Ra wr (.agg #[.bool bn,.slice pn ln cn,.bool bd,.slice pd ld cd]) (jP F k))∧Hid (Below w.heap.size w wr)) (fun iv _=>n - (intOf iv).toNat)
 case atStart=>exact ⟨0,_,_,_,_,_,_,_,_,rfl,by omega,X5,X4,xJ,HB2⟩
 case round =>
  obtain ⟨k,bn,pn,ln,cn,bd,pd,ld,cd,rfl,hk,X5,X4,xJ,hb⟩:=hrel
  have c5:=X5.out.cell
  have l5:=X5.out.lt
  rcases Nat.lt_or_ge k n with hlt|hge
  ·obtain ⟨b,off,s1,s2,s3,s4,s5,s6,s7,s8,rfl,hbl,x0,x1,x2,x3,r1⟩:=H1.out k hlt
   obtain ⟨b',off',t1,t2,t3,t4,t5,t6,t7,t8,rfl,sS,y0,y1,y2,y3,r2⟩:=H2.out k hlt
   replace x0:=(hb.out.cell (p:=⟨b,off+k*4,none⟩) hbl).trans x0
   replace y0:=(hb.out.cell (p:=⟨b',off'+k*4,none⟩) sS).trans y0
   replace x1:=(hb.out.cell (p:=⟨b,off+k*4+1,none⟩) hbl).trans x1
   replace y1:=(hb.out.cell (p:=⟨b',off'+k*4+1,none⟩) sS).trans y1
   replace x2:=(hb.out.cell (p:=⟨b,off+k*4+2,none⟩) hbl).trans x2
   replace y2:=(hb.out.cell (p:=⟨b',off'+k*4+2,none⟩) sS).trans y2
   replace x3:=(hb.out.cell (p:=⟨b,off+k*4+3,none⟩) hbl).trans x3
   replace y3:=(hb.out.cell (p:=⟨b',off'+k*4+3,none⟩) sS).trans y3
   have R1:=zh (r1.later hb.out)
   have R2:=zh (r2.later hb.out)
   have b1:b<wr.heap.size:=Nat.lt_of_lt_of_le hbl hb.out.size
   have b2:b'<wr.heap.size:=Nat.lt_of_lt_of_le sS hb.out.size
   clear r1 r2 hbl sS
   go_wp2_with fail
   refine aC [(.read,0),(.pure,1),(.pure,2),(.pure,3),(.read,4),(.pure,5),(.pure,6),(.pure,7),(.read,8),(.ext,9),(.ext,10),(.fin,11)] zk zk zR zP ?_;refine Wk.out ?_;(iterate 9 (first|(apply iX;(rfl);(rfl);(rfl);(intro J hJ;go_simp;(with_reducible refine hJ _ ?_);clear hJ J))|(apply jX;(rfl);(rfl);(rfl);(rfl);(exact zk);(intro J hJ;go_simp;(with_reducible refine hJ _ ?_);clear hJ J))|(apply iG;(rfl);(rfl);(intro J hJ;go_simp;(with_reducible refine hJ _ ?_);clear hJ J))|(apply iY;(rfl);(rfl);(rfl);(rfl);(intro J hJ;go_simp;(with_reducible refine hJ _ ?_);clear hJ J;try go_simp))))
   refine jM rfl rfl (fun wa hba J hJ=>?_);go_simp
   have z1:Below wr.heap.size wr wa:=aA
   refine (TI.out k _ _ _ (R1.out.later z1) (R2.out.later z1)).mono ?_
   rintro e wb ⟨v,rfl,hbb,hrt⟩
   obtain ⟨u1,u2,u3,u4,u5,u6,u7,u8,rfl, -, -⟩:=id hrt
   have HT:=zh hrt
   refine hJ _ _ hbb ?_
   clear hJ J hrt
   refine jM rfl rfl (fun wc hbc J hJ=>?_);go_simp
   have z2:Below wb.heap.size wb wc:=aA
   have z3:Below wr.heap.size wr wc:=Bt (Bt z1 hbb) z2
   refine (PL.out k zo _ _ _ (xJ.out.later z3) (HT.out.later z2)).mono ?_
   rintro e wd ⟨v,rfl,hbd,hrs⟩
   obtain ⟨v1,v2,v3,v4,v5,v6,v7,v8,rfl, -, -⟩:=id hrs
   have HS:=zh hrs
   refine hJ _ _ hbd ?_
   clear hJ J hrs
   refine Aa [_] rfl (fun wf hbf=>?_)
   have z4:Below wd.heap.size wd wf:=aA
   have z5:Below wr.heap.size wr wf:=Bt (Bt z3 hbd) z4
   have Y5:=X5.out.later z5
   have d5:=Y5.cell
   have e5:=Y5.lt
   have f5:=Y5.free
   have g4:=X4.out.later z5
   have HS4:=zh (Ra.kH (HS.out.later z4) Y5 zd (.bool v1) (.slice v2 v3 v4) (.bool v5) (.slice v6 v7 v8))
   have Yr:Hid (Below w.heap.size w wf):=zh (Bt hb.out z5)
   have Gz:p4≠p5:=by omega
   clear hba hbb hbc hbd hbf z1 z2 z3 z4 z5 c5 l5 x0 x1 x2 x3 y0 y1 y2 y3
   go_wp2_with fail
   go_roundw
   case rel=>exact ⟨k+1,v1,v2,v3,v4,v5,v6,v7,v8,by go_num,by omega,zh ((((Y5.set 0 _).set 1 _).set 2 _).set 3 _),zh ((((g4.setOther _ Gz).setOther _ Gz).setOther _ Gz).setOther _ Gz),HS4,zh ((((Yr.out.setCell zy _).setCell zy _).setCell zy _).setCell zy _)⟩
   case measure=>exact zM
  ·obtain rfl:k=n:=by omega
   have c4:=X4.out.cell
   have l4:=X4.out.lt
   have f4:=X4.out.free
   have h04:=hb.out.size
   go_wp2_with fail
   have Y4:=(((X4.out.set 0 (.bool bn)).set 1 (.slice pn ln cn)).set 2 (.bool bd)).set 3 (.slice pd ld cd)
   refine bO rfl rfl Y4 Tryz.underlying152 rfl zk ?_
   exact ⟨_,rfl,(((hb.out.setCell Wd _).setCell Wd _).setCell Wd _).setCell Wd _,Ra.kH xJ.out X4.out zd _ _ _ _⟩
theorem wL (z:Int):(Lib.itoa z).length≤(Lib.decDigits z.natAbs).length+1:=by
 unfold Lib.itoa
 split
 ·simp
 ·rw [show z.toNat=z.natAbs by omega];omega
theorem fC {q:Rat} (h:dz q=true):Fits (Fr.of q):=by
 unfold dz at h
 rw [Bool.and_eq_true] at h
 have h1:=eX.1 h.1
 have h2:=eX.1 h.2
 have h3:=wL q.num
 have h4:=wL (q.den:Int)
 rw [Int.natAbs_natCast] at h4
 exact ⟨by show (Lib.itoa q.num).length≤_;omega,by show (Lib.itoa (q.den:Int)).length≤_;omega⟩
theorem XU {qs:List Rat} (h:∀ q∈qs,dz q=true):∀ x∈qs.map Fr.of,Fits x:=fun x hx=>by
 obtain ⟨q,hq,rfl⟩:=List.mem_map.1 hx
 exact fC (h q hq)
theorem Y8 {qs:List Rat} (h:∀ q∈qs,dz q=true):Kn (qs.map Fr.of)=true:=by rw [Fw,F9 h];rfl
theorem Rn {m:RM} {n:Nat} (h:m.ok n):Fv m.fr=true:=by
 have:=h.za
 unfold qz at this
 cases e:Fv m.fr with
 | true=>rfl
 | false=>rw [e] at this;cases this
theorem XR {m:RM} {n:Nat} (h:m.ok n):N7 m.fr:=fun r hr=>by
 obtain ⟨s,hs,rfl⟩:=List.mem_map.1 hr
 exact XU (h.2.2.2.2 s hs).2
theorem szM {m:RM} {n:Nat} (h:m.ok n):∀ r∈m,∀ q∈r,dZ 67 q:=fun r hr q hq=>gy ((h.2.2.2.2 r hr).2 q hq)
theorem uF (v:Value) (m:RM) (n:Nat) (w:World) (h:bQ w v m.fr) (hm:m.ok n):Calls Tryz.prog 98 #[v] w (fun e w'=>e= .returned (.bool true)∧Below w.heap.size w w'):=Rn hm ▸ oG v m.fr w h (XR hm)
theorem Na {p q:List Rat} (hl:q.length=p.length) (hn:p.length≤4) (hp:∀ x∈p,dZ 67 x) (hq:∀ x∈q,dZ 67 x):Ql (dH p q):=by
 rw [yw hl]
 exact Hy (AA hp hq) hn
theorem Ux (v vl:Value) (m:RM) (qs:List Rat) (T:TypeId) (w:World) (h:bQ w v m.fr) (hl:jL w T vl (qs.map Fr.of)) (hm:m.ok qs.length) (hq:∀ q∈qs,dz q=true) :
  Calls Tryz.prog 55 #[v,vl] w (xI w (m.map fun r=>dH r qs)):=by
 obtain ⟨i0,hi,hz0,hz1,hz2⟩:=info_parts A9
 have RI:=zh (fun W (hW:Below w.heap.size w W)=>uF v m _ W (h.later hW) hm)
 have LI:Hid (∀ W,Below w.heap.size w W→Calls Tryz.prog 105 #[vl] W (fun e w'=>e= .returned (.bool true)∧Below W.heap.size W w')):=zh fun W hW=>Y8 hq ▸ Gj vl _ T W (hl.later hW) (XU hq)
 obtain ⟨m1,m4,n1,n4,hrows⟩:=id hm
 have IN:=zh (fun W (hW:Below w.heap.size w W)=>tV v m W (h.later hW) (fun r hr=>(hrows r hr).2) ⟨by omega,fun r hr=>by rw [(hrows r hr).1];omega⟩)
 have VA:=zh (fun W (hW:Below w.heap.size w W)=>D6 vl qs T W (hl.later hW) hq zo)
 have hd:∀ r∈m,r.length=qs.length∧(∀ x∈r,dZ 67 x):=fun r hr=>⟨(hrows r hr).1,szM hm r hr⟩
 have HD:=zh hd
 have HQ:Hid (∀ x∈qs,dZ 67 x):=zh fun x hx=>gy (hq x hx)
 have TO:Hid (∀ v W,kT W v (m.map fun r=>dH r qs)→Calls Tryz.prog 117 #[v] W (xI W (m.map fun r=>dH r qs))):=zh fun v W hv=>Nt v _ W hv (fun q hq'=>by
  obtain ⟨r,hr,rfl⟩:=List.mem_map.1 hq'
  exact Na (hd r hr).1.symm (by rw [(hd r hr).1];omega) (hd r hr).2 HQ.out) (by rw [List.length_map];omega)
 obtain ⟨a,cap,rfl, -, -, hread⟩:=bQ.read h
 have hfl:m.fr.length=m.length:=List.length_map _
 obtain ⟨b,off,a0,c0,rfl,lb,cell0, -⟩:=hread 0 zo
 have e0:(m.fr[0]'zo).length=qs.length:=by
  simp only [RM.fr,List.getElem_map,List.length_map]
  exact (hd _ (List.getElem_mem _)).1
 rw [e0] at cell0
 obtain ⟨al,cl,rfl, -, -, -⟩:=hl.read
 have hll:(qs.map Fr.of).length=qs.length:=List.length_map _
 rw [hll] at LI VA ⊢
 rw [hfl] at RI IN ⊢
 have h0m:0<m.length:=by omega
 clear h hl hm hq hrows hread hd e0 hfl hll
 go_enter Tryz.func55,Tryz.ntmps55
 go_wp2_with fail
 refine (RI.out _ (Below.refl _ _)).mono ?_
 rintro e w1 ⟨rfl,hb1⟩
 go_wp2_with fail
 refine (LI.out _ hb1).mono ?_
 rintro e w2 ⟨rfl,hb2⟩
 have h2:=Bt hb1 hb2
 have ck:=(h2.cell (p:=⟨b,off,none⟩) lb).trans cell0
 have l2:b<w2.heap.size:=Nat.lt_of_lt_of_le lb h2.size
 go_wp2_with fail
 refine (IN.out _ h2).mono ?_
 rintro e w3 ⟨v,rfl,hb3,hmv⟩
 have h3:=Bt h2 hb3
 obtain ⟨ax,cx,rfl⟩:=uE.slice hmv
 clear ck l2
 go_wp2_with fail
 refine (VA.out _ h3).mono ?_
 rintro e w4 ⟨v,rfl,hb4,hrv⟩
 obtain ⟨ay,cy,rfl⟩:=uE.slice hrv
 have HM:=zh (hmv.later hb4)
 have HR:=zh hrv
 have HB:=zh (Bt h3 hb4)
 have H:Hid (∀ k (_:k<m.length),∃ b off a' c',ax=some ⟨b,off,none⟩∧b<w4.heap.size∧w4.cell? ⟨b,off+k,none⟩=some (.slice a' m[k].length c')∧kT w4 (.slice a' m[k].length c') m[k]):=zh (by
  obtain ⟨a',c',e1, -, -, hat⟩:=mR.at HM.out
  simp only [Value.slice.injEq,true_and] at e1
  obtain ⟨rfl,rfl⟩:=e1
  exact hat)
 clear hmv hrv hb1 hb2 hb3 hb4 h2 h3 cell0 lb RI LI IN VA HM
 obtain ⟨nq,enq⟩:∃ y,qs.length=y:=⟨_,rfl⟩
 have ENQ:=zh enq
 rw [enq] at HD HR n1 n4 ⊢
 clear enq
 go_wp2_with fail
 go_loopw [8,9] (fun ov iv wr=>∃ k:Nat,iv= .int .i64 (k:Int)∧k≤m.length∧Hid (bK wr w4.heap.size 152 4 o9 ov ((m.take k).map fun r=>dH r qs))∧Below w4.heap.size w4 wr) (fun _ iv _=>m.length - (intOf iv).toNat)
 case atStart=>exact ⟨0,rfl,by omega,zh (bK.nil _ _ _ _ _),Below.refl _ _⟩
 case round =>
  obtain ⟨k,rfl,hk,HG,hb⟩:=hrel
  rcases Nat.lt_or_ge k m.length with hlt|hge
  ·obtain ⟨b,off,a',c',rfl,hbl,hx1,hx2⟩:=H.out k hlt
   have hc1:=(hb.cell (p:=⟨b,off+k,none⟩) hbl).trans hx1
   have DO:=zh (Ut _ _ m[k] qs wr (hx2.later hb) (HR.out.later hb) (ENQ.out.trans (HD.out _ (List.getElem_mem hlt)).1.symm) (by rw [(HD.out _ (List.getElem_mem hlt)).1];omega) (HD.out _ (List.getElem_mem hlt)).2 HQ.out)
   clear hx1 hx2
   generalize m[k].length=n at *
   obtain ⟨av,cv,rfl⟩:=HG.out.at (n:=k) (by simp;omega)
   go_wp2_with fail
   refine DO.out.mono ?_
   rintro e w1 ⟨v,rfl,hb1,hra⟩
   obtain ⟨bn,pn,ln,cn,bd,pd,ld,cd,rfl, -, -⟩:=id hra
   have HA:=zh hra
   have HB1:=zh (Bt hb hb1)
   replace HG:=zh (HG.out.later hb1 (o9.stay zi))
   clear hra hb hb1 hc1
   go_wp2_with (at_builtin;refine bS (w0:=w4) rfl (.tmp 33) (.tmp 40) 154 rfl 152 i0 (.agg #[.bool false,.slice none 0 0,.bool false,.slice none 0 0]) 4 64 Tryz.underlying154 hi hz0 hz1 hz2 rfl zd o9 _ ((m.take k).map fun r=>dH r qs) rfl (HG.out.later aA (o9.stay zi)) (Bt HB1.out aA) _ [.bool bn,.slice pn ln cn,.bool bd,.slice pd ld cd] (dH m[k] qs) rfl (au.new _ _ _) rfl ?c1 ⟨_,_,_,_,_,_,_,_,rfl,HA.out.later aA⟩ (o9.stay zi) ?c2 zo ?_)
   case c1=>intro u hu;simp only [List.mem_cons,List.not_mem_nil,or_false] at hu;rcases hu with rfl|rfl|rfl|rfl<;>rfl
   case c2=>simp;omega
   intro v' w2 hg hb2 _
   have HG2:Hid (bK w2 w4.heap.size 152 4 o9 v' ((m.take (k+1)).map fun r=>dH r qs)):=zh (by rw [List.take_succ_eq_append_getElem hlt,List.map_append,List.map_singleton];first|exact hg|(rw [List.map_take];exact hg))
   clear hg HG HA HB1
   go_wp2_with fail
   go_roundw
   case rel=>exact ⟨k+1,by go_num,by omega,HG2,hb2⟩
   case measure=>exact zM
  ·obtain rfl:k=m.length:=by omega
   rw [List.take_length] at HG
   obtain ⟨av,cv,rfl⟩:=HG.out.at (n:=m.length) zi
   have TOV:=zh (TO.out _ _ HG.out.Gy)
   have HB2:=zh (Bt HB.out hb)
   go_wp2_with fail
   refine TOV.out.mono ?_
   rintro e w5 (⟨hy,vo,rfl,hb5,hf⟩|⟨hy,rfl,hb5⟩)
   ·have HF:=zh hf
    have HY:=zh hy
    clear hf hy
    go_wp2_with fail
    go_ret2
    exact .inl ⟨HY.out,_,rfl,Bt HB2.out hb5,HF.out⟩
   ·have HY:=zh hy
    clear hy
    go_wp2_with fail
    go_ret2
    exact .inr ⟨HY.out,rfl,Bt HB2.out hb5⟩
theorem iw {α:Type} (f:Nat→α) (n:Nat):(List.range (n+1)).map f=(List.range n).map f++[f n]:=by
 rw [List.range_succ,List.map_append,List.map_singleton]
def dg (l:List Fr) (i j:Nat):Fr:=if j=i then l.getD i Fr.no else Fr.zero
theorem tX (v:Value) (l:List Fr) (T:TypeId) (w:World) (h:jL w T v l) (h1:1≤l.length) (h4:l.length≤4) (hok:Kn l=true) (hf:∀ x∈l,Fits x) :
  Calls Tryz.prog 42 #[v] w (aQ w 0 (oD l)):=by
 obtain ⟨i0,hi,hz0,hz1,hz2⟩:=info_parts pK
 obtain ⟨i1,hi',hy0,hy1,hy2⟩:=info_parts zN
 have LI:=zh (hok ▸ Gj v l T w h hf)
 obtain ⟨a,cap,rfl, -, -, hread⟩:=h.read
 have H:Hid (∀ k (_:k<l.length),∃ b off,a=some ⟨b,off,none⟩∧b<w.heap.size∧w.cell? ⟨b,off+k*2,none⟩=some (.string (l.getD k Fr.no).n)∧w.cell? ⟨b,off+k*2+1,none⟩=some (.string (l.getD k Fr.no).d)):=zh fun k hk=>by
  have:=hread k hk
  rw [show l.getD k Fr.no=l[k] by simp [hk]]
  exact this
 have hD:oD l=(List.range l.length).map fun i=>(List.range l.length).map (dg l i):=rfl
 rw [hD]
 clear hD h hread hok hf
 generalize hn:l.length=n at *
 have q1:decide ((n:Int)<1)=false:=by simp;omega
 have q2:decide ((4:Int)<(n:Int))=false:=by simp;omega
 clear hn
 obtain ⟨G,hG⟩:∃ G:Nat→Nat→Fr,Hid (G=dg l):=⟨_,zh rfl⟩
 rw [← hG.out]
 go_enter Tryz.func42,Tryz.ntmps42
 go_wp2_with fail
 refine LI.out.mono ?_
 rintro e w1 ⟨rfl,hb1⟩
 have HB1:=zh hb1
 clear hb1
 go_wp2_with fail
 go_loopw [4,5] (fun ov iv wr=>∃ k:Nat,iv= .int .i64 (k:Int)∧k≤n∧Hid (bK wr w.heap.size 56 1 mP ov ((List.range k).map fun i=>(List.range n).map (G i)))∧Below w.heap.size w wr) (fun _ iv _=>n - (intOf iv).toNat)
 case atStart=>exact ⟨0,rfl,by omega,zh (bK.nil _ _ _ _ _),HB1.out⟩
 case round =>
  obtain ⟨k,rfl,hk,HG,hb⟩:=hrel
  rcases Nat.lt_or_ge k n with hlt|hge
  ·obtain ⟨wo,rfl⟩:∃ wo:World,wo=wr:=⟨_,rfl⟩
   obtain ⟨ov,cv,rfl⟩:=HG.out.at (n:=k) zi
   obtain ⟨b,off,rfl,lb,hx1,hx2⟩:=H.out k hlt
   have X1:=zh ((hb.cell (p:=⟨b,off+k*2,none⟩) lb).trans hx1)
   have X2:=zh ((hb.cell (p:=⟨b,off+k*2+1,none⟩) lb).trans hx2)
   have Zj:b<wo.heap.size:=Nat.lt_of_lt_of_le lb hb.size
   have GK:Hid (l.getD k Fr.no=G k k):=zh (by rw [hG.out];unfold dg;rw [if_pos rfl])
   have GZ:Hid (∀ j,j≠k→G k j=Fr.zero):=zh (fun j hj=>by rw [hG.out];unfold dg;rw [if_neg hj])
   have Qb:=zh hb
   clear hx1 hx2 hb
   generalize l.getD k Fr.no=lk at *
   obtain ⟨s,t⟩:=lk
   simp only at X1 X2
   go_wp2_with fail
   go_loopw [6,7] (fun rv jv wr=>∃ j:Nat,jv= .int .i64 (j:Int)∧j≤n∧Hid (bK wr wo.heap.size 36 2 xC rv ((List.range j).map (G k)))∧Below wo.heap.size wo wr) (fun _ jv _=>n - (intOf jv).toNat)
   case atStart=>exact ⟨0,rfl,by omega,zh (bK.nil _ _ _ _ _),Below.refl _ _⟩
   case round =>
    obtain ⟨j,rfl,hj,HR,hbi⟩:=hrel
    rcases Nat.lt_or_ge j n with hjlt|VX
    ·obtain ⟨rv,rc,rfl⟩:=HR.out.at (n:=j) zi
     have JD:=zh hbi
     clear hbi
     by_cases he:j=k
     ·subst he
      have g1:((j:Int) == (j:Int))=true:=by simp
      have c1:=(JD.out.cell (p:=⟨b,off+j*2,none⟩) Zj).trans X1.out
      have c2:=(JD.out.cell (p:=⟨b,off+j*2+1,none⟩) Zj).trans X2.out
      have lbi:b<wr.heap.size:=Nat.lt_of_lt_of_le Zj JD.out.size
      go_wp2_with (at_builtin;refine bS (w0:=wo) rfl (.tmp 40) (.tmp 42) 56 rfl 36 i0 (.agg #[.string ⟨#[]⟩,.string ⟨#[]⟩]) 2 32 Tryz.underlying56 hi hz0 hz1 hz2 rfl zd xC _ ((List.range j).map (G j)) rfl (HR.out.later aA (xC.stay _)) (Bt JD.out aA) _ [.string s,.string t] ⟨s,t⟩ rfl (au.fZ _ _ _ _) rfl ?c1 rfl (xC.stay _) ?c2 zo ?_)
      case c1=>intro u hu;simp only [List.mem_cons,List.not_mem_nil,or_false] at hu;rcases hu with rfl|rfl<;>rfl
      case c2=>simp;omega
      intro v' w2 hg hb2 _
      have HG2:Hid (bK w2 wo.heap.size 36 2 xC v' ((List.range (j+1)).map (G j))):=zh (by rw [iw,← GK.out];exact hg)
      clear hg HR c1 c2
      go_wp2_with fail
      go_roundw
      case rel=>exact ⟨j+1,by go_num,by omega,HG2,hb2⟩
      case measure=>exact zM
     ·have g1:((k:Int) == (j:Int))=false:=by simp;omega
      go_wp2_with (at_builtin;refine bS (w0:=wo) rfl (.tmp 40) (.tmp 42) 56 rfl 36 i0 (.agg #[.string ⟨#[]⟩,.string ⟨#[]⟩]) 2 32 Tryz.underlying56 hi hz0 hz1 hz2 rfl zd xC _ ((List.range j).map (G k)) rfl (HR.out.later aA (xC.stay _)) (Bt JD.out aA) _ [.string ⟨#[48]⟩,.string ⟨#[49]⟩] Fr.zero rfl (au.fZ _ _ _ _) rfl ?c1 rfl (xC.stay _) ?c2 zo ?_)
      case c1=>intro u hu;simp only [List.mem_cons,List.not_mem_nil,or_false] at hu;rcases hu with rfl|rfl<;>rfl
      case c2=>simp;omega
      intro v' w2 hg hb2 _
      have HG2:Hid (bK w2 wo.heap.size 36 2 xC v' ((List.range (j+1)).map (G k))):=zh (by rw [iw,GZ.out j he];exact hg)
      clear hg HR
      go_wp2_with fail
      go_roundw
      case rel=>exact ⟨j+1,by go_num,by omega,HG2,hb2⟩
      case measure=>exact zM
    ·obtain rfl:j=n:=by omega
     have zF:=zh HR.out.Gy.C8
     obtain ⟨rv,rc,rfl⟩:=HR.out.at (n:=j) zi
     have HB3:=zh (Bt Qb.out hbi)
     replace HG:=zh (HG.out.later hbi (mP.stay zi))
     clear hbi HR
     go_wp2_with (at_builtin;refine bS (w0:=w) rfl (.tmp 44) (.tmp 46) 44 rfl 56 i1 (.slice none 0 0) 1 24 Tryz.underlying44 hi' hy0 hy1 hy2 rfl zd mP _ ((List.range k).map fun i=>(List.range j).map (G i)) rfl (HG.out.later aA (mP.stay zi)) (Bt HB3.out aA) _ [.slice rv j rc] ((List.range j).map (G k)) rfl (au.new _ _ _) rfl ?c1 ⟨_,rfl,zF.out.later aA⟩ (mP.stay zi) ?c2 zo ?_)
     case c1=>intro u hu;simp only [List.mem_cons,List.not_mem_nil,or_false] at hu;rcases hu with rfl;rfl
     case c2=>simp;omega
     intro v' w2 hg hb2 _
     have HG2:Hid (bK w2 w.heap.size 56 1 mP v' ((List.range (k+1)).map fun i=>(List.range j).map (G i))):=zh (by rw [iw];exact hg)
     clear hg HG zF
     go_wp2_with fail
     go_roundw
     case rel=>exact ⟨k+1,by go_num,by omega,HG2,hb2⟩
     case measure=>exact zM
  ·obtain rfl:k=n:=by omega
   obtain ⟨ov,cv,rfl⟩:=HG.out.at (n:=k) zi
   go_wp2_with fail
   go_ret2
   exact aQ.yes hb HG.out.Gy.Cy
theorem Gf (v:Value) (m:List (List Fr)) (n:Nat) (w:World) (h:bQ w v m) (hok:Fv m=true) (hf:N7 m) (h1:1≤m.length) (h4:m.length≤4) (n4:n≤4) (hr:∀ r∈m,r.length=n) :
  Calls Tryz.prog 106 #[v] w (aQ w 0 (kG m n)):=by
 obtain ⟨i0,hi,hz0,hz1,hz2⟩:=info_parts pK
 obtain ⟨i1,hi',hy0,hy1,hy2⟩:=info_parts zN
 have RI:=zh (hok ▸ oG v m w h hf)
 obtain ⟨a,cap,rfl, -, -, hread⟩:=bQ.read h
 obtain ⟨b,off,a0,c0,rfl,lb,cell0, -⟩:=hread 0 zo
 rw [hr _ (List.getElem_mem _)] at cell0
 have H:Hid (∀ k (_:k<m.length),∃ a' c',w.cell? ⟨b,off+k,none⟩=some (.slice a' n c')∧∀ i,i<n→∃ b2 off2,a'=some ⟨b2,off2,none⟩∧b2<w.heap.size∧w.cell? ⟨b2,off2+i*2,none⟩=some (.string (m[k].getD i Fr.no).n)∧w.cell? ⟨b2,off2+i*2+1,none⟩=some (.string (m[k].getD i Fr.no).d)):=zh fun k hk=>by
  obtain ⟨b',off',a',c',e, -, k1,k2⟩:=hread k hk
  simp only [Option.some.injEq,Addr.mk.injEq,and_true] at e
  obtain ⟨rfl,rfl⟩:=e
  have hl:=hr _ (List.getElem_mem hk)
  rw [hl] at k1
  refine ⟨a',c',k1,fun i hi=>?_⟩
  obtain ⟨a2,c2,e2, -, -, hat⟩:=k2.read
  simp only [Value.slice.injEq] at e2
  obtain ⟨rfl, -, rfl⟩:=e2
  obtain ⟨b2,off2,k3,k4,k5,k6⟩:=hat i zo
  rw [show m[k].getD i Fr.no=m[k][i] by simp [hl,hi]]
  exact ⟨b2,off2,k3,k4,k5,k6⟩
 have h0m:0<m.length:=by omega
 have hT:kG m n=(List.range n).map fun i=>m.map fun r=>r.getD i Fr.no:=rfl
 rw [hT]
 clear hT h hread hok hf hr
 go_enter Tryz.func106,Tryz.ntmps106
 go_wp2_with fail
 refine RI.out.mono ?_
 rintro e w1 ⟨rfl,hb1⟩
 have HB1:=zh hb1
 clear hb1
 go_wp2_with fail
 go_loopw [4,5] (fun ov iv wr=>∃ k:Nat,iv= .int .i64 (k:Int)∧k≤n∧Hid (bK wr w.heap.size 56 1 mP ov ((List.range k).map fun i=>m.map fun r=>r.getD i Fr.no))∧Below w.heap.size w wr) (fun _ iv _=>n - (intOf iv).toNat)
 case atStart=>exact ⟨0,rfl,by omega,zh (bK.nil _ _ _ _ _),HB1.out⟩
 case round =>
  obtain ⟨k,rfl,hk,HG,hb⟩:=hrel
  have ck:=(hb.cell (p:=⟨b,off,none⟩) lb).trans cell0
  rcases Nat.lt_or_ge k n with hlt|hge
  ·obtain ⟨wo,rfl⟩:∃ wo:World,wo=wr:=⟨_,rfl⟩
   obtain ⟨ov,cv,rfl⟩:=HG.out.at (n:=k) zi
   have Zj:b<wo.heap.size:=Nat.lt_of_lt_of_le lb hb.size
   have Qb:=zh hb
   clear hb
   go_wp2_with fail
   clear ck
   go_loopw [6,7] (fun rv jv wr=>∃ j:Nat,jv= .int .i64 (j:Int)∧j≤m.length∧Hid (bK wr wo.heap.size 36 2 xC rv ((m.take j).map fun r=>r.getD k Fr.no))∧Below wo.heap.size wo wr) (fun _ jv _=>m.length - (intOf jv).toNat)
   case atStart=>exact ⟨0,rfl,by omega,zh (bK.nil _ _ _ _ _),Below.refl _ _⟩
   case round =>
    obtain ⟨j,rfl,hj,HR,hbi⟩:=hrel
    rcases Nat.lt_or_ge j m.length with hjlt|VX
    ·obtain ⟨rv,rc,rfl⟩:=HR.out.at (n:=j) (by simp;omega)
     have JD:=zh hbi
     clear hbi
     obtain ⟨a',c',x1,hat⟩:=H.out j hjlt
     obtain ⟨b2,off2,rfl,Ip,y1,y2⟩:=hat k hlt
     have hbw:=Bt Qb.out JD.out
     have d1:=(hbw.cell (p:=⟨b,off+j,none⟩) lb).trans x1
     have d2:=(hbw.cell (p:=⟨b2,off2+k*2,none⟩) Ip).trans y1
     have d3:=(hbw.cell (p:=⟨b2,off2+k*2+1,none⟩) Ip).trans y2
     have lb3:b2<wr.heap.size:=Nat.lt_of_lt_of_le Ip hbw.size
     have lb4:b<wr.heap.size:=Nat.lt_of_lt_of_le lb hbw.size
     clear x1 y1 y2 hat hbw Ip
     obtain ⟨f,hfe⟩:∃ f,m[j].getD k Fr.no=f:=⟨_,rfl⟩
     have HFE:=zh hfe
     rw [hfe] at d2 d3
     clear hfe
     obtain ⟨s,t⟩:=f
     go_wp2_with (at_builtin;refine bS (w0:=wo) rfl (.tmp 25) (.tmp 33) 56 rfl 36 i0 (.agg #[.string ⟨#[]⟩,.string ⟨#[]⟩]) 2 32 Tryz.underlying56 hi hz0 hz1 hz2 rfl zd xC _ ((m.take j).map fun r=>r.getD k Fr.no) rfl (HR.out.later aA (xC.stay _)) (Bt JD.out aA) _ [.string s,.string t] ⟨s,t⟩ rfl (au.new _ _ _) rfl ?c1 rfl (xC.stay _) ?c2 zo ?_)
     case c1=>first|exact ⟨rfl,rfl⟩|(intro u hu;simp only [List.mem_cons,List.not_mem_nil,or_false] at hu;rcases hu with rfl|rfl<;>rfl)
     case c2=>first|omega|(simp;omega)
     intro v' w2 hg hb2 _
     have HG2:Hid (bK w2 wo.heap.size 36 2 xC v' ((m.take (j+1)).map fun r=>r.getD k Fr.no)):=zh (by rw [List.take_succ_eq_append_getElem hjlt,List.map_append,List.map_singleton,HFE.out];first|exact hg|(rw [List.map_take];exact hg))
     clear hg HR d1 d2 d3
     go_wp2_with fail
     go_roundw
     case rel=>exact ⟨j+1,by go_num,by omega,HG2,hb2⟩
     case measure=>exact zM
    ·obtain rfl:j=m.length:=by omega
     rw [List.take_length] at HR
     have zF:=zh HR.out.Gy.C8
     obtain ⟨rv,rc,rfl⟩:=HR.out.at (n:=m.length) zi
     have HB3:=zh (Bt Qb.out hbi)
     replace HG:=zh (HG.out.later hbi (mP.stay zi))
     clear hbi HR
     go_wp2_with (at_builtin;refine bS (w0:=w) rfl (.tmp 35) (.tmp 37) 44 rfl 56 i1 (.slice none 0 0) 1 24 Tryz.underlying44 hi' hy0 hy1 hy2 rfl zd mP _ ((List.range k).map fun i=>m.map fun r=>r.getD i Fr.no) rfl (HG.out.later aA (mP.stay zi)) (Bt HB3.out aA) _ [.slice rv m.length rc] (m.map fun r=>r.getD k Fr.no) rfl (au.new _ _ _) rfl ?c1 ⟨_,rfl,zF.out.later aA⟩ (mP.stay zi) ?c2 zo ?_)
     case c1=>intro u hu;simp only [List.mem_cons,List.not_mem_nil,or_false] at hu;rcases hu with rfl;rfl
     case c2=>simp;omega
     intro v' w2 hg hb2 _
     have HG2:Hid (bK w2 w.heap.size 56 1 mP v' ((List.range (k+1)).map fun i=>m.map fun r=>r.getD i Fr.no)):=zh (by rw [iw];exact hg)
     clear hg HG zF
     go_wp2_with fail
     go_roundw
     case rel=>exact ⟨k+1,by go_num,by omega,HG2,hb2⟩
     case measure=>exact zM
  ·obtain rfl:k=n:=by omega
   obtain ⟨ov,cv,rfl⟩:=HG.out.at (n:=k) zi
   go_wp2_with fail
   go_ret2
   exact aQ.yes hb HG.out.Gy.Cy
theorem mR.get {w:World} {v:Value} {m:RM} (h:mR w v m) {n:Nat} (hm:∀ r∈m,r.length=n) (h0:0<m.length):∃ b off cap,v= .slice (some ⟨b,off,none⟩) m.length cap∧b<w.heap.size ∧
  ∀ k (_:k<m.length),∃ a' c',w.cell? ⟨b,off+k,none⟩=some (.slice a' n c')∧kT w (.slice a' n c') m[k]:=by
 obtain ⟨a,cap,rfl, -, -, hat⟩:=mR.at h
 obtain ⟨b,off, -, -, rfl,lb, -, -⟩:=hat 0 h0
 refine ⟨b,off,cap,rfl,lb,fun k hk=>?_⟩
 obtain ⟨b',off',a',c',e, -, k1,k2⟩:=hat k hk
 simp only [Option.some.injEq,Addr.mk.injEq,and_true] at e
 obtain ⟨rfl,rfl⟩:=e
 rw [hm _ (List.getElem_mem hk)] at k1 k2
 exact ⟨a',c',k1,k2⟩
theorem tQ (va vb:Value) (ma mb:RM) (n:Nat) (w:World) (ha:bQ w va ma.fr) (hb:bQ w vb mb.fr) (Rk:ma.ok mb.length) (UD:mb.ok n) :
  Calls Tryz.prog 43 #[va,vb] w (aQ w (if iF (jd ma mb n) then 0 else 6) (jd ma mb n).fr):=by
 obtain ⟨i0,hi,hz0,hz1,hz2⟩:=info_parts A9
 obtain ⟨i1,hi',hy0,hy1,hy2⟩:=info_parts zL
 have MH:=Jc UD
 obtain ⟨a1,a4,b1,b4,xu⟩:=id Rk
 obtain ⟨-, -, n1,n4,Yg⟩:=id UD
 have R1:=zh (fun W (hW:Below w.heap.size w W)=>uF va ma _ W (ha.later hW) Rk)
 have R2:=zh (fun W (hW:Below w.heap.size w W)=>uF vb mb _ W (hb.later hW) UD)
 have TR:=zh (fun W (hW:Below w.heap.size w W)=>Gf vb mb.fr n W (hb.later hW) (Rn UD) (XR UD) (by rw [RM.fr,List.length_map];omega) (by rw [RM.fr,List.length_map];omega) n4 (fun r hr=>by
  obtain ⟨s,hs,rfl⟩:=List.mem_map.1 hr
  rw [List.length_map];exact (Yg s hs).1))
 rw [Dl UD] at TR
 have I1:=zh (fun W (hW:Below w.heap.size w W)=>tV va ma W (ha.later hW) (fun r hr=>(xu r hr).2) ⟨by omega,fun r hr=>by rw [(xu r hr).1];omega⟩)
 have hcl:(jK mb n).length=n:=by simp [jK]
 have hcg:∀ c (h:c<(jK mb n).length),(jK mb n)[c]=F8 mb c:=fun c hc=>by simp [jK]
 have hml:(jd ma mb n)=ma.map fun r=>(List.range n).map fun c=>dH r (F8 mb c):=rfl
 have hsz:∀ r∈jd ma mb n,∀ q∈r,Ql q:=fun r hr q hq=>by
  obtain ⟨x,hx,rfl⟩:=List.mem_map.1 hr
  obtain ⟨c,hc,rfl⟩:=List.mem_map.1 hq
  have hc':c<(jK mb n).length:=by rw [hcl];exact List.mem_range.1 hc
  have hm:=List.getElem_mem hc'
  rw [hcg c hc'] at hm
  exact Na (((MH.2.2.2.2 _ hm).1).trans (xu x hx).1.symm) (by rw [(xu x hx).1];omega) (szM Rk x hx) (szM MH _ hm)
 have OU:=zh (fun v W h=>Nz v (jd ma mb n) W h hsz ⟨by rw [hml,List.length_map];omega,fun r hr=>by
  obtain ⟨x,hx,rfl⟩:=List.mem_map.1 hr
  simp;omega⟩)
 generalize (if iF (jd ma mb n) then (0:Int) else 6)=er at *
 have I2:=zh (fun v W (h:bQ W v (jK mb n).fr)=>tV v (jK mb n) W h (fun r hr=>(MH.2.2.2.2 r hr).2) ⟨by omega,fun r hr=>by rw [(MH.2.2.2.2 r hr).1];omega⟩)
 have DT:Hid (∀ x (_:x<ma.length) c (_:c<(jK mb n).length) (v1 v2:Value) W,kT W v1 ma[x]→kT W v2 (jK mb n)[c]→Calls Tryz.prog 107 #[v1,v2] W (dD W (dH ma[x] (F8 mb c)))):=zh fun x hx c hc v1 v2 W h1 h2=>by
  have hmx:=List.getElem_mem hx
  have hmc:=List.getElem_mem hc
  have e:=Ut v1 v2 ma[x] (jK mb n)[c] W h1 h2 ((MH.2.2.2.2 _ hmc).1.trans (xu _ hmx).1.symm) (by rw [(xu _ hmx).1];omega) (szM Rk _ hmx) (szM MH _ hmc)
  rw [hcg c hc] at e
  exact e
 have AR:Hid (∀ r∈ma,r.length=mb.length):=zh fun r hr=>(xu r hr).1
 have CR:Hid (∀ r∈jK mb n,r.length=mb.length):=zh fun r hr=>(MH.2.2.2.2 r hr).1
 obtain ⟨a,cap,rfl, -, -, hread⟩:=bQ.read ha
 have hfl:ma.fr.length=ma.length:=List.length_map _
 obtain ⟨b,off,a0,c0,rfl,lb,cell0, -⟩:=hread 0 zo
 have e0:(ma.fr[0]'zo).length=mb.length:=by
  simp only [RM.fr,List.getElem_map,List.length_map]
  exact (xu _ (List.getElem_mem _)).1
 rw [e0] at cell0
 obtain ⟨a2,cap2,rfl, -, -, -⟩:=bQ.read hb
 have hbl:mb.fr.length=mb.length:=List.length_map _
 rw [hbl] at R2 TR ⊢
 rw [hfl] at R1 I1 ⊢
 rw [hml] at OU ⊢
 have h0m:0<ma.length:=by omega
 have hc0:0<(jK mb n).length:=by omega
 obtain ⟨C,HC⟩:∃ C:Nat→List Rat,Hid (F8 mb=C):=⟨_,zh rfl⟩
 rw [HC.out] at OU DT ⊢
 generalize jK mb n=mc at *
 generalize mb.length=l at *
 clear hml ha hb hread MH Rk UD xu Yg hsz hcg e0 hfl hbl HC
 subst hcl
 go_enter Tryz.func43,Tryz.ntmps43
 go_wp2_with fail
 refine (R1.out _ (Below.refl _ _)).mono ?_
 rintro e w1 ⟨rfl,hb1⟩
 go_wp2_with fail
 refine (R2.out _ hb1).mono ?_
 rintro e w2 ⟨rfl,hb2⟩
 have h2:=Bt hb1 hb2
 have ck:=(h2.cell (p:=⟨b,off,none⟩) lb).trans cell0
 have l2:b<w2.heap.size:=Nat.lt_of_lt_of_le lb h2.size
 have g1:((l:Int) != (l:Int))=false:=by simp
 go_wp2_with fail
 refine (TR.out _ h2).mono ?_
 rintro e w3 ⟨hb3,vt,rfl,hmt, -⟩
 replace hmt:=hmt rfl
 have h3:=Bt h2 hb3
 clear ck l2 cell0 lb
 obtain ⟨at',ct,rfl, -⟩:=bQ.read hmt
 generalize mc.fr.length=nt at *
 go_wp2_with fail
 refine (I1.out _ h3).mono ?_
 rintro e w4 ⟨vx,rfl,hb4,hx⟩
 obtain ⟨bx,ox,cx,rfl,lx,ao1⟩:=mR.get hx AR.out h0m
 go_wp2_with fail
 refine (I2.out _ _ (hmt.later hb4)).mono ?_
 rintro e w5 ⟨vy,rfl,hb5,hy⟩
 obtain ⟨bY,oy,cy,rfl,ly,an8⟩:=mR.get hy CR.out hc0
 have HB:=zh (Bt (Bt h3 hb4) hb5)
 have HX:Hid (∀ k (_:k<ma.length),∃ a' c',w5.cell? ⟨bx,ox+k,none⟩=some (.slice a' l c')∧kT w5 (.slice a' l c') ma[k]):=zh fun k hk=>by
  obtain ⟨a',c',k1,k2⟩:=ao1 k hk
  exact ⟨a',c',(hb5.cell (p:=⟨bx,ox+k,none⟩) lx).trans k1,k2.later hb5⟩
 have HY:=zh an8
 have lx5:bx<w5.heap.size:=Nat.lt_of_lt_of_le lx hb5.size
 clear hx hy ao1 an8 hmt hb1 hb2 hb3 hb4 hb5 h2 h3 lx R1 R2 TR I1 I2
 go_wp2_with fail
 go_loopw [10,11] (fun ov iv wr=>∃ k:Nat,iv= .int .i64 (k:Int)∧k≤ma.length∧Hid (bK wr w5.heap.size 154 1 jU ov ((ma.take k).map fun r=>(List.range mc.length).map fun c=>dH r (C c)))∧Below w5.heap.size w5 wr) (fun _ iv _=>ma.length - (intOf iv).toNat)
 case atStart=>exact ⟨0,rfl,by omega,zh (bK.nil _ _ _ _ _),Below.refl _ _⟩
 case round =>
  obtain ⟨k,rfl,hk,HG,hb⟩:=hrel
  rcases Nat.lt_or_ge k ma.length with hlt|hge
  ·obtain ⟨wo,rfl⟩:∃ wo:World,wo=wr:=⟨_,rfl⟩
   obtain ⟨ov,cv,rfl⟩:=HG.out.at (n:=k) (by simp;omega)
   obtain ⟨a',c',x1,qK⟩:=HX.out k hlt
   have HXR:=zh qK
   have Qb:=zh hb
   clear hb qK
   go_wp2_with fail
   go_loopw [12,13] (fun rv jv wr=>∃ j:Nat,jv= .int .i64 (j:Int)∧j≤mc.length∧Hid (bK wr wo.heap.size 152 4 o9 rv ((List.range j).map fun c=>dH ma[k] (C c)))∧Below wo.heap.size wo wr) (fun _ jv _=>mc.length - (intOf jv).toNat)
   case atStart=>exact ⟨0,rfl,by omega,zh (bK.nil _ _ _ _ _),Below.refl _ _⟩
   case round =>
    obtain ⟨j,rfl,hj,HR,hbi⟩:=hrel
    rcases Nat.lt_or_ge j mc.length with hjlt|VX
    ·obtain ⟨rv,rc,rfl⟩:=HR.out.at (n:=j) zi
     obtain ⟨a2,c2,y1,hyr⟩:=HY.out j hjlt
     have hbw:=Bt Qb.out hbi
     have d1:=(hbw.cell (p:=⟨bx,ox+k,none⟩) lx5).trans x1
     have d2:=(hbw.cell (p:=⟨bY,oy+j,none⟩) ly).trans y1
     have l1:bx<wr.heap.size:=Nat.lt_of_lt_of_le lx5 hbw.size
     have l2:bY<wr.heap.size:=Nat.lt_of_lt_of_le ly hbw.size
     have DO:=zh (fun W (hW:Below wr.heap.size wr W)=>DT.out k hlt j hjlt _ _ W ((HXR.out.later hbw).later hW) ((hyr.later hbw).later hW))
     have JD:=zh hbi
     clear hbi y1 hyr hbw
     go_wp2_with fail
     refine aC [(.pure,0),(.pure,1),(.pure,2),(.pure,3),(.read,4),(.pure,5),(.pure,6),(.pure,7),(.read,8),(.ext,9),(.ext,10),(.fin,11),(.fin,12)] zk zk zR zP ?_;refine Wk.out ?_;(iterate 9 (first|(apply iX;(rfl);(rfl);(rfl);(intro J hJ;go_simp;(with_reducible refine hJ _ ?_);clear hJ J))|(apply jX;(rfl);(rfl);(rfl);(rfl);(exact zk);(intro J hJ;go_simp;(with_reducible refine hJ _ ?_);clear hJ J))|(apply iG;(rfl);(rfl);(intro J hJ;go_simp;(with_reducible refine hJ _ ?_);clear hJ J))|(apply iY;(rfl);(rfl);(rfl);(rfl);(intro J hJ;go_simp;(with_reducible refine hJ _ ?_);clear hJ J;try go_simp))))
     refine jM rfl rfl (fun wa hba J hJ=>?_);go_simp
     have z1:Below wr.heap.size wr wa:=aA
     refine (DO.out _ z1).mono ?_
     rintro e wb ⟨v,rfl,hbb,hrt⟩
     obtain ⟨u1,u2,u3,u4,u5,u6,u7,u8,rfl, -, -⟩:=id hrt
     have HT:=zh hrt
     refine hJ _ _ hbb ?_
     clear hJ J hrt
     refine jM rfl rfl (fun wc hbc J hJ=>?_);go_simp
     have z2:Below wb.heap.size wb wc:=aA
     have z3:Below wr.heap.size wr wc:=Bt (Bt z1 hbb) z2
     refine hJ _ _ aA ?_
     clear hJ J
     have hbx:=au.new wc #[.bool u1,.slice u2 u3 u4,.bool u5,.slice u6 u7 u8] 152
     have z4:Below wc.heap.size wc (wc.alloc (.cells #[.bool u1,.slice u2 u3 u4,.bool u5,.slice u6 u7 u8] 152)):=aA
     refine Aa [_,_] rfl (fun wf hbf=>?_)
     have z5:=Bt z4 hbf
     have z6:=Bt z3 z5
     refine bS (w0:=wo) rfl (.tmp 50) (.tmp 60) 154 rfl 152 i0 (.agg #[.bool false,.slice none 0 0,.bool false,.slice none 0 0]) 4 64 Tryz.underlying154 hi hz0 hz1 hz2 rfl zd o9 _ ((List.range j).map fun c=>dH ma[k] (C c)) rfl (HR.out.later z6 (o9.stay zi)) (Bt JD.out z6) _ [.bool u1,.slice u2 u3 u4,.bool u5,.slice u6 u7 u8] (dH ma[k] (C j)) rfl (hbx.later hbf) rfl (fun u hu=>by simp only [List.mem_cons,List.not_mem_nil,or_false] at hu;rcases hu with rfl|rfl|rfl|rfl<;>rfl) ⟨_,_,_,_,_,_,_,_,rfl,(HT.out.later z2).later z5⟩ (o9.stay zi) (by simp;omega) zo ?_
     intro v' w2 hg hb2 _
     have HG2:Hid (bK w2 wo.heap.size 152 4 o9 v' ((List.range (j+1)).map fun c=>dH ma[k] (C c))):=zh (by rw [iw];exact hg)
     clear hg HR d1 d2 HT hbx z1 z2 z3 z4 z5 z6 hba hbb hbc hbf
     go_wp2_with fail
     go_roundw
     case rel=>exact ⟨j+1,by go_num,by omega,HG2,hb2⟩
     case measure=>exact zM
    ·obtain rfl:j=mc.length:=by omega
     have HRV:Hid (kT wr _ _):=zh HR.out.Gy
     obtain ⟨rv,rc,rfl⟩:=HR.out.at (n:=mc.length) zi
     have HB3:=zh (Bt Qb.out hbi)
     replace HG:=zh (HG.out.later hbi (jU.stay zi zi))
     clear hbi HR
     go_wp2_with (at_builtin;refine bS (w0:=w5) rfl (.tmp 62) (.tmp 64) 146 rfl 154 i1 (.slice none 0 0) 1 24 Tryz.underlying146 hi' hy0 hy1 hy2 rfl zd jU _ ((ma.take k).map fun r=>(List.range mc.length).map fun c=>dH r (C c)) rfl (HG.out.later aA (jU.stay zi zi)) (Bt HB3.out aA) _ [.slice rv mc.length rc] ((List.range mc.length).map fun c=>dH ma[k] (C c)) rfl (au.new _ _ _) rfl ?c1 ⟨_,rfl,HRV.out.later aA⟩ (jU.stay zi zi) ?c2 zo ?_)
     case c1=>first|(intro u hu;simp only [List.mem_cons,List.not_mem_nil,or_false] at hu;rcases hu with rfl;rfl)|rfl
     case c2=>first|omega|(simp;omega)
     intro v' w2 hg hb2 _
     have HG2:Hid (bK w2 w5.heap.size 154 1 jU v' ((ma.take (k+1)).map fun r=>(List.range mc.length).map fun c=>dH r (C c))):=zh (by rw [List.take_succ_eq_append_getElem hlt,List.map_append,List.map_singleton];first|exact hg|(rw [List.map_take];exact hg))
     clear hg HG HRV
     go_wp2_with fail
     go_roundw
     case rel=>exact ⟨k+1,by go_num,by omega,HG2,hb2⟩
     case measure=>exact zM
  ·obtain rfl:k=ma.length:=by omega
   rw [List.take_length] at HG
   obtain ⟨ov,cv,rfl⟩:=HG.out.at (n:=ma.length) zi
   have OUV:=zh (OU.out _ _ HG.out.Gy)
   have HB2:=zh (Bt HB.out hb)
   go_wp2_with fail
   refine OUV.out.mono ?_
   rintro e w6 ⟨hb6,v,rfl,hy1,hy2⟩
   have HP:Hid (aQ w er _ (.returned (.tuple #[v,.int .i64 er])) w6):=zh ⟨Bt HB2.out hb6,v,rfl,hy1,hy2⟩
   clear hy1 hy2 hb6
   go_wp2_with fail
   go_ret2
   exact HP.out
def Bw (j:Nat) (r:List Rat):List Rat:=r.take j++r.drop (j+1)
def rU (m:RM) (i j k:Nat):RM:=(if k≤i then m.take k else m.take i++(m.take k).drop (i+1)).map (Bw j)
def bI (m:RM) (i j:Nat):RM:=(m.take i++m.drop (i+1)).map (Bw j)
theorem I8 {m:RM} {i j:Nat} (hi:i<m.length):rU m i j m.length=bI m i j:=by
 unfold rU bI
 rw [if_neg zo,List.take_length]
theorem Wu {m:RM} {i j:Nat} (hi:i<m.length):rU m i j (i+1)=rU m i j i:=by
 unfold rU
 rw [if_neg zo,if_pos (Nat.le_refl _)]
 rw [show (m.take (i+1)).drop (i+1)=[] by simp,List.append_nil]
theorem Pz {m:RM} {i j k:Nat} (hk:k<m.length) (hne:k≠i):rU m i j (k+1)=rU m i j k++[Bw j m[k]]:=by
 unfold rU
 rw [← List.map_singleton,← List.map_append]
 congr 1
 rcases Nat.lt_or_ge k i with h|h
 ·rw [if_pos zo,if_pos zo,List.take_succ_eq_append_getElem hk]
 ·rw [if_neg zo,if_neg zo,List.take_succ_eq_append_getElem hk,List.drop_append_of_le_length (by simp;omega),List.append_assoc]
theorem I7 {m:RM} {i j k:Nat} (hk:k≤m.length):(rU m i j k).length=if k≤i then k else k - 1:=by
 unfold rU
 rw [List.length_map]
 split
 ·simp;omega
 ·simp;omega
theorem I6 {j n:Nat} {r:List Rat} (h:r.length=n) (hj:j<n):(Bw j r).length=n - 1:=by
 unfold Bw
 simp
 omega
theorem kT.first {w:World} {a:Option Addr} {n c:Nat} {r:List Rat} (h:kT w (.slice a n c) r) (hl:r.length=n) (h0:0<n):∃ b off,a=some ⟨b,off,none⟩∧n≤c∧c≤9223372036854775807:=by
 obtain ⟨a',c',e,h1,h2,hat⟩:=kT.at h
 simp only [Value.slice.injEq] at e
 obtain ⟨rfl, -, rfl⟩:=e
 obtain ⟨b,off, -, -, -, -, -, -, -, -, e, -⟩:=hat 0 zo
 exact ⟨b,off,e,by omega,h2⟩
theorem Ab (v:Value) (m:RM) (n i j:Nat) (w:World) (h:mR w v m) (hr:∀ r∈m,r.length=n) (hi:i<m.length) (hj:j<n) (m4:m.length≤4) (n4:n≤4) :
  Calls Tryz.prog 102 #[v,.int .i64 (i:Int),.int .i64 (j:Int)] w (zU w (bI m i j)):=by
 obtain ⟨i0,hi0,hz0,hz1,hz2⟩:=info_parts A9
 obtain ⟨i1,hi1,hy0,hy1,hy2⟩:=info_parts zL
 rw [← I8 hi]
 obtain ⟨bx,ox,cx,rfl,lx,hat⟩:=mR.get h hr zo
 have HX:=zh hat
 have HR:=zh hr
 have CL:Hid (∀ k,k≤m.length→(rU m i j k).length≤4):=zh fun k hk=>by rw [I7 hk];split<;>omega
 have CA:=zh (Wu (j:=j) hi)
 have CS:=zh (fun k hk hne=>Pz (m:=m) (i:=i) (j:=j) (k:=k) hk hne)
 clear h hat hr
 go_enter Tryz.func102,Tryz.ntmps102
 go_wp2_with fail
 go_loopw [7,8] (fun ov iv wr=>∃ k:Nat,iv= .int .i64 (k:Int)∧k≤m.length∧Hid (bK wr w.heap.size 154 1 jU ov (rU m i j k))∧Below w.heap.size w wr) (fun _ iv _=>m.length - (intOf iv).toNat)
 case atStart=>exact ⟨0,rfl,by omega,zh (by unfold rU;exact bK.nil _ _ _ _ _),Below.refl _ _⟩
 case round =>
  obtain ⟨k,rfl,hk,HG,hb⟩:=hrel
  obtain ⟨nc,hnc⟩:∃ nc,(rU m i j k).length=nc:=⟨_,rfl⟩
  obtain ⟨ov,cv,rfl⟩:=HG.out.at hnc
  have aT5:nc≤4:=by have:=CL.out k hk;omega
  have HNC:=zh hnc
  clear hnc
  rcases Nat.lt_or_ge k m.length with hlt|hge
  ·by_cases he:k=i
   ·subst he
    have g1:((k:Int) == (k:Int))=true:=by simp
    go_wp2_with fail
    go_roundw
    case rel=>exact ⟨k+1,by go_num,by omega,zh (by rw [CA.out];exact HG.out),hb⟩
    case measure=>exact zM
   ·have g1:((k:Int) == (i:Int))=false:=by simp;omega
    have CSK:=zh (CS.out k hlt he)
    obtain ⟨a',c',x1,qK⟩:=HX.out k hlt
    obtain ⟨b2,off2,rfl,hc1,hc2⟩:=kT.first qK (HR.out _ (List.getElem_mem hlt)) zo
    have d1:=(hb.cell (p:=⟨bx,ox+k,none⟩) lx).trans x1
    have l1:bx<wr.heap.size:=Nat.lt_of_lt_of_le lx hb.size
    have HXR:=zh (qK.later hb)
    clear x1 qK
    have hrl:=HR.out _ (List.getElem_mem hlt)
    have HCL:=zh (I6 hrl hj)
    have OC:Hid (∀ (W:World) l cs,jH (fun a c=>o9 W a c∧c.length=4) l cs→∀ u∈cs.flatten,u.oneCell'=true):=zh fun W l cs h u hu=>by
     obtain ⟨c,hc,hu⟩:=List.mem_flatten.1 hu
     obtain ⟨x,hx⟩:=BM (S:=fun c=>∃ x,o9 W x c) h (fun a b hab=>⟨a,hab.1⟩) c hc
     obtain ⟨bn,pn,ln,cn,bd,pd,ld,cd,rfl, -⟩:=hx
     simp only [List.mem_cons,List.not_mem_nil,or_false] at hu
     rcases hu with rfl|rfl|rfl|rfl<;>rfl
    have S1:Hid (∃ cs:List (List Value),jH (fun a c=>o9 wr a c∧c.length=4) (m[k].take j) cs∧∀ t u,cs.flatten[t]? =some u→wr.cell? ((⟨b2,off2,none⟩:Addr).add t)=some u):=zh (by
     have:=uE.src HXR.out hrl zo 0 j zo
     rw [Nat.zero_mul,Nat.add_zero,List.drop_zero] at this
     exact this)
    have T1:Hid ((m[k].take j).length=j):=zh (by simp;omega)
    have T2:Hid ((m[k].drop (j+1)).length=n - (j+1)):=zh (by simp;omega)
    obtain ⟨cs1,k1,k2⟩:=S1.out
    have K1:=zh k1
    have K2:=zh k2
    have HB:=zh hb
    have CSE:Hid (Bw j m[k]=m[k].take j++m[k].drop (j+1)):=zh rfl
    clear k1 k2 S1 hrl hb
    have HJN:=zh hj
    rcases Nat.lt_or_ge (j+1) c' with hca|hca
    ·skip
     go_wp2_with (at_builtin;refine nu (w0:=wr) rfl (.tmp 19) (.tmp 25) 154 rfl 152 i0 (.agg #[.bool false,.slice none 0 0,.bool false,.slice none 0 0]) 4 64 Tryz.underlying154 hi0 hz0 hz1 hz2 rfl zd o9 _ [] rfl (bK.nil _ _ _ _ _) (Below.refl _ _) ⟨b2,off2,none⟩ j c' (m[k].take j) cs1 T1.out rfl K1.out K2.out (OC.out _ _ _ K1.out) (o9.stay zi) ?c2 zo ?_)
     case c2=>simp;omega
     intro v1 w2 hg1 hb2 hk2
     try rw [List.nil_append] at hg1
     obtain ⟨rv,rc,rfl⟩:=hg1.at T1.out
     have NW:=zh hg1
     have d2:=(hb2.cell (p:=⟨bx,ox+k,none⟩) l1).trans d1
     have l2:bx<w2.heap.size:=Nat.lt_of_lt_of_le l1 hb2.size
     have HB2:=zh hb2
     have S2:Hid (∃ cs:List (List Value),jH (fun a c=>o9 w2 a c∧c.length=4) (m[k].drop (j+1)) cs∧∀ t u,cs.flatten[t]? =some u→w2.cell? ((⟨b2,off2+(j+1)*4,none⟩:Addr).add t)=some u):=zh (by (have h:=uE.src (uE.later HXR.out HB2.out (o9.stay zi)) (HR.out _ (List.getElem_mem hlt)) zo (j+1) (n - (j+1)) (by have:=HJN.out;omega));rw [List.take_of_length_le (by have:=T2.out;omega)] at h;exact h)
     obtain ⟨cs2,k1,k2⟩:=S2.out
     have K3:=zh k1
     have K4:=zh k2
     clear hg1 hb2 hk2 k1 k2 S2 d1 l1
     go_wp2_with (at_builtin;refine nu (w0:=wr) rfl (.tmp 27) (.tmp 34) 154 rfl 152 i0 (.agg #[.bool false,.slice none 0 0,.bool false,.slice none 0 0]) 4 64 Tryz.underlying154 hi0 hz0 hz1 hz2 rfl zd o9 _ (m[k].take j) rfl NW.out HB2.out ⟨b2,off2+(j+1)*4,none⟩ (n - (j+1)) (c' - (j+1)) (m[k].drop (j+1)) cs2 T2.out rfl K3.out K4.out (OC.out _ _ _ K3.out) (o9.stay zi) ?c2 zo ?_)
     case c2=>have:=T1.out;omega
     intro v2 w3 hg2 hb3 hk3
     rw [← CSE.out] at hg2
     obtain ⟨rv2,rc2,rfl⟩:=hg2.at HCL.out
     have HV:Hid (kT w3 _ (Bw j m[k])):=zh hg2.Gy
     have HB3:=zh (Bt HB.out hb3)
     replace HG:=zh (HG.out.later hb3 (jU.stay zi zi))
     clear hg2 hb3 hk3 NW HB2 d2 l2
     go_wp2_with (at_builtin;refine bS (w0:=w) rfl (.tmp 36) (.tmp 38) 146 rfl 154 i1 (.slice none 0 0) 1 24 Tryz.underlying146 hi1 hy0 hy1 hy2 rfl zd jU _ (rU m i j k) rfl (HG.out.later aA (jU.stay zi zi)) (Bt HB3.out aA) _ [.slice rv2 (n - 1) rc2] (Bw j m[k]) rfl (au.new _ _ _) rfl ?c1 ⟨_,rfl,HV.out.later aA⟩ (jU.stay zi zi) ?c2 zo ?_)
     case c1=>first|(intro u hu;simp only [List.mem_cons,List.not_mem_nil,or_false] at hu;rcases hu with rfl;rfl)|rfl
     case c2=>rw [HNC.out];omega
     intro v' w4 hg hb4 _
     have HG2:Hid (bK w4 w.heap.size 154 1 jU v' (rU m i j (k+1))):=zh (by rw [CSK.out];exact hg)
     clear hg HG HV
     go_wp2_with fail
     go_roundw
     case rel=>exact ⟨k+1,by go_num,by omega,HG2,hb4⟩
     case measure=>exact zM
    ·(have hcj:c'=j+1:=by omega);subst hcj
     go_wp2_with (at_builtin;refine nu (w0:=wr) rfl (.tmp 19) (.tmp 25) 154 rfl 152 i0 (.agg #[.bool false,.slice none 0 0,.bool false,.slice none 0 0]) 4 64 Tryz.underlying154 hi0 hz0 hz1 hz2 rfl zd o9 _ [] rfl (bK.nil _ _ _ _ _) (Below.refl _ _) ⟨b2,off2,none⟩ j (j+1) (m[k].take j) cs1 T1.out rfl K1.out K2.out (OC.out _ _ _ K1.out) (o9.stay zi) ?c2 zo ?_)
     case c2=>simp;omega
     intro v1 w2 hg1 hb2 hk2
     try rw [List.nil_append] at hg1
     obtain ⟨rv,rc,rfl⟩:=hg1.at T1.out
     have NW:=zh hg1
     have d2:=(hb2.cell (p:=⟨bx,ox+k,none⟩) l1).trans d1
     have l2:bx<w2.heap.size:=Nat.lt_of_lt_of_le l1 hb2.size
     have HB2:=zh hb2
     have S2:Hid (∃ cs:List (List Value),jH (fun a c=>o9 w2 a c∧c.length=4) (m[k].drop (j+1)) cs∧∀ t u,cs.flatten[t]? =some u→w2.cell? ((⟨b2,off2,none⟩:Addr).add t)=some u):=zh (by refine ⟨[],?_,fun t u hu=>by cases hu⟩;rw [List.length_eq_zero_iff.1 (T2.out.trans zo:(m[k].drop (j+1)).length=0)];exact jH.nil)
     obtain ⟨cs2,k1,k2⟩:=S2.out
     have K3:=zh k1
     have K4:=zh k2
     clear hg1 hb2 hk2 k1 k2 S2 d1 l1
     go_wp2_with (at_builtin;refine nu (w0:=wr) rfl (.tmp 27) (.tmp 34) 154 rfl 152 i0 (.agg #[.bool false,.slice none 0 0,.bool false,.slice none 0 0]) 4 64 Tryz.underlying154 hi0 hz0 hz1 hz2 rfl zd o9 _ (m[k].take j) rfl NW.out HB2.out ⟨b2,off2,none⟩ 0 0 (m[k].drop (j+1)) cs2 (T2.out.trans zo) rfl K3.out K4.out (OC.out _ _ _ K3.out) (o9.stay zi) ?c2 zo ?_)
     case c2=>have:=T1.out;omega
     intro v2 w3 hg2 hb3 hk3
     rw [← CSE.out] at hg2
     obtain ⟨rv2,rc2,rfl⟩:=hg2.at HCL.out
     have HV:Hid (kT w3 _ (Bw j m[k])):=zh hg2.Gy
     have HB3:=zh (Bt HB.out hb3)
     replace HG:=zh (HG.out.later hb3 (jU.stay zi zi))
     clear hg2 hb3 hk3 NW HB2 d2 l2
     go_wp2_with (at_builtin;refine bS (w0:=w) rfl (.tmp 36) (.tmp 38) 146 rfl 154 i1 (.slice none 0 0) 1 24 Tryz.underlying146 hi1 hy0 hy1 hy2 rfl zd jU _ (rU m i j k) rfl (HG.out.later aA (jU.stay zi zi)) (Bt HB3.out aA) _ [.slice rv2 (n - 1) rc2] (Bw j m[k]) rfl (au.new _ _ _) rfl ?c1 ⟨_,rfl,HV.out.later aA⟩ (jU.stay zi zi) ?c2 zo ?_)
     case c1=>first|(intro u hu;simp only [List.mem_cons,List.not_mem_nil,or_false] at hu;rcases hu with rfl;rfl)|rfl
     case c2=>rw [HNC.out];omega
     intro v' w4 hg hb4 _
     have HG2:Hid (bK w4 w.heap.size 154 1 jU v' (rU m i j (k+1))):=zh (by rw [CSK.out];exact hg)
     clear hg HG HV
     go_wp2_with fail
     go_roundw
     case rel=>exact ⟨k+1,by go_num,by omega,HG2,hb4⟩
     case measure=>exact zM
  ·obtain rfl:k=m.length:=by omega
   go_wp2_with fail
   go_ret
   exact ⟨_,rfl,hb,HG.out.Gy⟩
def wH (f:RM→Rat) (m:RM) (j:Nat):Rat:=if j%2=1 then -((m.getD 0 []).getD j 0*f (bI m 0 j)) else (m.getD 0 []).getD j 0*f (bI m 0 j)
def bW:Nat→RM→Rat
 | 0,_=>1
 | n+1,m=>jP (wH (bW n) m) (n+1)
def MB:Nat→Nat
 | 0=>67
 | n+1=>(2*MB n+1)*2^(n+1)
theorem NI:∀ n,67≤MB n
 | 0=>Nat.le_refl _
 | n+1=>by
  have h1:=NI n
  have h2:1≤2^(n+1):=Nat.one_le_two_pow
  have:=Nat.mul_le_mul (show 67≤2*MB n+1 by omega) h2
  show 67≤(2*MB n+1)*2^(n+1)
  omega
theorem JC {n:Nat} (h:n≤4):MB n≤1200000:=by
 have hc:n=0∨n=1∨n=2∨n=3∨n=4:=by omega
 rcases hc with rfl|rfl|rfl|rfl|rfl<;>decide
theorem Ay {P:Nat} {f:Nat→Rat} (h0:1≤P):∀ k,(∀ i,i<k→dZ P (f i))→dZ ((P+1)*2^k - 1) (jP f k)
 | 0,_=>by
  show dZ _ 0
  refine dZ.mono (k:=1) ⟨by decide+kernel,by decide+kernel⟩ ?_
  rw [Nat.pow_zero];omega
 | k+1,h=>by
  have hp:1≤2^k:=Nat.one_le_two_pow
  have h2:=Nat.mul_le_mul_left (P+1) hp
  have:=uf (Ay h0 k fun i hi=>h i zo) ((h k zo).mono (show P≤(P+1)*2^k - 1 by omega))
  exact this.mono (by rw [Nat.pow_succ,← Nat.mul_assoc];omega)
theorem eU {m:RM} {n i j:Nat} (hr:∀ r∈m,r.length=n+1∧∀ q∈r,dZ 67 q) (hi:i<m.length) (hm:m.length=n+1) (hj:j<n+1):(bI m i j).length=n∧∀ r∈bI m i j,r.length=n∧∀ q∈r,dZ 67 q:=by
 refine ⟨?_,fun r h=>?_⟩
 ·rw [← I8 hi,I7 (Nat.le_refl _),if_neg zo];omega
 ·unfold bI at h
  obtain ⟨s,hs,rfl⟩:=List.mem_map.1 h
  have hs':s∈m:=by
   rcases List.mem_append.1 hs with h|h
   ·exact List.mem_of_mem_take h
   ·exact List.mem_of_mem_drop h
  refine ⟨by have:=I6 (hr s hs').1 hj;omega,fun q hq=>?_⟩
  unfold Bw at hq
  rcases List.mem_append.1 hq with h|h
  ·exact (hr s hs').2 q (List.mem_of_mem_take h)
  ·exact (hr s hs').2 q (List.mem_of_mem_drop h)
theorem Yh {l:List Rat} (h:∀ q∈l,dZ 67 q) (j:Nat):dZ 67 (l.getD j 0):=by
 rw [List.getD_eq_getElem?_getD]
 rcases Nat.lt_or_ge j l.length with hi|hi
 ·rw [List.getElem?_eq_getElem hi];exact h _ (List.getElem_mem hi)
 ·rw [List.getElem?_eq_none hi];exact ⟨by decide+kernel,by decide+kernel⟩
theorem MS {n:Nat} {m:RM} {f:RM→Rat} (hr:∀ r∈m,r.length=n+1∧∀ q∈r,dZ 67 q) (hm:m.length=n+1) (hf:∀ j,j<n+1→dZ (MB n) (f (bI m 0 j))) (j:Nat) (hj:j<n+1) :
  dZ (2*MB n) ((m.getD 0 []).getD j 0*f (bI m 0 j))∧dZ (2*MB n) (wH f m j):=by
 have h0:dZ 67 ((m.getD 0 []).getD j 0):=by
  refine Yh (fun q hq=>?_) j
  have e:m.getD 0 []=m[0]'zo:=by simp [hm]
  rw [e] at hq
  exact (hr _ (List.getElem_mem _)).2 q hq
 have h1:=qN (h0.mono (NI n)) (hf j hj)
 refine ⟨h1,?_⟩
 unfold wH
 split
 ·exact qM h1
 ·exact h1
theorem nT:∀ (n:Nat) (m:RM),m.length=n→(∀ r∈m,r.length=n∧∀ q∈r,dZ 67 q)→dZ (MB n) (bW n m)
 | 0,_,_,_=>by
  show dZ 67 1
  exact ⟨by decide+kernel,by decide+kernel⟩
 | n+1,m,hm,hr=>by
  have h:∀ j,j<n+1→dZ (2*MB n) (wH (bW n) m j):=fun j hj=>(MS hr hm (fun j hj=>nT n _ (eU hr zo hm hj).1 (eU hr zo hm hj).2) j hj).2
  have:=Ay (P:=2*MB n) (by have:=NI n;omega) (n+1) h
  exact this.mono (by show _≤(2*MB n+1)*2^(n+1);omega)
theorem af7 (W:World):Calls Tryz.prog 110 #[.int .i64 1,.int .i64 1] W (dD W 1):=by
 have:=xE 1 1 zo zo zo zo zo W
 rwa [show ((1:Int):Rat) / ((1:Int):Rat)=1 by decide+kernel] at this
theorem JA (v:Value) (w:World) (h:mR w v []):Calls Tryz.prog 100 #[v] w (dD w 1):=by
 obtain ⟨a,cap,rfl, -⟩:=mR.at h
 clear h
 go_enter Tryz.func100,Tryz.ntmps100
 go_wp2_with fail
 have hx:=au.new w #[.bool false,.slice none 0 0,.bool false,.slice none 0 0] 152
 have hb0:Below w.heap.size w (w.alloc (.cells #[.bool false,.slice none 0 0,.bool false,.slice none 0 0] 152)):=aA
 refine (af7 _).mono ?_
 rintro e w1 ⟨v,rfl,hb1,hra⟩
 obtain ⟨bn,pn,ln,cn,bd,pd,ld,cd,rfl, -, -⟩:=id hra
 have X:=hx.later hb1
 have xJ:=zh hra
 have cx:=X.cell
 have lx:=X.lt
 have fx:=X.free
 have HX:=zh X
 have HB:=zh (Bt hb0 hb1)
 have hw:w.heap.size≤w.heap.size:=Nat.le_refl _
 clear hx hb0 hb1 hra X
 go_wp2_with fail
 have Y4:=(((HX.out.set 0 (.bool bn)).set 1 (.slice pn ln cn)).set 2 (.bool bd)).set 3 (.slice pd ld cd)
 refine bO rfl rfl Y4 Tryz.underlying152 rfl zk ?_
 exact ⟨_,rfl,(((HB.out.setCell hw _).setCell hw _).setCell hw _).setCell hw _,Ra.kH xJ.out HX.out zd _ _ _ _⟩
theorem JB (n:Nat) (n4:n+1≤4) (ih:∀ (v:Value) (m:RM) (w:World),mR w v m→m.length=n→(∀ r∈m,r.length=n∧∀ q∈r,dZ 67 q)→Calls Tryz.prog 100 #[v] w (dD w (bW n m)))
  (v:Value) (m:RM) (w:World) (h:mR w v m) (hm:m.length=n+1) (hr:∀ r∈m,r.length=n+1∧∀ q∈r,dZ 67 q):Calls Tryz.prog 100 #[v] w (dD w (bW (n+1) m)):=by
 have hrl:∀ r∈m,r.length=n+1:=fun r h=>(hr r h).1
 have hmn:∀ j,j<n+1→dZ (MB n) (bW n (bI m 0 j)):=fun j hj=>nT n _ (eU hr zo hm hj).1 (eU hr zo hm hj).2
 have hlim:MB n≤1200000:=JC zo
 have WO:Hid (∀ j,j<n+1→∀ W,Below w.heap.size w W→Calls Tryz.prog 102 #[v,.int .i64 0,.int .i64 (j:Int)] W (zU W (bI m 0 j))):=zh fun j hj W hW=>by
  have:=Ab v m (n+1) 0 j W (h.later hW) hrl zo hj zo zo
  simpa using this
 have MI:Hid (∀ j,j<n+1→∀ x W,mR W x (bI m 0 j)→Calls Tryz.prog 100 #[x] W (dD W (bW n (bI m 0 j)))):=zh fun j hj x W hx=>ih x _ W hx (eU hr zo hm hj).1 (eU hr zo hm hj).2
 have TI:Hid (∀ j,j<n+1→∀ x y W,Ra W x ((m.getD 0 []).getD j 0)→Ra W y (bW n (bI m 0 j))→Calls Tryz.prog 156 #[x,y] W (dD W ((m.getD 0 []).getD j 0*bW n (bI m 0 j)))):=zh fun j hj x y W hx hy=>iR x y _ _ W hx hy (by
  refine (Yh (fun q hq=>?_) j).mono zo
  have e:m.getD 0 []=m[0]'zo:=by simp [hm]
  rw [e] at hq
  exact (hr _ (List.getElem_mem _)).2 q hq) ((hmn j hj).mono zo)
 have hT:∀ j,j<n+1→dZ (2*MB n) (wH (bW n) m j):=fun j hj=>(MS hr hm hmn j hj).2
 have PL:Hid (∀ k,k<n+1→∀ x y W,Ra W x (jP (wH (bW n) m) k)→Ra W y (wH (bW n) m k)→Calls Tryz.prog 157 #[x,y] W (dD W (jP (wH (bW n) m) (k+1)))):=zh fun k hk x y W hx hy=>rE x y _ _ W hx hy ((Ay (P:=2*MB n) (by have:=NI n;omega) k fun i hi=>hT i zo).mono (by
  have h1:2^k≤2^4:=Nat.pow_le_pow_right zo zo
  have h2:=Nat.mul_le_mul (show 2*MB n+1≤2400001 by omega) h1
  omega)) ((hT k hk).mono zo)
 have hodd:∀ j,j%2=1→wH (bW n) m j= -((m.getD 0 []).getD j 0*bW n (bI m 0 j)):=fun j hj=>by unfold wH;rw [if_pos hj]
 have XI:∀ j,j%2≠1→wH (bW n) m j=(m.getD 0 []).getD j 0*bW n (bI m 0 j):=fun j hj=>by unfold wH;rw [if_neg hj]
 have HO:=zh hodd
 have HE:=zh XI
 obtain ⟨bx,ox,cx,rfl,lx,hat⟩:=mR.get h hrl zo
 obtain ⟨a0,c0,x0,hx0⟩:=hat 0 zo
 rw [Nat.add_zero] at x0
 have e0:m.getD 0 []=m[0]'zo:=by simp [hm]
 rw [e0] at TI HO HE
 have hl0:=hrl _ (List.getElem_mem (show 0<m.length by omega))
 obtain ⟨ay,cy,ey, -, -, av3⟩:=kT.at hx0
 simp only [Value.slice.injEq] at ey
 obtain ⟨rfl, -, rfl⟩:=ey
 have H0:Hid (∀ k (_:k<n+1),∃ b off bn pn ln cn bd pd ld cd,a0=some ⟨b,off,none⟩∧b<w.heap.size∧w.cell? ⟨b,off+k*4,none⟩=some (.bool bn)∧w.cell? ⟨b,off+k*4+1,none⟩=some (.slice pn ln cn)∧w.cell? ⟨b,off+k*4+2,none⟩=some (.bool bd)∧w.cell? ⟨b,off+k*4+3,none⟩=some (.slice pd ld cd) ∧
   Ra w (.agg #[.bool bn,.slice pn ln cn,.bool bd,.slice pd ld cd]) ((m[0]'zo).getD k 0)):=zh fun k hk=>by
  have:=av3 k zo
  rw [show (m[0]'zo)[k]'zo=(m[0]'zo).getD k 0 by simp [hl0,hk]] at this
  exact this
 show Calls _ _ _ _ (dD w (jP (wH (bW n) m) (n+1)))
 clear av3 hx0 hat e0 hr hrl hmn hT hodd XI h ih hlim
 generalize wH (bW n) m=F at *
 obtain ⟨X0,EX0⟩:∃ X0:Nat→Rat,Hid ((fun j=>(m[0]'zo).getD j 0)=X0):=⟨_,zh rfl⟩
 have ex:∀ j,(m[0]'zo).getD j 0=X0 j:=fun j=>by rw [← EX0.out]
 obtain ⟨MN,EMN⟩:∃ MN:Nat→Rat,Hid ((fun j=>bW n (bI m 0 j))=MN):=⟨_,zh rfl⟩
 have em:∀ j,bW n (bI m 0 j)=MN j:=fun j=>by rw [← EMN.out]
 simp only [ex,em] at TI HO HE H0 MI
 clear ex em EX0 EMN hl0
 generalize m.length=l at *
 subst hm
 have h0n:0<n+1:=by omega
 go_enter Tryz.func100,Tryz.ntmps100
 go_wp2_with fail
 obtain ⟨w0,E0⟩:∃ y,w.alloc (.cells #[.bool false,.slice none 0 0,.bool false,.slice none 0 0] 152)=y:=⟨_,rfl⟩
 have hb0:Below w.heap.size w w0:=by rw [← E0];exact aA
 have X4:Hid (au w0 w.heap.size #[.bool false,.slice none 0 0,.bool false,.slice none 0 0] 152):=zh (by rw [← E0];exact au.new _ _ _)
 rw [E0]
 clear E0
 refine (TW _).mono ?_
 rintro e w1 ⟨v,rfl,hb1,hra⟩
 obtain ⟨bn,pn,ln,cn,bd,pd,ld,cd,rfl, -, -⟩:=id hra
 replace X4:=zh (X4.out.later hb1)
 have HB1:=zh (Bt hb0 hb1)
 obtain ⟨p4,E4⟩:∃ y,w.heap.size=y:=⟨_,rfl⟩
 have Wd:w.heap.size≤p4:=by omega
 rw [E4] at X4 ⊢
 clear E4
 have hne:=X4.out.lt
 go_wp2_with fail
 have h12:Below w1.heap.size w1 (w1.alloc (.cells #[.bool bn,.slice pn ln cn,.bool bd,.slice pd ld cd] 152)):=aA
 have hx5:=au.new w1 #[.bool bn,.slice pn ln cn,.bool bd,.slice pd ld cd] 152
 obtain ⟨w2,E2⟩:∃ y,w1.alloc (.cells #[.bool bn,.slice pn ln cn,.bool bd,.slice pd ld cd] 152)=y:=⟨_,rfl⟩
 rw [E2] at h12 hx5 ⊢
 replace X4:=zh (X4.out.later h12)
 have xJ:=zh (hra.later h12)
 have HB2:Hid (Below w.heap.size w w2):=zh (Bt HB1.out h12)
 have zy:=HB1.out.size
 obtain ⟨p5,E5⟩:∃ y,w1.heap.size=y:=⟨_,rfl⟩
 rw [E5] at hx5 hne zy ⊢
 have X5:=zh hx5
 clear E2 E5 hx5 h12 hb1 hra HB1 hb0
 go_loopw [4] (fun iv wr=>∃ (k:Nat) (bn:Bool) (pn:Option Addr) (ln cn:Nat) (bd:Bool) (pd:Option Addr) (ld cd:Nat),iv= .int .i64 (k:Int)∧k≤n+1∧Hid (au wr p5 #[.bool bn,.slice pn ln cn,.bool bd,.slice pd ld cd] 152)∧Hid (au wr p4 #[.bool false,.slice none 0 0,.bool false,.slice none 0 0] 152)∧Hid (Ra wr (.agg #[.bool bn,.slice pn ln cn,.bool bd,.slice pd ld cd]) (jP F k))∧Hid (Below w.heap.size w wr)) (fun iv _=>n+1 - (intOf iv).toNat)
 case atStart=>exact ⟨0,_,_,_,_,_,_,_,_,rfl,by omega,X5,X4,xJ,HB2⟩
 case round =>
  obtain ⟨k,bn,pn,ln,cn,bd,pd,ld,cd,rfl,hk,X5,X4,xJ,hb⟩:=hrel
  have c5:=X5.out.cell
  have l5:=X5.out.lt
  rcases Nat.lt_or_ge k (n+1) with hlt|hge
  ·obtain ⟨b,off,s1,s2,s3,s4,s5,s6,s7,s8,rfl,hbl,y0,y1,y2,y3,r1⟩:=H0.out k hlt
   replace y0:=(hb.out.cell (p:=⟨b,off+k*4,none⟩) hbl).trans y0
   replace y1:=(hb.out.cell (p:=⟨b,off+k*4+1,none⟩) hbl).trans y1
   replace y2:=(hb.out.cell (p:=⟨b,off+k*4+2,none⟩) hbl).trans y2
   replace y3:=(hb.out.cell (p:=⟨b,off+k*4+3,none⟩) hbl).trans y3
   have z0:=(hb.out.cell (p:=⟨bx,ox,none⟩) lx).trans x0
   have R1:=zh (r1.later hb.out)
   have b1:b<wr.heap.size:=Nat.lt_of_lt_of_le hbl hb.out.size
   have b2:bx<wr.heap.size:=Nat.lt_of_lt_of_le lx hb.out.size
   clear r1 hbl
   go_wp2_with fail
   refine aC [(.pure,0),(.pure,1),(.read,2),(.pure,3),(.pure,4),(.read,5),(.pure,6),(.pure,7),(.ext,8),(.ext,9),(.ext,10),(.alloc #[.bool false,.slice none 0 0,.bool false,.slice none 0 0] 152,11),(.fin,12)] zk zk zR zP ?_;refine Wk.out ?_;(iterate 8 (first|(apply iX;(rfl);(rfl);(rfl);(intro J hJ;go_simp;(with_reducible refine hJ _ ?_);clear hJ J))|(apply jX;(rfl);(rfl);(rfl);(rfl);(exact zk);(intro J hJ;go_simp;(with_reducible refine hJ _ ?_);clear hJ J))|(apply iG;(rfl);(rfl);(intro J hJ;go_simp;(with_reducible refine hJ _ ?_);clear hJ J))|(apply iY;(rfl);(rfl);(rfl);(rfl);(intro J hJ;go_simp;(with_reducible refine hJ _ ?_);clear hJ J;try go_simp))))
   refine jM rfl rfl (fun wa hba J hJ=>?_);go_simp
   have z1:Below wr.heap.size wr wa:=aA
   refine (WO.out k hlt _ (Bt hb.out z1)).mono ?_
   rintro e wb ⟨v,rfl,hbb,hmw⟩
   obtain ⟨qa,qc,rfl⟩:=uE.slice hmw
   have HM:=zh hmw
   have z2:=Bt z1 hbb
   refine hJ _ _ hbb ?_
   clear hJ J hmw hba hbb
   refine jM rfl rfl (fun wc hbc J hJ=>?_);go_simp
   have z3:Below wb.heap.size wb wc:=aA
   refine (MI.out k hlt _ _ (HM.out.later z3)).mono ?_
   rintro e wd ⟨v,rfl,hbd,hrt⟩
   obtain ⟨u1,u2,u3,u4,u5,u6,u7,u8,rfl, -, -⟩:=id hrt
   have HT:=zh hrt
   have z4:=Bt (Bt z2 z3) hbd
   refine hJ _ _ hbd ?_
   clear hJ J hrt hbc hbd z1 z2 z3 HM
   refine jM rfl rfl (fun we hbe J hJ=>?_);go_simp
   have z5:Below wd.heap.size wd we:=aA
   have z6:=Bt z4 z5
   refine (TI.out k hlt _ _ _ (R1.out.later z6) (HT.out.later z5)).mono ?_
   rintro e wf ⟨v,rfl,hbf,hrs⟩
   obtain ⟨v1,v2,v3,v4,v5,v6,v7,v8,rfl, -, -⟩:=id hrs
   have HS:=zh hrs
   have z7:=Bt z6 hbf
   refine hJ _ _ hbf ?_
   clear hJ J hrs hbe hbf z4 z5 z6 HT
   refine GU rfl (fun q wg hbg hq1 hq2 hq3 JI=>?_);go_simp
   replace JI:au wg q #[.bool false,.slice none 0 0,.bool false,.slice none 0 0] 152:=JI
   refine Aa [_] rfl (fun wh Qj=>?_)
   have z8:=Bt (Bt z7 hbg) Qj
   have Y9:=JI.later Qj
   have c9:=Y9.cell
   have l9:=Y9.lt
   have f9:=Y9.free
   have g5:=X5.out.later z8
   have g4:=X4.out.later z8
   have l4:=X4.out.lt
   have XE:p5≠q:=by omega
   have Gz:p4≠q:=by omega
   have Yk:=zh (Ra.kH ((HS.out.later hbg).later Qj) Y9 zd (.bool v1) (.slice v2 v3 v4) (.bool v5) (.slice v6 v7 v8))
   have HR9:=zh (Ra.kH (xJ.out.later z8) Y9 zd (.bool v1) (.slice v2 v3 v4) (.bool v5) (.slice v6 v7 v8))
   have hwq:w.heap.size≤q:=Nat.le_trans hb.out.size hq1
   have HB9:Hid (Below w.heap.size w wh):=zh (Bt hb.out z8)
   have HY9:=zh Y9
   have G5:=zh g5
   have G4:=zh g4
   clear hbg Qj JI z7 z8 c5 l5 y0 y1 y2 y3 z0 b1 b2 g5 g4 l4 Y9 HS xJ X5 X4 hb hq1 hq2 hq3
   go_upto_region 8 with fail
   have hQ:=(((HY9.out.set 0 (.bool v1)).set 1 (.slice v2 v3 v4)).set 2 (.bool v5)).set 3 (.slice v6 v7 v8)
   have h5:=(((G5.out.setOther (a:=⟨q,0,none⟩) (.bool v1) XE).setOther (a:=⟨q,1,none⟩) (.slice v2 v3 v4) XE).setOther (a:=⟨q,2,none⟩) (.bool v5) XE).setOther (a:=⟨q,3,none⟩) (.slice v6 v7 v8) XE
   have h4:=(((G4.out.setOther (a:=⟨q,0,none⟩) (.bool v1) Gz).setOther (a:=⟨q,1,none⟩) (.slice v2 v3 v4) Gz).setOther (a:=⟨q,2,none⟩) (.bool v5) Gz).setOther (a:=⟨q,3,none⟩) (.slice v6 v7 v8) Gz
   have hB:=(((HB9.out.setCell (p:=⟨q,0,none⟩) hwq (.bool v1)).setCell (p:=⟨q,1,none⟩) hwq (.slice v2 v3 v4)).setCell (p:=⟨q,2,none⟩) hwq (.bool v5)).setCell (p:=⟨q,3,none⟩) hwq (.slice v6 v7 v8)
   have hs:=Yk.out
   have hr:=HR9.out
   obtain ⟨W9,EW⟩:∃ y,((((wh.setCell ⟨q,0,none⟩ (.bool v1)).setCell ⟨q,1,none⟩ (.slice v2 v3 v4)).setCell ⟨q,2,none⟩ (.bool v5)).setCell ⟨q,3,none⟩ (.slice v6 v7 v8))=y:=⟨_,rfl⟩
   rw [EW] at hQ h5 h4 hB hs hr ⊢
   have Q9:Hid (au W9 q #[.bool v1,.slice v2 v3 v4,.bool v5,.slice v6 v7 v8] 152):=zh hQ
   replace G5:=zh h5
   replace G4:=zh h4
   have HBW:=zh hB
   replace Yk:=zh hs
   replace HR9:=zh hr
   clear hQ h5 h4 hB hs hr EW HY9 HB9 c9 l9 f9
   have t2:(k:Int).tmod 2=(k:Int)%2:=Int.tmod_eq_emod_of_nonneg zo
   have w2:IntKind.i64.wrap ((k:Int)%2)=(k:Int)%2:=by unfold IntKind.wrap;simp [IntKind.bits];omega
   have c9:=Q9.out.cell
   have l9:=Q9.out.lt
   have f9:=Q9.out.free
   by_cases hp:k%2=1
   ·have hpi:(k:Int)%2=1:=by omega
    have HF:=zh (HO.out k hp)
    clear hp
    go_wp2_with fail
    refine (aH.o8 _ _ _ Yk.out).mono ?_
    rintro e wi ⟨v,rfl,hbi,hrn⟩
    obtain ⟨n1,n2,n3,n4',n5,n6,n7,n8,rfl, -, -⟩:=id hrn
    rw [← HF.out] at hrn
    have Y9:=Q9.out.later hbi
    have d9:=Y9.cell
    have e9:=Y9.lt
    have g9:=Y9.free
    have hN:=zh (Ra.kH hrn Y9 zd (.bool n1) (.slice n2 n3 n4') (.bool n5) (.slice n6 n7 n8))
    have hR:=zh (Ra.kH (HR9.out.later hbi) Y9 zd (.bool n1) (.slice n2 n3 n4') (.bool n5) (.slice n6 n7 n8))
    have hB:=zh (((((HBW.out.trans (Below.mono hbi HBW.out.size)).setCell (p:=⟨q,0,none⟩) hwq (.bool n1)).setCell (p:=⟨q,1,none⟩) hwq (.slice n2 n3 n4')).setCell (p:=⟨q,2,none⟩) hwq (.bool n5)).setCell (p:=⟨q,3,none⟩) hwq (.slice n6 n7 n8))
    have hQ:=zh ((((Y9.set 0 (.bool n1)).set 1 (.slice n2 n3 n4')).set 2 (.bool n5)).set 3 (.slice n6 n7 n8))
    have h5:=zh (((((G5.out.later hbi).setOther (a:=⟨q,0,none⟩) (.bool n1) XE).setOther (a:=⟨q,1,none⟩) (.slice n2 n3 n4') XE).setOther (a:=⟨q,2,none⟩) (.bool n5) XE).setOther (a:=⟨q,3,none⟩) (.slice n6 n7 n8) XE)
    have h4:=zh (((((G4.out.later hbi).setOther (a:=⟨q,0,none⟩) (.bool n1) Gz).setOther (a:=⟨q,1,none⟩) (.slice n2 n3 n4') Gz).setOther (a:=⟨q,2,none⟩) (.bool n5) Gz).setOther (a:=⟨q,3,none⟩) (.slice n6 n7 n8) Gz)
    clear hrn hbi c9 l9 f9 Y9
    go_upto_region 10 with fail
    clear d9 e9 g9
    obtain ⟨Wx,EW⟩:∃ y,((((wi.setCell ⟨q,0,none⟩ (.bool n1)).setCell ⟨q,1,none⟩ (.slice n2 n3 n4')).setCell ⟨q,2,none⟩ (.bool n5)).setCell ⟨q,3,none⟩ (.slice n6 n7 n8))=y:=⟨_,rfl⟩
    rw [EW] at hN hR hB hQ h5 h4 ⊢
    have Q9x:Hid (au Wx q #[.bool n1,.slice n2 n3 n4',.bool n5,.slice n6 n7 n8] 152):=hQ
    have Xj:Hid (au Wx p5 #[.bool bn,.slice pn ln cn,.bool bd,.slice pd ld cd] 152):=h5
    have G4x:=h4
    have HBx:=hB
    have HRx:=hR
    have HFx:=hN
    have c9:=Q9x.out.cell
    have l9:=Q9x.out.lt
    clear hN hR hB hQ h5 h4 EW
    have c5:=Xj.out.cell
    have l5:=Xj.out.lt
    have f5:=Xj.out.free
    go_wp2_with fail
    refine (PL.out k hlt _ _ _ HRx.out HFx.out).mono ?_
    rintro e wy ⟨v,rfl,hby,Zz⟩
    obtain ⟨m1,m2,m3,m4,m5,m6,m7,m8,rfl, -, -⟩:=id Zz
    have Y5:=Xj.out.later hby
    have d5:=Y5.cell
    have e5:=Y5.lt
    have g5:=Y5.free
    have hN:=Ra.kH Zz Y5 zd (.bool m1) (.slice m2 m3 m4) (.bool m5) (.slice m6 m7 m8)
    have hbz:=(((((HBx.out.trans (Below.mono hby HBx.out.size)).setCell (p:=⟨p5,0,none⟩) zy (.bool m1)).setCell (p:=⟨p5,1,none⟩) zy (.slice m2 m3 m4)).setCell (p:=⟨p5,2,none⟩) zy (.bool m5)).setCell (p:=⟨p5,3,none⟩) zy (.slice m6 m7 m8))
    have NN:=zh hN
    have BZ:=zh hbz
    have Z5:=zh ((((Y5.set 0 (.bool m1)).set 1 (.slice m2 m3 m4)).set 2 (.bool m5)).set 3 (.slice m6 m7 m8))
    have hn45:p4≠p5:=by omega
    have Z4:=zh (((((G4x.out.later hby).setOther (a:=⟨p5,0,none⟩) (.bool m1) hn45).setOther (a:=⟨p5,1,none⟩) (.slice m2 m3 m4) hn45).setOther (a:=⟨p5,2,none⟩) (.bool m5) hn45).setOther (a:=⟨p5,3,none⟩) (.slice m6 m7 m8) hn45)
    clear Zz hN hbz hby c5 l5 f5 Y5
    go_wp2_with fail
    go_roundw
    case rel=>exact ⟨k+1,m1,m2,m3,m4,m5,m6,m7,m8,by go_num,by omega,Z5,Z4,NN,BZ⟩
    case measure=>exact zM
   ·have hpi:(k:Int)%2=0:=by omega
    have HF:=zh (HE.out k hp)
    clear hp
    have Xj:=G5
    have G4x:=G4
    have HBx:=HBW
    have HRx:=HR9
    have HFx:Hid (Ra W9 (.agg #[.bool v1,.slice v2 v3 v4,.bool v5,.slice v6 v7 v8]) (F k)):=zh (by rw [HF.out];exact Yk.out)
    have c5:=Xj.out.cell
    have l5:=Xj.out.lt
    have f5:=Xj.out.free
    go_wp2_with fail
    refine (PL.out k hlt _ _ _ HRx.out HFx.out).mono ?_
    rintro e wy ⟨v,rfl,hby,Zz⟩
    obtain ⟨m1,m2,m3,m4,m5,m6,m7,m8,rfl, -, -⟩:=id Zz
    have Y5:=Xj.out.later hby
    have d5:=Y5.cell
    have e5:=Y5.lt
    have g5:=Y5.free
    have hN:=Ra.kH Zz Y5 zd (.bool m1) (.slice m2 m3 m4) (.bool m5) (.slice m6 m7 m8)
    have hbz:=(((((HBx.out.trans (Below.mono hby HBx.out.size)).setCell (p:=⟨p5,0,none⟩) zy (.bool m1)).setCell (p:=⟨p5,1,none⟩) zy (.slice m2 m3 m4)).setCell (p:=⟨p5,2,none⟩) zy (.bool m5)).setCell (p:=⟨p5,3,none⟩) zy (.slice m6 m7 m8))
    have NN:=zh hN
    have BZ:=zh hbz
    have Z5:=zh ((((Y5.set 0 (.bool m1)).set 1 (.slice m2 m3 m4)).set 2 (.bool m5)).set 3 (.slice m6 m7 m8))
    have hn45:p4≠p5:=by omega
    have Z4:=zh (((((G4x.out.later hby).setOther (a:=⟨p5,0,none⟩) (.bool m1) hn45).setOther (a:=⟨p5,1,none⟩) (.slice m2 m3 m4) hn45).setOther (a:=⟨p5,2,none⟩) (.bool m5) hn45).setOther (a:=⟨p5,3,none⟩) (.slice m6 m7 m8) hn45)
    clear Zz hN hbz hby c5 l5 f5 Y5
    go_wp2_with fail
    go_roundw
    case rel=>exact ⟨k+1,m1,m2,m3,m4,m5,m6,m7,m8,by go_num,by omega,Z5,Z4,NN,BZ⟩
    case measure=>exact zM
  ·obtain rfl:k=n+1:=by omega
   have c4:=X4.out.cell
   have l4:=X4.out.lt
   have f4:=X4.out.free
   go_wp2_with fail
   have Y4:=(((X4.out.set 0 (.bool bn)).set 1 (.slice pn ln cn)).set 2 (.bool bd)).set 3 (.slice pd ld cd)
   refine bO rfl rfl Y4 Tryz.underlying152 rfl zk ?_
   exact ⟨_,rfl,(((hb.out.setCell Wd _).setCell Wd _).setCell Wd _).setCell Wd _,Ra.kH xJ.out X4.out zd _ _ _ _⟩
theorem yG:∀ (n:Nat),n≤4→∀ (v:Value) (m:RM) (w:World),mR w v m→m.length=n→(∀ r∈m,r.length=n∧∀ q∈r,dZ 67 q)→Calls Tryz.prog 100 #[v] w (dD w (bW n m))
 | 0,_,v,m,w,h,hm,_=>by
  have:m=[]:=List.length_eq_zero_iff.1 hm
  subst this
  exact JA v w h
 | n+1,h4,v,m,w,h,hm,hr=>JB n h4 (yG n zo) v m w h hm hr
def Gc (m:RM) (n i j:Nat):Rat:=if (i+j)%2=1 then -(bW (n - 1) (bI m j i) / bW n m) else bW (n - 1) (bI m j i) / bW n m
def LB (m:RM) (n:Nat):RM:=(List.range n).map fun i=>(List.range n).map (Gc m n i)
theorem WH {m:RM} {n i j:Nat} (hm:m.length=n) (hr:∀ r∈m,r.length=n∧∀ q∈r,dZ 67 q) (hi:i<n) (hj:j<n) (n4:n≤4) (hd:bW n m≠0):Ql (Gc m n i j):=by
 obtain ⟨n,rfl⟩:∃ k,n=k+1:=⟨n - 1,by omega⟩
 have h1:=nT n _ (eU hr (by omega:j<m.length) hm hi).1 (eU hr (by omega:j<m.length) hm hi).2
 have h2:=nT (n+1) m hm hr
 have l1:=JC (n:=n) zo
 have l2:=JC (n:=n+1) zo
 have h3:dZ 100000000 (bW n (bI m j i) / bW (n+1) m):=by
  rw [Rat.div_def]
  exact (qN (h1.mono (show MB n≤1200000 by omega)) ((EN h2 hd).mono zo)).mono zo
 unfold Gc Ql
 rw [Nat.add_sub_cancel]
 split
 ·exact qM h3
 ·exact h3
theorem LQ (v:Value) (m:RM) (n:Nat) (w:World) (h:bQ w v m.fr) (hok:m.ok n) (hm:m.length=n) (hd:bW n m≠0) :
  Calls Tryz.prog 41 #[v] w (aQ w (if iF (LB m n) then 0 else 6) (LB m n).fr):=by
 obtain ⟨i0,hi0,hz0,hz1,hz2⟩:=info_parts A9
 obtain ⟨i1,hi1,hy0,hy1,hy2⟩:=info_parts zL
 obtain ⟨m1,m4,n1,n4,hrows⟩:=id hok
 have hr:∀ r∈m,r.length=n∧∀ q∈r,dZ 67 q:=fun r hr=>⟨(hrows r hr).1,szM hok r hr⟩
 have hrl:∀ r∈m,r.length=n:=fun r h=>(hr r h).1
 have RI:=zh (uF v m _ w h hok)
 have IN:=zh (fun W (hW:Below w.heap.size w W)=>tV v m W (h.later hW) (fun r hr=>(hrows r hr).2) ⟨by omega,fun r hr=>by rw [(hrows r hr).1];omega⟩)
 have MD:=zh (fun x W (hx:mR W x m)=>yG n n4 x m W hx hm hr)
 have WO:Hid (∀ i,i<n→∀ j,j<n→∀ x W,mR W x m→Calls Tryz.prog 102 #[x,.int .i64 (j:Int),.int .i64 (i:Int)] W (zU W (bI m j i))):=zh fun i hi j hj x W hx=>Ab x m n j i W hx hrl zo hi zo n4
 have hn':n - 1+1=n:=by omega
 have hwr:∀ i,i<n→∀ j,j<n→(bI m j i).length=n - 1∧∀ r∈bI m j i,r.length=n - 1∧∀ q∈r,dZ 67 q:=fun i hi j hj=>eU (n:=n - 1) (fun r h=>by rw [hn'];exact hr r h) zo zo zo
 have MI:Hid (∀ i,i<n→∀ j,j<n→∀ x W,mR W x (bI m j i)→Calls Tryz.prog 100 #[x] W (dD W (bW (n - 1) (bI m j i)))):=zh fun i hi j hj x W hx=>yG (n - 1) zo x _ W hx (hwr i hi j hj).1 (hwr i hi j hj).2
 have l1:=JC (n:=n - 1) zo
 have l2:=JC (n:=n) n4
 have OV:Hid (∀ i,i<n→∀ j,j<n→∀ x y W,Ra W x (bW (n - 1) (bI m j i))→Ra W y (bW n m)→Calls Tryz.prog 101 #[x,y] W (dD W (bW (n - 1) (bI m j i) / bW n m))):=zh fun i hi j hj x y W hx hy=>Ny x y _ _ W hx hy ((nT _ _ (hwr i hi j hj).1 (hwr i hi j hj).2).mono zo) ((nT n m hm hr).mono zo) hd
 have HO:Hid (∀ i j,(i+j)%2=1→Gc m n i j= -(bW (n - 1) (bI m j i) / bW n m)):=zh fun i j h=>by unfold Gc;rw [if_pos h]
 have HE:Hid (∀ i j,(i+j)%2≠1→Gc m n i j=bW (n - 1) (bI m j i) / bW n m):=zh fun i j h=>by unfold Gc;rw [if_neg h]
 have OU:=zh (fun v W h=>Nz v (LB m n) W h (fun r hr' q hq=>by
  obtain ⟨i,hi,rfl⟩:=List.mem_map.1 hr'
  obtain ⟨j,hj,rfl⟩:=List.mem_map.1 hq
  exact WH hm hr (List.mem_range.1 hi) (List.mem_range.1 hj) n4 hd) ⟨by unfold LB;simp;omega,fun r hr'=>by
  obtain ⟨i,hi,rfl⟩:=List.mem_map.1 hr'
  simp;omega⟩)
 generalize (if iF (LB m n) then (0:Int) else 6)=er at *
 rw [show LB m n=(List.range n).map fun i=>(List.range n).map (Gc m n i) from rfl] at OU ⊢
 obtain ⟨a,cap,rfl, -, -, hread⟩:=bQ.read h
 have hfl:m.fr.length=n:=by rw [RM.fr,List.length_map,hm]
 obtain ⟨b,off,a0,c0,rfl,lb,cell0, -⟩:=hread 0 zo
 have e0:(m.fr[0]'zo).length=n:=by
  simp only [RM.fr,List.getElem_map,List.length_map]
  exact (hr _ (List.getElem_mem _)).1
 rw [e0] at cell0
 rw [hfl] at RI IN ⊢
 have hdn:0<(bW n m).num.natAbs:=by
  refine Nat.pos_of_ne_zero fun e=>hd (Rat.num_eq_zero.1 zo)
 have HMN:=zh hm
 clear hread h hok e0 hfl hrows hr hrl hwr l1 l2 hd hm
 obtain ⟨D,ED⟩:∃ D,bW n m=D:=⟨_,rfl⟩
 obtain ⟨F,EF⟩:∃ F,Gc m n=F:=⟨_,rfl⟩
 obtain ⟨X,EX⟩:∃ X:Nat→Nat→Rat,Hid ((fun i j=>bW (n - 1) (bI m j i))=X):=⟨_,zh rfl⟩
 have ex:∀ i j,bW (n - 1) (bI m j i)=X i j:=fun i j=>by rw [← EX.out]
 simp only [ED,EF,ex] at MD MI OV HO HE OU hdn ⊢
 clear ED EF EX ex
 have h0n:0<n:=by omega
 go_enter Tryz.func41,Tryz.ntmps41
 go_wp2_with fail
 refine RI.out.mono ?_
 rintro e w1 ⟨rfl,hb1⟩
 have ck:=(hb1.cell (p:=⟨b,off,none⟩) lb).trans cell0
 have l2:b<w1.heap.size:=Nat.lt_of_lt_of_le lb hb1.size
 have g1:((n:Int) != (n:Int))=false:=by simp
 go_wp2_with fail
 refine (IN.out _ hb1).mono ?_
 rintro e w2 ⟨v,rfl,hb2,hmv⟩
 obtain ⟨ax,cx,e⟩:=uE.slice hmv
 rw [HMN.out] at e
 subst e
 have h2:=Bt hb1 hb2
 clear ck l2 cell0 lb
 go_wp2_with fail
 refine (MD.out _ _ hmv).mono ?_
 rintro e w3 ⟨v,rfl,hb3,hra⟩
 obtain ⟨bn,pn,ln,cn,bd,pd,ld,cd,rfl,Iw, -⟩:=id hra
 have hl:=Iw.nm.1.Vx hdn
 have HM:=zh (hmv.later hb3)
 have HB3:=zh (Bt h2 hb3)
 have hl0:((ln:Int) == 0)=false:=by simp;omega
 have xJ:=zh hra
 clear Iw hra hb1 hb2 hb3 h2 hmv RI IN MD hdn hl
 go_wp2_with fail
 have Wi:Below w3.heap.size w3 (w3.alloc (.cells #[.bool bn,.slice pn ln cn,.bool bd,.slice pd ld cd] 152)):=aA
 have hx5:=au.new w3 #[.bool bn,.slice pn ln cn,.bool bd,.slice pd ld cd] 152
 obtain ⟨w4,E4⟩:∃ y,w3.alloc (.cells #[.bool bn,.slice pn ln cn,.bool bd,.slice pd ld cd] 152)=y:=⟨_,rfl⟩
 rw [E4] at Wi hx5 ⊢
 obtain ⟨p5,E5⟩:∃ y,w3.heap.size=y:=⟨_,rfl⟩
 rw [E5] at hx5 ⊢
 have X5:=zh hx5
 replace HM:=zh (HM.out.later Wi)
 replace xJ:=zh (xJ.out.later Wi)
 have Yr:=zh (Bt HB3.out Wi)
 clear E4 E5 hx5 Wi HB3
 go_loopw [6,7] (fun ov iv wr=>∃ k:Nat,iv= .int .i64 (k:Int)∧k≤n∧Hid (bK wr w4.heap.size 154 1 jU ov ((List.range k).map fun i=>(List.range n).map (F i)))∧Below w4.heap.size w4 wr) (fun _ iv _=>n - (intOf iv).toNat)
 case atStart=>exact ⟨0,rfl,by omega,zh (bK.nil _ _ _ _ _),Below.refl _ _⟩
 case round =>
  obtain ⟨k,rfl,hk,HG,hb⟩:=hrel
  rcases Nat.lt_or_ge k n with hlt|hge
  ·obtain ⟨wo,rfl⟩:∃ wo:World,wo=wr:=⟨_,rfl⟩
   obtain ⟨ov,cv,rfl⟩:=HG.out.at (n:=k) zi
   have Qb:=zh hb
   clear hb
   go_wp2_with fail
   go_loopw [8,9] (fun rv jv wr=>∃ j:Nat,jv= .int .i64 (j:Int)∧j≤n∧Hid (bK wr wo.heap.size 152 4 o9 rv ((List.range j).map (F k)))∧Below wo.heap.size wo wr) (fun _ jv _=>n - (intOf jv).toNat)
   case atStart=>exact ⟨0,rfl,by omega,zh (bK.nil _ _ _ _ _),Below.refl _ _⟩
   case round =>
    obtain ⟨j,rfl,hj,HR,hbi⟩:=hrel
    rcases Nat.lt_or_ge j n with hjlt|VX
    ·obtain ⟨rv,rc,rfl⟩:=HR.out.at (n:=j) zi
     have hbw:=Bt Qb.out hbi
     have x5:=X5.out.later hbw
     have c5:=x5.cell
     have l5:=x5.lt
     have HM':=zh (HM.out.later hbw)
     have HD':=zh (xJ.out.later hbw)
     have JD:=zh hbi
     clear hbi hbw x5
     go_wp2_with fail
     refine aC [(.pure,0),(.pure,1),(.pure,2),(.read,5),(.ext,3),(.ext,4),(.ext,6),(.alloc #[.bool false,.slice none 0 0,.bool false,.slice none 0 0] 152,7),(.fin,8)] zk zk zR zP ?_;refine Wk.out ?_;(iterate 4 (first|(apply iX;(rfl);(rfl);(rfl);(intro J hJ;go_simp;(with_reducible refine hJ _ ?_);clear hJ J))|(apply jX;(rfl);(rfl);(rfl);(rfl);(exact zk);(intro J hJ;go_simp;(with_reducible refine hJ _ ?_);clear hJ J))|(apply iG;(rfl);(rfl);(intro J hJ;go_simp;(with_reducible refine hJ _ ?_);clear hJ J))|(apply iY;(rfl);(rfl);(rfl);(rfl);(intro J hJ;go_simp;(with_reducible refine hJ _ ?_);clear hJ J;try go_simp))))
     refine jM rfl rfl (fun wa hba J hJ=>?_);go_simp
     have z1:Below wr.heap.size wr wa:=aA
     refine (WO.out k hlt j hjlt _ _ (HM'.out.later z1)).mono ?_
     rintro e wb ⟨v,rfl,hbb,hmw⟩
     obtain ⟨qa,qc,rfl⟩:=uE.slice hmw
     have HW:=zh hmw
     have z2:=Bt z1 hbb
     refine hJ _ _ hbb ?_
     clear hJ J hmw hba hbb
     refine jM rfl rfl (fun wc hbc J hJ=>?_);go_simp
     have z3:Below wb.heap.size wb wc:=aA
     refine (MI.out k hlt j hjlt _ _ (HW.out.later z3)).mono ?_
     rintro e wd ⟨v,rfl,hbd,hrt⟩
     obtain ⟨u1,u2,u3,u4,u5,u6,u7,u8,rfl, -, -⟩:=id hrt
     have HT:=zh hrt
     have z4:=Bt (Bt z2 z3) hbd
     refine hJ _ _ hbd ?_
     clear hJ J hrt hbc hbd z1 z2 z3 HW
     refine jM rfl rfl (fun we hbe J hJ=>?_);go_simp
     have z5:Below wd.heap.size wd we:=aA
     have z6:=Bt z4 z5
     refine (OV.out k hlt j hjlt _ _ _ (HT.out.later z5) (HD'.out.later z6)).mono ?_
     rintro e wf ⟨v,rfl,hbf,hrs⟩
     obtain ⟨v1,v2,v3,v4,v5,v6,v7,v8,rfl, -, -⟩:=id hrs
     have HS:=zh hrs
     have z7:=Bt z6 hbf
     refine hJ _ _ hbf ?_
     clear hJ J hrs hbe hbf z4 z5 z6 HT HM' HD'
     refine GU rfl (fun q wg hbg hq1 hq2 hq3 JI=>?_);go_simp
     replace JI:au wg q #[.bool false,.slice none 0 0,.bool false,.slice none 0 0] 152:=JI
     refine Aa [_] rfl (fun wh Qj=>?_)
     have z8:=Bt (Bt z7 hbg) Qj
     have Y9:=JI.later Qj
     have c9:=Y9.cell
     have l9:=Y9.lt
     have f9:=Y9.free
     have hs:=Ra.kH ((HS.out.later hbg).later Qj) Y9 zd (.bool v1) (.slice v2 v3 v4) (.bool v5) (.slice v6 v7 v8)
     have hQ:=(((Y9.set 0 (.bool v1)).set 1 (.slice v2 v3 v4)).set 2 (.bool v5)).set 3 (.slice v6 v7 v8)
     have hZ:=(((z8.setCell (p:=⟨q,0,none⟩) hq1 (.bool v1)).setCell (p:=⟨q,1,none⟩) hq1 (.slice v2 v3 v4)).setCell (p:=⟨q,2,none⟩) hq1 (.bool v5)).setCell (p:=⟨q,3,none⟩) hq1 (.slice v6 v7 v8)
     have Yk:=zh hs
     have HQ9:=zh hQ
     have HZ9:=zh hZ
     clear hbg Qj JI z7 z8 c5 l5 Y9 HS hs hQ hZ hq2 hq3
     go_upto_region 18 with fail
     clear c9 l9 f9
     obtain ⟨W9,EW⟩:∃ y,((((wh.setCell ⟨q,0,none⟩ (.bool v1)).setCell ⟨q,1,none⟩ (.slice v2 v3 v4)).setCell ⟨q,2,none⟩ (.bool v5)).setCell ⟨q,3,none⟩ (.slice v6 v7 v8))=y:=⟨_,rfl⟩
     rw [EW] at Yk HQ9 HZ9 ⊢
     have Q9:Hid (au W9 q #[.bool v1,.slice v2 v3 v4,.bool v5,.slice v6 v7 v8] 152):=HQ9
     have ZW:=HZ9
     clear EW HQ9 HZ9
     have t2:((k:Int)+(j:Int)).tmod 2=((k:Int)+(j:Int))%2:=Int.tmod_eq_emod_of_nonneg zo
     have w2:IntKind.i64.wrap (((k:Int)+(j:Int))%2)=((k:Int)+(j:Int))%2:=by unfold IntKind.wrap;simp [IntKind.bits];omega
     have w3:IntKind.i64.wrap ((k:Int)+(j:Int))=(k:Int)+(j:Int):=by unfold IntKind.wrap;simp [IntKind.bits];omega
     have c9:=Q9.out.cell
     have l9:=Q9.out.lt
     have f9:=Q9.out.free
     by_cases hp:(k+j)%2=1
     ·have hpi:((k:Int)+(j:Int))%2=1:=by omega
      have HF:=zh (HO.out k j hp)
      clear hp
      go_wp2_with fail
      refine (aH.o8 _ _ _ Yk.out).mono ?_
      rintro e wi ⟨v,rfl,hbi,hrn⟩
      obtain ⟨n1',n2,n3,n4',n5,n6,n7,n8,rfl, -, -⟩:=id hrn
      rw [← HF.out] at hrn
      have Y9:=Q9.out.later hbi
      have d9:=Y9.cell
      have e9:=Y9.lt
      have g9:=Y9.free
      have hN:=zh (Ra.kH hrn Y9 zd (.bool n1') (.slice n2 n3 n4') (.bool n5) (.slice n6 n7 n8))
      have hQ:=zh ((((Y9.set 0 (.bool n1')).set 1 (.slice n2 n3 n4')).set 2 (.bool n5)).set 3 (.slice n6 n7 n8))
      have hZ:=zh (((((Bt ZW.out hbi).setCell (p:=⟨q,0,none⟩) hq1 (.bool n1')).setCell (p:=⟨q,1,none⟩) hq1 (.slice n2 n3 n4')).setCell (p:=⟨q,2,none⟩) hq1 (.bool n5)).setCell (p:=⟨q,3,none⟩) hq1 (.slice n6 n7 n8))
      clear hrn hbi c9 l9 f9 Y9
      go_upto_region 20 with fail
      clear d9 e9 g9
      obtain ⟨Wx,EW⟩:∃ y,((((wi.setCell ⟨q,0,none⟩ (.bool n1')).setCell ⟨q,1,none⟩ (.slice n2 n3 n4')).setCell ⟨q,2,none⟩ (.bool n5)).setCell ⟨q,3,none⟩ (.slice n6 n7 n8))=y:=⟨_,rfl⟩
      rw [EW] at hN hQ hZ ⊢
      have Q9x:Hid (au Wx q #[.bool n1',.slice n2 n3 n4',.bool n5,.slice n6 n7 n8] 152):=hQ
      have ZX:=hZ
      have HFx:=hN
      have c9:=Q9x.out.cell
      have l9:=Q9x.out.lt
      clear hN hQ hZ EW
      go_wp2_with (at_builtin;refine bS (w0:=wo) rfl (.tmp 56) (.tmp 58) 154 rfl 152 i0 (.agg #[.bool false,.slice none 0 0,.bool false,.slice none 0 0]) 4 64 Tryz.underlying154 hi0 hz0 hz1 hz2 rfl zd o9 _ ((List.range j).map (F k)) rfl (HR.out.later (Bt ZX.out aA) (o9.stay zi)) (Bt JD.out (Bt ZX.out aA)) _ [.bool n1',.slice n2 n3 n4',.bool n5,.slice n6 n7 n8] (F k j) rfl (au.new _ _ _) rfl ?c1 ⟨_,_,_,_,_,_,_,_,rfl,HFx.out.later aA⟩ (o9.stay zi) ?c2 zo ?_)
      case c1=>first|(intro u hu;simp only [List.mem_cons,List.not_mem_nil,or_false] at hu;rcases hu with rfl|rfl|rfl|rfl<;>rfl)|exact ⟨rfl,rfl,rfl,rfl⟩
      case c2=>simp;omega
      intro v' w9 hg gX _
      have HG2:Hid (bK w9 wo.heap.size 152 4 o9 v' ((List.range (j+1)).map (F k))):=zh (by rw [iw];exact hg)
      clear hg HR
      go_wp2_with fail
      go_roundw
      case rel=>exact ⟨j+1,by go_num,by omega,HG2,gX⟩
      case measure=>exact zM
     ·have hpi:((k:Int)+(j:Int))%2=0:=by omega
      have HF:=zh (HE.out k j hp)
      clear hp
      have ZX:=ZW
      have HFx:Hid (Ra W9 (.agg #[.bool v1,.slice v2 v3 v4,.bool v5,.slice v6 v7 v8]) (F k j)):=zh (by rw [HF.out];exact Yk.out)
      go_wp2_with (at_builtin;refine bS (w0:=wo) rfl (.tmp 56) (.tmp 58) 154 rfl 152 i0 (.agg #[.bool false,.slice none 0 0,.bool false,.slice none 0 0]) 4 64 Tryz.underlying154 hi0 hz0 hz1 hz2 rfl zd o9 _ ((List.range j).map (F k)) rfl (HR.out.later (Bt ZX.out aA) (o9.stay zi)) (Bt JD.out (Bt ZX.out aA)) _ [.bool v1,.slice v2 v3 v4,.bool v5,.slice v6 v7 v8] (F k j) rfl (au.new _ _ _) rfl ?c1 ⟨_,_,_,_,_,_,_,_,rfl,HFx.out.later aA⟩ (o9.stay zi) ?c2 zo ?_)
      case c1=>first|(intro u hu;simp only [List.mem_cons,List.not_mem_nil,or_false] at hu;rcases hu with rfl|rfl|rfl|rfl<;>rfl)|exact ⟨rfl,rfl,rfl,rfl⟩
      case c2=>simp;omega
      intro v' w9 hg gX _
      have HG2:Hid (bK w9 wo.heap.size 152 4 o9 v' ((List.range (j+1)).map (F k))):=zh (by rw [iw];exact hg)
      clear hg HR
      go_wp2_with fail
      go_roundw
      case rel=>exact ⟨j+1,by go_num,by omega,HG2,gX⟩
      case measure=>exact zM
    ·obtain rfl:j=n:=by omega
     have HRV:Hid (kT wr _ _):=zh HR.out.Gy
     obtain ⟨rv,rc,rfl⟩:=HR.out.at (n:=j) zi
     have HB3:=zh (Bt Qb.out hbi)
     replace HG:=zh (HG.out.later hbi (jU.stay zi zi))
     clear hbi HR
     go_wp2_with (at_builtin;refine bS (w0:=w4) rfl (.tmp 60) (.tmp 62) 146 rfl 154 i1 (.slice none 0 0) 1 24 Tryz.underlying146 hi1 hy0 hy1 hy2 rfl zd jU _ ((List.range k).map fun i=>(List.range j).map (F i)) rfl (HG.out.later aA (jU.stay zi zi)) (Bt HB3.out aA) _ [.slice rv j rc] ((List.range j).map (F k)) rfl (au.new _ _ _) rfl ?c1 ⟨_,rfl,HRV.out.later aA⟩ (jU.stay zi zi) ?c2 zo ?_)
     case c1=>first|(intro u hu;simp only [List.mem_cons,List.not_mem_nil,or_false] at hu;rcases hu with rfl;rfl)|rfl
     case c2=>simp;omega
     intro v' w9 hg gX _
     have HG2:Hid (bK w9 w4.heap.size 154 1 jU v' ((List.range (k+1)).map fun i=>(List.range j).map (F i))):=zh (by rw [iw];exact hg)
     clear hg HG HRV
     go_wp2_with fail
     go_roundw
     case rel=>exact ⟨k+1,by go_num,by omega,HG2,gX⟩
     case measure=>exact zM
  ·obtain rfl:k=n:=by omega
   obtain ⟨ov,cv,rfl⟩:=HG.out.at (n:=k) zi
   have OUV:=zh (OU.out _ _ HG.out.Gy)
   have HB2:=zh (Bt Yr.out hb)
   go_wp2_with fail
   refine OUV.out.mono ?_
   rintro e w6 ⟨hb6,v,rfl,ao0,an9⟩
   have HP:Hid (aQ w er _ (.returned (.tuple #[v,.int .i64 er])) w6):=zh ⟨Bt HB2.out hb6,v,rfl,ao0,an9⟩
   clear ao0 an9 hb6
   go_wp2_with fail
   go_ret2
   exact HP.out
end Go.Proofs.aK
namespace Go.Proofs.aK
open Go Go.RowKit Go.SW Go.Num Go.Mem Go.Proofs Go.Dec Go.dx
theorem nY (a1 a2:ByteArray) (w:World) :
  (binOp .neq 36 (.agg #[.string a1,.string a2]) (.agg #[.string a1,.string a2])).run Tryz.prog w= .ok (.bool false) w:=by
 go_simp
theorem Jy (v1 v2:Value) (l:List Fr) (w:World) (h1:jL w 36 v1 l) (h2:jL w 36 v2 l) :
  Calls Tryz.prog 44 #[v1,v2] w (fun e w'=>e= .returned (.bool true)∧Below w.heap.size w w'):=by
 obtain ⟨a,cap,rfl,hc1,hc2,hr1⟩:=h1.read
 obtain ⟨a',cap',rfl,hc1',hc2',hr2⟩:=h2.read
 have H1:=zh hr1
 have H2:=zh hr2
 have Xf:= @nY
 have g1:((l.length:Int) != (l.length:Int))=false:=by simp
 clear h1 h2 hr1 hr2
 go_enter Tryz.func44,Tryz.ntmps44
 go_wp2_with fail
 go_loopw [5] (fun iv wr=>∃ k:Nat,iv= .int .i64 (k:Int)∧k≤l.length∧Below w.heap.size w wr) (fun iv _=>l.length - (intOf iv).toNat)
 case atStart=>exact ⟨0,rfl,by omega,Below.refl _ _⟩
 case round =>
  obtain ⟨k,rfl,hk,hb⟩:=hrel
  rcases Nat.lt_or_ge k l.length with hlt|hge
  ·obtain ⟨b,off,rfl,hbl,hx1,hx2⟩:=H1.out k hlt
   obtain ⟨b',off',rfl,sS,hy1,hy2⟩:=H2.out k hlt
   have hc3:=(hb.cell (p:=⟨b,off+k*2,none⟩) hbl).trans hx1
   have hc4:=(hb.cell (p:=⟨b,off+k*2+1,none⟩) hbl).trans hx2
   have kP:=(hb.cell (p:=⟨b',off'+k*2,none⟩) sS).trans hy1
   have hc6:=(hb.cell (p:=⟨b',off'+k*2+1,none⟩) sS).trans hy2
   clear hx1 hx2 hy1 hy2
   generalize hlk:l[k]=lk at *
   obtain ⟨s,t⟩:=lk
   have Xe:=zh hlk
   clear hlk
   go_wp2_with fail
   go_quiet (fail)
   go_wp2_with fail
   go_roundw
   case rel=>exact ⟨k+1,by go_num,by omega,below_drewN hb _⟩
   case measure=>exact zM
  ·obtain rfl:k=l.length:=by omega
   go_wp2_with fail
   go_ret
   exact ⟨rfl,hb⟩
theorem Nv (v1 v2:Value) (m:List (List Fr)) (w:World) (h1:bQ w v1 m) (h2:bQ w v2 m) :
  Calls Tryz.prog 16 #[v1,v2] w (fun e w'=>e= .returned (.bool true)∧Below w.heap.size w w'):=by
 obtain ⟨a,cap,rfl,hc1,hc2,hr1⟩:=bQ.read h1
 obtain ⟨a',cap',rfl,hc1',hc2',hr2⟩:=bQ.read h2
 have H1:=zh hr1
 have H2:=zh hr2
 have g1:((m.length:Int) != (m.length:Int))=false:=by simp
 clear h1 h2 hr1 hr2
 go_enter Tryz.func16,Tryz.ntmps16
 go_wp2_with fail
 go_loopw [5] (fun iv wr=>∃ k:Nat,iv= .int .i64 (k:Int)∧k≤m.length∧Below w.heap.size w wr) (fun iv _=>m.length - (intOf iv).toNat)
 case atStart=>exact ⟨0,rfl,by omega,Below.refl _ _⟩
 case round =>
  obtain ⟨k,rfl,hk,hb⟩:=hrel
  rcases Nat.lt_or_ge k m.length with hlt|hge
  ·obtain ⟨b,off,a1,c1,rfl,hbl,hx1,hf1⟩:=H1.out k hlt
   obtain ⟨b',off',a2,c2,rfl,sS,hy1,hf2⟩:=H2.out k hlt
   have hc3:=(hb.cell (p:=⟨b,off+k,none⟩) hbl).trans hx1
   have kP:=(hb.cell (p:=⟨b',off'+k,none⟩) sS).trans hy1
   have SL:=zh (fun W (hW:Below w.heap.size w W)=>Jy _ _ m[k] W (hf1.later hW) (hf2.later hW))
   clear hx1 hy1 hf1 hf2
   generalize m[k].length=n at *
   go_wp2_with fail
   refine aC [(.pure,0),(.pure,1),(.pure,2),(.read,3),(.pure,4),(.pure,5),(.pure,6),(.read,7),(.ext,8),(.pure,9)] zk zk zR zP ?_;refine Wk.out ?_;(iterate 8 (first|(apply iX;(rfl);(rfl);(rfl);(intro J hJ;go_simp;(with_reducible refine hJ _ ?_);clear hJ J))|(apply jX;(rfl);(rfl);(rfl);(rfl);(exact zk);(intro J hJ;go_simp;(with_reducible refine hJ _ ?_);clear hJ J))|(apply iG;(rfl);(rfl);(intro J hJ;go_simp;(with_reducible refine hJ _ ?_);clear hJ J))|(apply iY;(rfl);(rfl);(rfl);(rfl);(intro J hJ;go_simp;(with_reducible refine hJ _ ?_);clear hJ J;try go_simp))))
   refine jM rfl rfl (fun wa hba J hJ=>?_);go_simp
   have z1:Below w.heap.size w wa:=Bt hb aA
   refine (SL.out _ z1).mono ?_
   rintro e wb ⟨rfl,hbb⟩
   have z2:=Bt z1 hbb
   refine hJ _ _ hbb ?_
   clear hJ J
   (iterate 1 (first|(apply iX;(rfl);(rfl);(rfl);(intro J hJ;go_simp;(with_reducible refine hJ _ ?_);clear hJ J))|(apply jX;(rfl);(rfl);(rfl);(rfl);(exact zk);(intro J hJ;go_simp;(with_reducible refine hJ _ ?_);clear hJ J))|(apply iG;(rfl);(rfl);(intro J hJ;go_simp;(with_reducible refine hJ _ ?_);clear hJ J))|(apply iY;(rfl);(rfl);(rfl);(rfl);(intro J hJ;go_simp;(with_reducible refine hJ _ ?_);clear hJ J;try go_simp))));refine xP fun wf hf=>?_
   have z3:Below w.heap.size w wf:=Bt z2 hf
   clear hba hbb hf z1 z2
   go_wp2_with fail
   go_roundw
   case rel=>exact ⟨k+1,by go_num,by omega,z3⟩
   case measure=>exact zM
  ·obtain rfl:k=m.length:=by omega
   go_wp2_with fail
   go_ret
   exact ⟨rfl,hb⟩
end Go.Proofs.aK
