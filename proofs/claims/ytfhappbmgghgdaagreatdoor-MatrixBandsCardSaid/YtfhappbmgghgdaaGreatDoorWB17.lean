/- Lemmas for the proof. No condition. -/
import Derived.Test.YtfhappbmgghgdaaGreatDoorWB01
import Derived.Test.YtfhappbmgghgdaaGreatDoorWB02
import Derived.Test.YtfhappbmgghgdaaGreatDoorWB03
import Derived.Test.YtfhappbmgghgdaaGreatDoorWB04
import Derived.Test.YtfhappbmgghgdaaGreatDoorWB09
import Derived.Test.YtfhappbmgghgdaaGreatDoorWB10
import Derived.Test.YtfhappbmgghgdaaGreatDoorWB11
import Derived.Test.YtfhappbmgghgdaaGreatDoorWB14
import Derived.Test.YtfhappbmgghgdaaGreatDoorWB15
import Derived.ChangeKeysEq
set_option linter.unusedVariables false
set_option linter.unusedSimpArgs false
set_option maxRecDepth 100000
set_option maxHeartbeats 16000000
namespace Go.Proofs.aF
open Go Go.RowKit Go.SW Go.Num Go.Mem Go.Proofs Go.Dec Go.cK Go.Proofs.aH
def Ui (l:List Fr):Bool:=l.all fun a=>(rd a).isSome
theorem Ll (l:List Fr):Ui l=(gN l == 0):=by
 unfold Ui gN;split<;>rename_i h
 ·rw [h];rfl
 ·rw [Bool.not_eq_true] at h;rw [h];rfl
theorem WT (v:Value) (l:List Fr) (T:TypeId) (w:World) (h:gX w T v l) (hf:∀ x∈l,Fits x) :
  Calls Tryz.prog 55 #[v] w (fun e w'=>e= .returned (.bool (Ui l))∧Below w.heap.size w w'):=by
 obtain ⟨a,cap,rfl,hc1,hc2,hread⟩:=h.read;have H:=zh hread;have HF:=zh hf;clear h hread hf;go_enter Tryz.func55,Tryz.ntmps55
 go_wp2_with fail
 go_loopw [3] (fun iv wr=>∃ k:Nat,iv= .int .i64 (k:Int)∧k≤l.length∧Hid (∀ j (h:j<l.length),j<k→(rd l[j]).isSome=true)∧Below w.heap.size w wr) (fun iv _=>l.length - (intOf iv).toNat)
 case atStart=>exact ⟨0,rfl,by omega,zh (fun j _ h=>by omega),Below.refl _ _⟩
 case round =>
  obtain ⟨k,rfl,hk,HK,hb⟩:=hrel
  rcases Nat.lt_or_ge k l.length with hlt|hge
  ·obtain ⟨b,off,rfl,hbl,hx1,hx2⟩:=H.out k hlt;have hc1:=(hb.cell (p:=⟨b,off+k*2,none⟩) hbl).trans hx1;have hc2:=(hb.cell (p:=⟨b,off+k*2+1,none⟩) hbl).trans hx2;clear hx1 hx2;have HRT:=zh (fun W b (h:(rd l[k]).isSome=b)=>Jl h (HF.out _ (List.getElem_mem hlt)) W);generalize hlk:l[k]=lk at *;have Yi:=zh hlk;obtain ⟨s,t⟩:=lk;cases hv:(rd ⟨s,t⟩).isSome with
   | true =>
    have CW:Hid (∀ w,Calls Tryz.prog 113 #[.agg #[.string s,.string t]] w (fun e w'=>e= .returned (.bool true)∧Below w.heap.size w w')):=zh (fun W=>HRT.out W _ hv);have HV:=zh hv;clear hlk hv;go_wp2_with fail
    refine (CW.out _).mono ?_;rintro e v1 ⟨rfl,hc1⟩;go_wp2_with fail
    go_roundw
    case rel =>
     refine ⟨k+1,by go_num,by omega,zh fun j hj hjk=>?_,Bt hb ah⟩
     rcases Nat.lt_or_ge j k with h|h
     ·exact HK.out j hj h
     ·obtain rfl:j=k:=by omega
      rw [Yi.out];exact HV.out
    case measure=>exact zM
   | false =>
    have CW:Hid (∀ w,Calls Tryz.prog 113 #[.agg #[.string s,.string t]] w (fun e w'=>e= .returned (.bool false)∧Below w.heap.size w w')):=zh (fun W=>HRT.out W _ hv)
    have hno:Ui l=false:=by
     rw [Bool.eq_false_iff];intro h;have:=List.all_eq_true.1 h l[k] (List.getElem_mem _);rw [hlk,hv] at this;cases this
    have Yh:=zh hno;clear hlk hv hno;go_wp2_with fail
    refine (CW.out _).mono ?_;rintro e v1 ⟨rfl,hc1⟩;go_wp2_with fail
    go_ret
    exact ⟨by rw [Yh.out];rfl,Bt hb ah⟩
  ·have hyes:Ui l=true:=by
    unfold Ui;rw [List.all_eq_true];intro x hx;obtain ⟨j,hj,rfl⟩:=List.getElem_of_mem hx;exact HK.out j hj zo
   have OU:=zh hyes;clear hyes;obtain rfl:k=l.length:=by omega
   go_wp2_with fail
   go_ret
   exact ⟨by rw [OU.out];rfl,hb⟩
theorem aN.read {w:World} {v:Value} {m:List (List Fr)} (h:aN w v m):∃ a cap,v= .slice a m.length cap∧m.length≤cap∧cap≤9223372036854775807 ∧
  ∀ k (_:k<m.length),∃ b off a' c',a=some ⟨b,off,none⟩∧b<w.heap.size∧w.cell? ⟨b,off+k,none⟩=some (.slice a' m[k].length c')∧gX w 59 (.slice a' m[k].length c') m[k]:=by
 obtain ⟨rs,hR,hl,hF⟩:=h;have hR2:=hR;obtain ⟨a,cap,rfl,h1,h2,h3,h4⟩:=hR2;refine ⟨a,cap,by rw [hl],by omega,h2,fun k hk=>?_⟩;have hk':k<rs.length:=by omega
 rcases hR.cases with ⟨-, e⟩|⟨b,off,cap',arr,e, -, -, hx,hc⟩
 ·rw [e] at hk';cases hk'
 ·simp only [Value.slice.injEq] at e;have hf:=hF k hk' hk;obtain ⟨a',c',e', -⟩:=hf.read;rw [e'] at hf;exact ⟨b,off,a',c',e.1,hx.lt,by rw [hx.cell,hc k hk',e'],hf⟩
def ak8 (n0:Nat) (r:List Fr):Bool:=r.length == n0&&gN r == 0
theorem Zi {m:List (List Fr)} (h1:1≤m.length) (h4:m.length≤4):jQ m=(decide (1≤(m.headD []).length)&&decide ((m.headD []).length≤4)&&m.all (ak8 (m.headD []).length)):=by
 unfold jQ;rw [decide_eq_true h1,decide_eq_true h4];rfl
theorem XR {m:List (List Fr)} (h:0<m.length):(m.headD [])=m[0]:=by
 cases m with
 | nil=>cases h
 | cons r t=>rfl
theorem Zh {m:List (List Fr)} {k:Nat} (hk:k<m.length) (h:m[k].length<1∨4<m[k].length∨m[k].length≠(m.headD []).length∨Ui m[k]=false):jQ m=false:=by
 rw [Bool.eq_false_iff];intro e;unfold jQ at e;simp only [Bool.and_eq_true,decide_eq_true_eq] at e;obtain ⟨⟨⟨⟨e1,e2⟩,e3⟩,e4⟩,e5⟩:=e;have:=List.all_eq_true.1 e5 m[k] (List.getElem_mem _);simp only [Bool.and_eq_true,beq_iff_eq] at this;rw [Ll,beq_eq_false_iff_ne] at h;omega
theorem Vh {m:List (List Fr)} (h1:1≤m.length) (h4:m.length≤4) (h:∀ k (hk:k<m.length),1≤m[k].length∧m[k].length≤4∧m[k].length=(m.headD []).length∧Ui m[k]=true):jQ m=true:=by
 rw [Zi h1 h4];have h0:=h 0 zo;rw [← XR (m:=m) zo] at h0;rw [decide_eq_true h0.1,decide_eq_true h0.2.1,Bool.true_and,Bool.true_and,List.all_eq_true];intro r hr;obtain ⟨j,hj,rfl⟩:=List.getElem_of_mem hr;obtain ⟨-, -, k3,k4⟩:=h j hj;rw [Ll] at k4;unfold ak8;rw [k4,beq_iff_eq.2 k3];rfl
def sM (m:List (List Fr)):Prop:=∀ r∈m,∀ x∈r,Fits x
theorem gK (v:Value) (m:List (List Fr)) (w:World) (h:aN w v m) (hf:sM m) :
  Calls Tryz.prog 57 #[v] w (fun e w'=>e= .returned (.bool (jQ m))∧Below w.heap.size w w'):=by
 obtain ⟨a,cap,rfl,hc1,hc2,hread⟩:=aN.read h
 by_cases hl:m.length<1∨4<m.length
 ·have e:jQ m=false:=by
   unfold jQ
   rcases hl with hl|hl
   ·rw [decide_eq_false (by omega:¬ 1≤m.length)];rfl
   ·rw [decide_eq_false (by omega:¬ m.length≤4),Bool.and_false];rfl
  rw [e];clear hread h hf e;generalize m.length=n at *
  rcases hl with hl|hl
  ·have q1:decide ((n:Int)<1)=true:=by simp;omega
   clear hl;go_enter Tryz.func57,Tryz.ntmps57
   go_wp2_with fail
   go_ret
   exact ⟨rfl,ah⟩
  ·have q1:decide ((n:Int)<1)=false:=by simp;omega
   have q2:decide ((4:Int)<(n:Int))=true:=by simp;omega
   clear hl;go_enter Tryz.func57,Tryz.ntmps57
   go_wp2_with fail
   go_ret
   exact ⟨rfl,ah⟩
 have h1:1≤m.length:=by omega
 have h4:m.length≤4:=by omega
 obtain ⟨b,off,a0,c0,rfl,lb,cell0, -⟩:=hread 0 zo
 have Kw:Hid (∀ k (_:k<m.length),∃ a' c',w.cell? ⟨b,off+k,none⟩=some (.slice a' m[k].length c')∧gX w 59 (.slice a' m[k].length c') m[k]):=zh fun k hk=>by
  obtain ⟨b',off',a',c',e, -, k1,k2⟩:=hread k hk;simp only [Option.some.injEq,Addr.mk.injEq,and_true] at e;obtain ⟨rfl,rfl⟩:=e;exact ⟨a',c',k1,k2⟩
 have Yh:=zh (fun k hk h=>Zh (m:=m) (k:=k) hk h);have OU:=zh (fun h=>Vh h1 h4 h);have HF:=zh hf;have h0m:0<m.length:=by omega
 have q1:decide ((m.length:Int)<1)=false:=by simp;omega
 have q2:decide ((4:Int)<(m.length:Int))=false:=by simp;omega
 clear h hf hread;rw [← XR (m:=m) zo] at cell0;obtain ⟨n0,hn0⟩:∃ n0,(m.headD []).length=n0:=⟨_,rfl⟩;rw [hn0] at cell0 Yh OU;generalize jQ m=z at *;clear hn0 hl;go_enter Tryz.func57,Tryz.ntmps57
 go_wp2_with fail
 go_loopw [3] (fun iv wr=>∃ k:Nat,iv= .int .i64 (k:Int)∧k≤m.length∧Hid (∀ j (h:j<m.length),j<k→1≤m[j].length∧m[j].length≤4∧m[j].length=n0∧Ui m[j]=true)∧Below w.heap.size w wr) (fun iv _=>m.length - (intOf iv).toNat)
 case atStart=>exact ⟨0,rfl,by omega,zh (fun j _ h=>by omega),Below.refl _ _⟩
 case round =>
  obtain ⟨k,rfl,hk,HK,hb⟩:=hrel
  rcases Nat.lt_or_ge k m.length with hlt|hge
  ·obtain ⟨a',c',hx1,hx2⟩:=Kw.out k hlt;have ck:=(hb.cell (p:=⟨b,off+k,none⟩) lb).trans hx1;have c0:=(hb.cell (p:=⟨b,off,none⟩) lb).trans cell0;have lb':b<wr.heap.size:=Nat.lt_of_lt_of_le lb hb.size;have NO:=zh (Yh.out k hlt);have LI:=zh (fun W (hW:Below wr.heap.size wr W)=>WT _ m[k] 59 W ((hx2.later hb).later hW) (HF.out _ (List.getElem_mem hlt)));clear hx1 hx2 cell0;generalize hn:m[k].length=n at *;have HN:=zh hn;clear hn
   rcases Nat.lt_or_ge n 1 with h1|h1
   ·have g1:decide ((n:Int)<1)=true:=by simp;omega
    have HZ:=zh (NO.out (.inl h1));clear h1;go_wp2_with fail
    refine aD ((.pure,0)::(.pure,1)::(.pure,2)::(.read,3)::(.pure,4)::(.pure,5)::(.pure,6)::(.pure,7)::(.pure,8)::(.pure,9)::(.read,10)::(.pure,11)::(.pure,12)::(.pure,13)::(.pure,14)::(.pure,15)::(.pure,16)::(.pure,17)::(.read,18)::(.pure,19)::(.pure,20)::(.pure,21)::(.read,22)::(.pure,23)::(.pure,24)::(.pure,25)::(.pure,26)::(.pure,27)::(.pure,28)::(.pure,29)::(.read,30)::(.ext,31)::(.pure,32)::(.pure,33)::[]) zk zk zR zP ?_;refine Wk.out ?_;(iterate 34 refine zU ?_);refine je fun wf hf=>?_;go_wp2_with fail
    go_ret
    exact ⟨by rw [HZ.out];rfl,Bt hb ah⟩
   have g1:decide ((n:Int)<1)=false:=by simp;omega
   rcases Nat.lt_or_ge 4 n with h4|h4
   ·have g2:decide ((4:Int)<(n:Int))=true:=by simp;omega
    have HZ:=zh (NO.out (.inr (.inl h4)));clear h1 h4;go_wp2_with fail
    refine aD ((.pure,0)::(.pure,1)::(.pure,2)::(.read,3)::(.pure,4)::(.pure,5)::(.pure,6)::(.pure,7)::(.pure,8)::(.pure,9)::(.read,10)::(.pure,11)::(.pure,12)::(.pure,13)::(.pure,14)::(.pure,15)::(.pure,16)::(.pure,17)::(.read,18)::(.pure,19)::(.pure,20)::(.pure,21)::(.read,22)::(.pure,23)::(.pure,24)::(.pure,25)::(.pure,26)::(.pure,27)::(.pure,28)::(.pure,29)::(.read,30)::(.ext,31)::(.pure,32)::(.pure,33)::[]) zk zk zR zP ?_;refine Wk.out ?_;(iterate 34 refine zU ?_);refine je fun wf hf=>?_;go_wp2_with fail
    go_ret
    exact ⟨by rw [HZ.out];rfl,Bt hb ah⟩
   have g2:decide ((4:Int)<(n:Int))=false:=by simp;omega
   by_cases he:n=n0
   rotate_left
   ·have g3:((n:Int) != (n0:Int))=true:=by rw [bne_iff_ne];omega
    have HZ:=zh (NO.out (.inr (.inr (.inl he))));clear h1 h4 he;go_wp2_with fail
    refine aD ((.pure,0)::(.pure,1)::(.pure,2)::(.read,3)::(.pure,4)::(.pure,5)::(.pure,6)::(.pure,7)::(.pure,8)::(.pure,9)::(.read,10)::(.pure,11)::(.pure,12)::(.pure,13)::(.pure,14)::(.pure,15)::(.pure,16)::(.pure,17)::(.read,18)::(.pure,19)::(.pure,20)::(.pure,21)::(.read,22)::(.pure,23)::(.pure,24)::(.pure,25)::(.pure,26)::(.pure,27)::(.pure,28)::(.pure,29)::(.read,30)::(.ext,31)::(.pure,32)::(.pure,33)::[]) zk zk zR zP ?_;refine Wk.out ?_;(iterate 34 refine zU ?_);refine je fun wf hf=>?_;go_wp2_with fail
    go_ret
    exact ⟨by rw [HZ.out];rfl,Bt hb ah⟩
   have g3:((n:Int) != (n0:Int))=false:=by rw [bne_eq_false_iff_eq];omega
   have HE:=zh he;have H1:=zh h1;have H4:=zh h4;clear h1 h4 he;cases hv:Ui m[k] with
   | false =>
    rw [hv] at LI;have HZ:=zh (NO.out (.inr (.inr (.inr hv))));clear hv;go_wp2_with fail
    refine aD ((.pure,0)::(.pure,1)::(.pure,2)::(.read,3)::(.pure,4)::(.pure,5)::(.pure,6)::(.pure,7)::(.pure,8)::(.pure,9)::(.read,10)::(.pure,11)::(.pure,12)::(.pure,13)::(.pure,14)::(.pure,15)::(.pure,16)::(.pure,17)::(.read,18)::(.pure,19)::(.pure,20)::(.pure,21)::(.read,22)::(.pure,23)::(.pure,24)::(.pure,25)::(.pure,26)::(.pure,27)::(.pure,28)::(.pure,29)::(.read,30)::(.ext,31)::(.pure,32)::(.pure,33)::[]) zk zk zR zP ?_;refine Wk.out ?_;(iterate 31 refine zU ?_);refine bW rfl rfl (fun wa hba J hJ=>?_);go_simp;refine (LI.out _ ah).mono ?_;rintro e wb ⟨rfl,hbb⟩;refine hJ _ _ hbb ?_;clear hJ J
    (iterate 2 refine zU ?_);refine je fun wf hf=>?_
    go_wp2_with fail
    go_ret
    exact ⟨by rw [HZ.out];rfl,Bt hb (Bt (Bt ah hbb) ah)⟩
   | true =>
    rw [hv] at LI;have HV:=zh hv;clear hv;go_wp2_with fail
    refine aD ((.pure,0)::(.pure,1)::(.pure,2)::(.read,3)::(.pure,4)::(.pure,5)::(.pure,6)::(.pure,7)::(.pure,8)::(.pure,9)::(.read,10)::(.pure,11)::(.pure,12)::(.pure,13)::(.pure,14)::(.pure,15)::(.pure,16)::(.pure,17)::(.read,18)::(.pure,19)::(.pure,20)::(.pure,21)::(.read,22)::(.pure,23)::(.pure,24)::(.pure,25)::(.pure,26)::(.pure,27)::(.pure,28)::(.pure,29)::(.read,30)::(.ext,31)::(.pure,32)::(.pure,33)::[]) zk zk zR zP ?_;refine Wk.out ?_;(iterate 31 refine zU ?_);refine bW rfl rfl (fun wa hba J hJ=>?_);go_simp;refine (LI.out _ ah).mono ?_;rintro e wb ⟨rfl,hbb⟩;refine hJ _ _ hbb ?_;clear hJ J
    (iterate 2 refine zU ?_);refine je fun wf hf=>?_
    have hbz:Below w.heap.size w wf:=Bt hb (Bt (Bt ah hbb) ah);go_wp2_with fail
    go_roundw
    case rel =>
     refine ⟨k+1,by go_num,by omega,zh fun j hj hjk=>?_,hbz⟩
     rcases Nat.lt_or_ge j k with h|h
     ·exact HK.out j hj h
     ·obtain rfl:j=k:=by omega
      rw [HN.out];exact ⟨H1.out,H4.out,HE.out,HV.out⟩
    case measure=>exact zM
  ·have HZ:=zh (OU.out fun j hj=>HK.out j hj zo);obtain rfl:k=m.length:=by omega
   clear cell0;go_wp2_with fail
   go_ret
   exact ⟨by rw [HZ.out];rfl,hb⟩
theorem dw (v:Value) (m:List (List Fr)) (w:World) (h:aN w v m) (hf:sM m) :
  Calls Tryz.prog 24 #[v] w (fun e w'=>e= .returned (.int .i64 (gZ m))∧Below w.heap.size w w'):=by
 obtain ⟨a,cap,rfl, -⟩:=aN.read h;have R:=zh (gK _ m w h hf);unfold gZ;clear h hf;cases hv:jQ m with
 | false =>
  rw [hv] at R;clear hv;go_enter Tryz.func24,Tryz.ntmps24
  go_wp2_with fail
  refine R.out.mono ?_;rintro e wb ⟨rfl,hb⟩;go_wp2_with fail
  go_ret
  exact ⟨rfl,hb⟩
 | true =>
  rw [hv] at R;clear hv;go_enter Tryz.func24,Tryz.ntmps24
  go_wp2_with fail
  refine R.out.mono ?_;rintro e wb ⟨rfl,hb⟩;go_wp2_with fail
  go_ret
  exact ⟨rfl,hb⟩
end Go.Proofs.aF
namespace Go.Proofs.aF
open Go Go.RowKit Go.SW Go.Num Go.Mem Go.Proofs Go.Dec Go.cK
theorem mQ (a1 a2:ByteArray) (w:World) :
  (binOp .neq 59 (.agg #[.string a1,.string a2]) (.agg #[.string a1,.string a2])).run Tryz.prog w= .ok (.bool false) w:=by
 go_simp
theorem xJ (v1 v2:Value) (l:List Fr) (w:World) (h1:gX w 59 v1 l) (h2:gX w 59 v2 l) :
  Calls Tryz.prog 31 #[v1,v2] w (fun e w'=>e= .returned (.bool true)∧Below w.heap.size w w'):=by
 obtain ⟨a,cap,rfl,hc1,hc2,hr1⟩:=h1.read;obtain ⟨a',cap',rfl,hc1',hc2',hr2⟩:=h2.read;have H1:=zh hr1;have H2:=zh hr2;have Xg:= @mQ;have g1:((l.length:Int) != (l.length:Int))=false:=by simp
 clear h1 h2 hr1 hr2;go_enter Tryz.func31,Tryz.ntmps31
 go_wp2_with fail
 go_loopw [5] (fun iv wr=>∃ k:Nat,iv= .int .i64 (k:Int)∧k≤l.length∧Below w.heap.size w wr) (fun iv _=>l.length - (intOf iv).toNat)
 case atStart=>exact ⟨0,rfl,by omega,Below.refl _ _⟩
 case round =>
  obtain ⟨k,rfl,hk,hb⟩:=hrel
  rcases Nat.lt_or_ge k l.length with hlt|hge
  ·obtain ⟨b,off,rfl,hbl,hx1,hx2⟩:=H1.out k hlt;obtain ⟨b',off',rfl,nE,hy1,hy2⟩:=H2.out k hlt;have hc3:=(hb.cell (p:=⟨b,off+k*2,none⟩) hbl).trans hx1;have hc4:=(hb.cell (p:=⟨b,off+k*2+1,none⟩) hbl).trans hx2;have nT:=(hb.cell (p:=⟨b',off'+k*2,none⟩) nE).trans hy1;have hc6:=(hb.cell (p:=⟨b',off'+k*2+1,none⟩) nE).trans hy2;clear hx1 hx2 hy1 hy2;generalize hlk:l[k]=lk at *;obtain ⟨s,t⟩:=lk;have Yi:=zh hlk;clear hlk;go_wp2_with fail
   go_quiet (fail)
   go_wp2_with fail
   go_roundw
   case rel=>exact ⟨k+1,by go_num,by omega,below_drewN hb _⟩
   case measure=>exact zM
  ·obtain rfl:k=l.length:=by omega
   go_wp2_with fail
   go_ret
   exact ⟨rfl,hb⟩
theorem Mr (v1 v2:Value) (m:List (List Fr)) (w:World) (h1:aN w v1 m) (h2:aN w v2 m) :
  Calls Tryz.prog 15 #[v1,v2] w (fun e w'=>e= .returned (.bool true)∧Below w.heap.size w w'):=by
 obtain ⟨a,cap,rfl,hc1,hc2,hr1⟩:=aN.read h1;obtain ⟨a',cap',rfl,hc1',hc2',hr2⟩:=aN.read h2;have H1:=zh hr1;have H2:=zh hr2;have g1:((m.length:Int) != (m.length:Int))=false:=by simp
 clear h1 h2 hr1 hr2;go_enter Tryz.func15,Tryz.ntmps15
 go_wp2_with fail
 go_loopw [5] (fun iv wr=>∃ k:Nat,iv= .int .i64 (k:Int)∧k≤m.length∧Below w.heap.size w wr) (fun iv _=>m.length - (intOf iv).toNat)
 case atStart=>exact ⟨0,rfl,by omega,Below.refl _ _⟩
 case round =>
  obtain ⟨k,rfl,hk,hb⟩:=hrel
  rcases Nat.lt_or_ge k m.length with hlt|hge
  ·obtain ⟨b,off,a1,c1,rfl,hbl,hx1,hf1⟩:=H1.out k hlt;obtain ⟨b',off',a2,c2,rfl,nE,hy1,hf2⟩:=H2.out k hlt;have hc3:=(hb.cell (p:=⟨b,off+k,none⟩) hbl).trans hx1;have nT:=(hb.cell (p:=⟨b',off'+k,none⟩) nE).trans hy1;have SL:=zh (fun W (hW:Below w.heap.size w W)=>xJ _ _ m[k] W (hf1.later hW) (hf2.later hW));clear hx1 hy1 hf1 hf2;generalize m[k].length=n at *;go_wp2_with fail
   refine aD [(.pure,0),(.pure,1),(.pure,2),(.read,3),(.pure,4),(.pure,5),(.pure,6),(.read,7),(.ext,8),(.pure,9)] zk zk zR zP ?_;refine Wk.out ?_;(iterate 8 refine zU ?_);refine bW rfl rfl (fun wa hba J hJ=>?_);go_simp;have z1:Below w.heap.size w wa:=Bt hb ah;refine (SL.out _ z1).mono ?_;rintro e wb ⟨rfl,hbb⟩;have z2:=Bt z1 hbb;refine hJ _ _ hbb ?_;clear hJ J
   (iterate 1 refine zU ?_);refine je fun wf hf=>?_
   have z3:Below w.heap.size w wf:=Bt z2 hf;clear hba hbb hf z1 z2;go_wp2_with fail
   go_roundw
   case rel=>exact ⟨k+1,by go_num,by omega,z3⟩
   case measure=>exact zM
  ·obtain rfl:k=m.length:=by omega
   go_wp2_with fail
   go_ret
   exact ⟨rfl,hb⟩
end Go.Proofs.aF
namespace Go.Proofs.verdigrislaw05
open Go Go.RowKit Go.SW Go.Num Go.Mem Go.Proofs Go.Dec Go.cK
def Strs (w:World) (v:Value) (l:List ByteArray):Prop:=Row w 9 v (l.map Value.string)
theorem Strs.later {w w':World} {v:Value} {l:List ByteArray} (h:Strs w v l) (hb:Below w.heap.size w w'):Strs w' v l:=Row.later h hb
def IsF (w:World) (f:Value) (M:List (List Fr)):Prop:=∃ a v,f= .func (.func 102) #[] #[.pointer (some ⟨a,0,none⟩)]∧au w a #[v] 22∧aN w v M
def Fp (w:World) (f:Value) (e:Int):Prop:=∃ a,f= .func (.func 91) #[] #[.pointer (some ⟨a,0,none⟩)]∧au w a #[.int .i64 e] 33
def Fb (w:World) (f:Value) (l:List ByteArray):Prop:=∃ a v,f= .func (.func 110) #[] #[.pointer (some ⟨a,0,none⟩)]∧au w a #[v] 165∧Strs w v l
def Mv (w:World) (f:Value) (e:Int):Prop:=∃ a,f= .func (.func 109) #[] #[.pointer (some ⟨a,0,none⟩)]∧au w a #[.int .i64 e] 33
theorem IsF.later {w w':World} {f:Value} {M:List (List Fr)} (h:IsF w f M) (hb:Below w.heap.size w w'):IsF w' f M:=by
 obtain ⟨a,v,h1,h2,h3⟩:=h;exact ⟨a,v,h1,h2.later hb,h3.later hb⟩
theorem Fp.later {w w':World} {f:Value} {e:Int} (h:Fp w f e) (hb:Below w.heap.size w w'):Fp w' f e:=by
 obtain ⟨a,h1,h2⟩:=h;exact ⟨a,h1,h2.later hb⟩
theorem Fb.later {w w':World} {f:Value} {l:List ByteArray} (h:Fb w f l) (hb:Below w.heap.size w w'):Fb w' f l:=by
 obtain ⟨a,v,h1,h2,h3⟩:=h;exact ⟨a,v,h1,h2.later hb,h3.later hb⟩
theorem Mv.later {w w':World} {f:Value} {e:Int} (h:Mv w f e) (hb:Below w.heap.size w w'):Mv w' f e:=by
 obtain ⟨a,h1,h2⟩:=h;exact ⟨a,h1,h2.later hb⟩
theorem GU (v:Value) (M:List (List Fr)) (w:World) (h:aN w v M):Calls Tryz.prog 49 #[v] w (fun e w'=>(∃ f,e= .returned f∧IsF w' f M)∧Below w.heap.size w w'):=by
 have H:=zh h;obtain ⟨a,c,rfl⟩:=matrix.aN.sl h;clear h;go_enter Tryz.func49,Tryz.ntmps49
 go_wp2_with fail
 go_ret
 exact ⟨⟨_,rfl,_,_,rfl,aT,H.out.later ah⟩,ah⟩
theorem Aq (k:Int) (w:World):Calls Tryz.prog 44 #[.int .i64 k] w (fun e w'=>(∃ v,e= .returned v∧Fp w' v k)∧Below w.heap.size w w'):=by
 go_enter Tryz.func44,Tryz.ntmps44
 go_wp2_with fail
 go_ret
 exact ⟨⟨_,rfl,_,rfl,aT⟩,ah⟩
theorem Rc (v:Value) (l:List ByteArray) (w:World) (h:Strs w v l):Calls Tryz.prog 52 #[v] w (fun e w'=>(∃ f,e= .returned f∧Fb w' f l)∧Below w.heap.size w w'):=by
 have H:=zh h;obtain ⟨a,c,rfl, -⟩:=h;generalize (l.map Value.string).length=n at *;go_enter Tryz.func52,Tryz.ntmps52
 go_wp2_with fail
 go_ret
 exact ⟨⟨_,rfl,_,_,rfl,aT,H.out.later ah⟩,ah⟩
theorem Vm (k:Int) (w:World):Calls Tryz.prog 51 #[.int .i64 k] w (fun e w'=>(∃ v,e= .returned v∧Mv w' v k)∧Below w.heap.size w w'):=by
 go_enter Tryz.func51,Tryz.ntmps51
 go_wp2_with fail
 go_ret
 exact ⟨⟨_,rfl,_,rfl,aT⟩,ah⟩
theorem wJ (k:Int) (a:Nat) (w:World) (h:au w a #[.int .i64 k] 33):Calls Tryz.prog 91 #[.slice none 0 0,.int .i64 k,.pointer (some ⟨a,0,none⟩)] w (fun e w'=>e= .returned (.bool true)∧Below w.heap.size w w'):=by
 have c1:=h.cell;have l1:=h.lt;go_enter Tryz.func91,Tryz.ntmps91
 go_wp2_with fail
 go_ret
 exact ⟨rfl,ah⟩
theorem QJ (k:Int) (a:Nat) (w:World) (h:au w a #[.int .i64 k] 33):Calls Tryz.prog 109 #[.slice none 0 0,.int .i64 k,.pointer (some ⟨a,0,none⟩)] w (fun e w'=>e= .returned (.bool true)∧Below w.heap.size w w'):=by
 have c1:=h.cell;have l1:=h.lt;go_enter Tryz.func109,Tryz.ntmps109
 go_wp2_with fail
 go_ret
 exact ⟨rfl,ah⟩
theorem zJ (vm:Value) (M:List (List Fr)) (a:Nat) (v:Value) (w:World) (hm:aN w vm M) (hb:au w a #[v] 22) (hv:aN w v M):Calls Tryz.prog 102 #[vm,.int .i64 0,.pointer (some ⟨a,0,none⟩)] w (fun e w'=>e= .returned (.bool true)∧Below w.heap.size w w'):=by
 have S:=zh (matrix.Mr vm v M w hm hv);have c1:=hb.cell;have l1:=hb.lt;obtain ⟨a1,c1',rfl⟩:=matrix.aN.sl hm;obtain ⟨a2,c2',rfl⟩:=matrix.aN.sl hv;clear hm hv hb;go_enter Tryz.func102,Tryz.ntmps102
 go_wp2_with fail
 refine S.out.mono ?_;rintro e w1 ⟨rfl,h1⟩;go_wp2_with fail
 go_ret
 exact ⟨rfl,h1⟩
theorem NZ (vm:Value) (l:List ByteArray) (a:Nat) (v:Value) (w:World) (hm:gX w 59 vm (l.map jf)) (hb:au w a #[v] 165) (hv:Strs w v l) (hl:l.length≤1000) (ht:∀ s∈l,Txt s):Calls Tryz.prog 110 #[vm,.int .i64 0,.pointer (some ⟨a,0,none⟩)] w (fun e w'=>e= .returned (.bool true)∧Below w.heap.size w w'):=by
 have Q:=zh (Y8 v l w hv hl ht);have S:=zh (fun x W h1 h2=>aF.xJ vm x (l.map jf) W h1 h2);have HM:=zh hm;have c1:=hb.cell;have l1:=hb.lt;obtain ⟨a1,c1',rfl, -⟩:=hm.read;obtain ⟨a2,c2',rfl, -⟩:=hv;generalize (l.map Value.string).length=n at *;generalize l.map jf=L at *;clear hm hb ht hl;go_enter Tryz.func110,Tryz.ntmps110
 go_wp2_with fail
 refine Q.out.mono ?_;rintro e w1 ⟨x,rfl,h1,h2⟩;have HX:=zh h2;obtain ⟨a3,c3,rfl, -⟩:=h2.read;clear h2;go_wp2_with fail
 refine (S.out _ _ (HM.out.later h1) HX.out).mono ?_;rintro e w2 ⟨rfl,h2⟩;go_wp2_with fail
 go_ret
 exact ⟨rfl,Bt h1 h2⟩
end Go.Proofs.verdigrislaw05
namespace Go.Proofs.verdigrislaw05
open Go Go.RowKit Go.SW Go.Num Go.Mem Go.Proofs Go.Dec Go.cK Go.Proofs.matrix
def UM (s:ByteArray):Bool:= !(([47]:List UInt8) == s.toList)&&decide (s.size≤1000000)
theorem Jc {l:List ByteArray} (h:l.all UM=true):∀ s∈l,Txt s:=fun s hs=>by
 have:=List.all_eq_true.1 h s hs;unfold UM at this;simp only [Bool.and_eq_true,Bool.not_eq_true',decide_eq_true_eq] at this;exact this
def au1 (W:World) (Q:List Fr) (e:Ending) (w':World):Prop:=∃ a c,e= .returned (.slice a Q.length c)∧Below W.heap.size W w'∧gX w' 59 (.slice a Q.length c) Q
theorem gQ {l:List ByteArray} {Q:List Fr} (e:l.map jf=Q) (hl:l.length≤1000) (ht:l.all UM=true):∀ v W,Strs W v l→Calls Tryz.prog 48 #[v] W (au1 W Q):=fun v W h =>
 (Y8 v l W h hl (Jc ht)).mono fun en w' ⟨v',h1,h2,h3⟩=>by
  rw [e] at h3;obtain ⟨a,c,rfl, -⟩:=h3.read;exact ⟨a,c,h1,h2,h3⟩
theorem oF {w:World} {b:Nat} {s:ByteArray} (h:au w b #[.string s] 9):Strs w (.slice (some ⟨b,0,none⟩) 1 1) [s]:=Row.mk (off:=0) rfl (Nat.le_refl _) zo h fun i hi=>by
 obtain rfl:i=0:=by simp at hi;omega
 rfl
theorem dF {w:World} {b:Nat} {s t:ByteArray} (h:au w b #[.string s,.string t] 9):Strs w (.slice (some ⟨b,0,none⟩) 2 2) [s,t]:=Row.mk (off:=0) rfl (Nat.le_refl _) zo h fun i hi=>by
 obtain rfl|rfl:i=0∨i=1:=by simp at hi;omega
 all_goals rfl
theorem Jh {w:World} {b:Nat} {s t u:ByteArray} (h:au w b #[.string s,.string t,.string u] 9):Strs w (.slice (some ⟨b,0,none⟩) 3 3) [s,t,u]:=Row.mk (off:=0) rfl (Nat.le_refl _) zo h fun i hi=>by
 obtain rfl|rfl|rfl:i=0∨i=1∨i=2:=by simp at hi;omega
 all_goals rfl
theorem yt {w:World} {b:Nat} {x:Value} {q:List Fr} (h:au w b #[x] 29) (hx:gX w 59 x q):aN w (.slice (some ⟨b,0,none⟩) 1 1) [q] :=
 ⟨[x],Row.mk (off:=0) rfl (Nat.le_refl _) zo h (fun i hi=>by
  obtain rfl:i=0:=by simp at hi;omega
  rfl),rfl,fun i hi _=>by
  obtain rfl:i=0:=by simp at hi;omega
  exact hx⟩
theorem nR {w:World} {b:Nat} {x y:Value} {q r:List Fr} (h:au w b #[x,y] 29) (hx:gX w 59 x q) (hy:gX w 59 y r):aN w (.slice (some ⟨b,0,none⟩) 2 2) [q,r] :=
 ⟨[x,y],Row.mk (off:=0) rfl (Nat.le_refl _) zo h (fun i hi=>by
  obtain rfl|rfl:i=0∨i=1:=by simp at hi;omega
  all_goals rfl),rfl,fun i hi _=>by
  obtain rfl|rfl:i=0∨i=1:=by simp at hi;omega
  ·exact hx
  ·exact hy⟩
theorem NJ {w:World} {b:Nat} {x y z:Value} {q r s:List Fr} (h:au w b #[x,y,z] 29) (hx:gX w 59 x q) (hy:gX w 59 y r) (hz:gX w 59 z s):aN w (.slice (some ⟨b,0,none⟩) 3 3) [q,r,s] :=
 ⟨[x,y,z],Row.mk (off:=0) rfl (Nat.le_refl _) zo h (fun i hi=>by
  obtain rfl|rfl|rfl:i=0∨i=1∨i=2:=by simp at hi;omega
  all_goals rfl),rfl,fun i hi _=>by
  obtain rfl|rfl|rfl:i=0∨i=1∨i=2:=by simp at hi;omega
  ·exact hx
  ·exact hy
  ·exact hz⟩
theorem QW {w:World} {b n cap:Nat} {m:List (List Fr)} (k:Nat) (h:aN w (.slice (some ⟨b,0,none⟩) n cap) m) (hk:k≤n):aN w (.slice (some ⟨b,0,none⟩) k cap) (m.take k):=by
 obtain ⟨rs,hR,hl,hF⟩:=h;obtain ⟨a,cap',e,h1,h2,h3,h4⟩:=hR;simp only [Value.slice.injEq] at e;obtain ⟨rfl,rfl,rfl⟩:=e;refine ⟨rs.take k,⟨some ⟨b,0,none⟩,cap,by rw [List.length_take,Nat.min_eq_left hk],by rw [List.length_take];omega,h2,(fun e=>by cases e),fun ad had=>?_⟩,by rw [List.length_take,List.length_take,hl],fun i hi hi'=>?_⟩
 ·obtain ⟨h6,arr,h7,h8⟩:=h4 ad had;refine ⟨h6,arr,h7,fun i hi=>?_⟩;rw [List.length_take] at hi;rw [List.getElem_take];exact h8 i zo
 ·rw [List.length_take] at hi;rw [List.getElem_take,List.getElem_take];exact hF i zo zo
theorem Vt (w:World):aN w (.slice none 0 0) []:=⟨[],Row.nil _ _,rfl,fun i h=>by cases h⟩
def OH (W:World) (R:List (List Fr)) (e:Ending) (w':World):Prop:=∃ a c,e= .returned (.tuple #[.slice a R.length c,.int .i64 0])∧Below W.heap.size W w'∧aN w' (.slice a R.length c) R
def aD5 (W:World) (R:List Fr) (e:Ending) (w':World):Prop:=∃ a c,e= .returned (.tuple #[.slice a R.length c,.int .i64 0])∧Below W.heap.size W w'∧gX w' 59 (.slice a R.length c) R
def NoM (W:World) (k:Int) (e:Ending) (w':World):Prop:=e= .returned (.tuple #[.slice none 0 0,.int .i64 k])∧Below W.heap.size W w'
theorem yE {W w':World} {R:List (List Fr)} {e:Ending} (h:aV W 0 R e w'):OH W R e w':=by
 obtain ⟨hb,v,rfl,h1, -⟩:=h;obtain ⟨a,c,rfl⟩:=aN.sl (h1 rfl);exact ⟨a,c,rfl,hb,h1 rfl⟩
theorem QK {W w':World} {R:List (List Fr)} {k:Int} {e:Ending} (hk:k≠0) (h:aV W k R e w'):NoM W k e w':=by
 obtain ⟨hb,v,rfl, -, h1⟩:=h;rw [h1 hk];exact ⟨rfl,hb⟩
theorem Vr {A B R:List (List Fr)} (h:qH A B=0) (h2:mulM A B=R):∀ x y W,aN W x A→aN W y B→oO.Pow W→Calls Tryz.prog 27 #[x,y] W (OH W R):=fun x y W h3 h4 h5=>by
 have:=TI x y A B W h3 h4 h5;rw [h,h2] at this;exact this.mono fun _ _=>yE
theorem Zl {A B:List (List Fr)} {k:Int} (h:qH A B=k) (hk:k≠0):∀ x y W,aN W x A→aN W y B→oO.Pow W→Calls Tryz.prog 27 #[x,y] W (NoM W k):=fun x y W h3 h4 h5=>by
 have:=TI x y A B W h3 h4 h5;rw [h] at this;exact this.mono fun _ _=>QK hk
theorem Vz {A R:List (List Fr)} (h:uL A=0) (h2:GY A=R):∀ x W,aN W x A→oO.Pow W→Calls Tryz.prog 37 #[x] W (OH W R):=fun x W h3 h5=>by
 have:=TQ x A W h3 h5;rw [h,h2] at this;exact this.mono fun _ _=>yE
theorem Zx {A:List (List Fr)} {k:Int} (h:uL A=k) (hk:k≠0):∀ x W,aN W x A→oO.Pow W→Calls Tryz.prog 37 #[x] W (NoM W k):=fun x W h3 h5=>by
 have:=TQ x A W h3 h5;rw [h] at this;exact this.mono fun _ _=>QK hk
theorem M0 {A R:List (List Fr)} (h:gZ A=0) (h2:jB A (A.headD []).length=R):∀ x W,aN W x A→Calls Tryz.prog 21 #[x] W (OH W R):=fun x W h3=>by
 have:=OJ x A W h3;rw [h,h2] at this;exact this.mono fun _ _=>yE
theorem ZC {n:Int} {R:List (List Fr)} (h:idE n=0) (h2:kT (List.replicate n.toNat Fr.one)=R):∀ W,Calls Tryz.prog 13 #[.int .i64 n] W (OH W R):=fun W=>by
 have:=xO n W;rw [h,h2] at this;exact this.mono fun _ _=>yE
theorem an2 {n:Int} {k:Int} (h:idE n=k) (hk:k≠0):∀ W,Calls Tryz.prog 13 #[.int .i64 n] W (NoM W k):=fun W=>by
 have:=xO n W;rw [h] at this;exact this.mono fun _ _=>QK hk
theorem SC {l:List Fr} {R:List (List Fr)} (h:Ic l=0) (h2:kT l=R):∀ x W,gX W 59 x l→Calls Tryz.prog 18 #[x] W (OH W R):=fun x W h3=>by
 have:=xP x l _ W h3;rw [h,h2] at this;exact this.mono fun _ _=>yE
theorem WC {A:List (List Fr)} {l R:List Fr} (h:WH A l=0) (h2:at7 A l=R):∀ x y W,aN W x A→gX W 59 y l→oO.Pow W→Calls Tryz.prog 29 #[x,y] W (aD5 W R):=fun x y W h3 h4 h5=>by
 have:=Uf x y A l _ W h3 h4 h5;rw [h,h2] at this;refine this.mono ?_;rintro e w' ⟨hb,v,h6,h7, -⟩;obtain ⟨a,c,rfl, -⟩:=(h7 rfl).read;exact ⟨a,c,h6,hb,h7 rfl⟩
theorem ab6 {A:List (List Fr)} {l:List Fr} {k:Int} (h:WH A l=k) (hk:k≠0):∀ x y W,aN W x A→gX W 59 y l→oO.Pow W→Calls Tryz.prog 29 #[x,y] W (NoM W k):=fun x y W h3 h4 h5=>by
 have:=Uf x y A l _ W h3 h4 h5;rw [h] at this;refine this.mono ?_;rintro e w' ⟨hb,v,h6, -, h7⟩;rw [h7 hk] at h6;exact ⟨h6,hb⟩
theorem Ta {A:List (List Fr)} {k:Int} (h:gZ A=k):∀ x W,aN W x A→Calls Tryz.prog 23 #[x] W (fun e w'=>e= .returned (.int .i64 k)∧Below W.heap.size W w'):=fun x W h3=>by
 have:=dw x A W h3
 rwa [h] at this
theorem ak9 {s x y:ByteArray} (e:jf s=⟨x,y⟩) (ht:[s].all UM=true):∀ v W,Strs W v [s]→Calls Tryz.prog 48 #[v] W (fun e w'=>∃ b off c,e= .returned (.slice (some ⟨b,off,none⟩) 1 c)∧Below W.heap.size W w'∧b<w'.heap.size∧w'.cell? ⟨b,off,none⟩=some (.string x)∧w'.cell? ⟨b,off+1,none⟩=some (.string y)):=fun v W h =>
 (Y8 v [s] W h zi (Jc ht)).mono fun en w' ⟨v',h1,h2,h3⟩=>by
  obtain ⟨a,c,rfl, -, -, hread⟩:=h3.read;obtain ⟨b,off,rfl,lb,x1,x2⟩:=hread 0 zi;simp only [List.map_cons,List.map_nil,List.getElem_cons_zero,e,Nat.zero_mul,Nat.add_zero] at x1 x2;exact ⟨b,off,c,h1,h2,lb,x1,x2⟩
theorem Bu (a1 a2:ByteArray) (w:World):(binOp .eql 59 (.agg #[.string a1,.string a2]) (.agg #[.string a1,.string a2])).run Tryz.prog w= .ok (.bool true) w:=by go_simp
theorem xR (a1 a2:Int) (w:World):(binOp .eql 69 (.agg #[.int .i64 a1,.int .i64 a2]) (.agg #[.int .i64 a1,.int .i64 a2])).run Tryz.prog w= .ok (.bool true) w:=by go_simp
theorem WA {w:World} {T:TypeId} {v:Value} {x y:Int} (h:jZ w T v [(x,y)]):∃ b o c,v= .slice (some ⟨b,o,none⟩) 1 c∧b<w.heap.size∧w.cell? ⟨b,o,none⟩=some (.int .i64 x)∧w.cell? ⟨b,o+1,none⟩=some (.int .i64 y):=by
 obtain ⟨a,c,rfl, -, -, hr⟩:=h.read;obtain ⟨b,o,rfl,lb,h1,h2⟩:=hr 0 zi;exact ⟨b,o,c,rfl,lb,h1,h2⟩
theorem Vu {P:Program} {ops:Array Oper} {mk:Nat→Nat→Value} {is:List (K × Nat)} {L:List (Array Value × TypeId × Nat)} (h:is.filterMap (fun x=>match x.1 with| .alloc cs T=>some (cs,T,x.2)| _=>none)=L)
  (hL:∀ x∈L,∀ o,ops[x.2.2]? =some o→∀ (a:Act) w,(execOp a.eval o).run P w= .ok (.value (mk x.2.2 w.heap.size)) (w.alloc (.cells x.1 x.2.1 (0,0)))):Ba P ops mk is:=fun cs T j hj o ho a w=>by
 have:(cs,T,j)∈L:=by
  rw [← h];exact List.mem_filterMap.2 ⟨_,hj,rfl⟩
 exact hL _ this o ho a w
end Go.Proofs.verdigrislaw05
namespace Go.Proofs.verdigrislaw05
open Go Go.RowKit Go.SW Go.Num Go.Mem Go.Proofs Go.Dec Go.cK Go.Proofs.matrix Go.Proofs.dJ
def XF (i:Nat):Nat:=if i == 3 || i == 28 || i == 36 || i == 38 || i == 40 then 1 else if i == 44 then 3 else if false then 4 else 2
def am7 (i b:Nat):Value:=.slice (some ⟨b,0,none⟩) (XF i) (XF i)
theorem PD (w:World) (ht:oO.Pow w) (he:whole.Er w):Calls Tryz.prog 12 #[] w (fun e w'=>e= .returned (.bool true)∧Below w.heap.size w w'):=by
 have HP:=zh ht;have HE:=zh he;have HB:=zh (Below.refl w.heap.size w);clear ht he;obtain ⟨q0,E0⟩:∃ y,Hid (([⟨#[49]⟩,⟨#[50]⟩]:List ByteArray).map jf=y):=⟨_,zh rfl⟩;have Q0:=zh (gQ E0.out zd (by decide+kernel));obtain ⟨q1,E1⟩:∃ y,Hid (([⟨#[51]⟩,⟨#[52]⟩]:List ByteArray).map jf=y):=⟨_,zh rfl⟩;have Q1:=zh (gQ E1.out zd (by decide+kernel));obtain ⟨q2,E2⟩:∃ y,Hid (([⟨#[50]⟩,⟨#[49]⟩]:List ByteArray).map jf=y):=⟨_,zh rfl⟩;have Q2:=zh (gQ E2.out zd (by decide+kernel));obtain ⟨q3,E3⟩:∃ y,Hid (([⟨#[52]⟩,⟨#[51]⟩]:List ByteArray).map jf=y):=⟨_,zh rfl⟩;have Q3:=zh (gQ E3.out zd (by decide+kernel));obtain ⟨q4,E4⟩:∃ y,Hid (([⟨#[48]⟩,⟨#[49]⟩]:List ByteArray).map jf=y):=⟨_,zh rfl⟩;have Q4:=zh (gQ E4.out zd (by decide+kernel));obtain ⟨q5,E5⟩:∃ y,Hid (([⟨#[49]⟩,⟨#[48]⟩]:List ByteArray).map jf=y):=⟨_,zh rfl⟩;have Q5:=zh (gQ E5.out zd (by decide+kernel))
 have C0:=zh (Vr (A:=[q0,q1]) (B:=[q4,q5]) (R:=[q2,q3]) (by rw [← E0.out,← E1.out,← E4.out,← E5.out];decide+kernel) (by rw [← E0.out,← E1.out,← E2.out,← E3.out,← E4.out,← E5.out];decide+kernel));have C1:=zh (Zl (A:=[q0]) (B:=[q0]) (k:=2) (by rw [← E0.out];decide+kernel) zd);obtain ⟨q6,E6⟩:∃ y,Hid (([⟨#[45,50]⟩,⟨#[49]⟩]:List ByteArray).map jf=y):=⟨_,zh rfl⟩;have Q6:=zh (gQ E6.out zd (by decide+kernel));obtain ⟨q7,E7⟩:∃ y,Hid (([⟨#[51,47,50]⟩,⟨#[45,49,47,50]⟩]:List ByteArray).map jf=y):=⟨_,zh rfl⟩;have Q7:=zh (gQ E7.out zd (by decide+kernel));have C2:=zh (Vz (A:=[q0,q1]) (R:=[q6,q7]) (by rw [← E0.out,← E1.out];decide+kernel) (by rw [← E0.out,← E1.out,← E6.out,← E7.out];decide+kernel));obtain ⟨q8,E8⟩:∃ y,Hid (([⟨#[50]⟩,⟨#[52]⟩]:List ByteArray).map jf=y):=⟨_,zh rfl⟩;have Q8:=zh (gQ E8.out zd (by decide+kernel))
 have C3:=zh (Zx (A:=[q0,q8]) (k:=7) (by rw [← E0.out,← E8.out];decide+kernel) zd);have C4:=zh (aa5 (A:=[q0,q1]) (x:=⟨#[45,50]⟩) (y:=⟨#[49]⟩) (k:=0) (by rw [← E0.out,← E1.out];decide+kernel));have C5:=zh (ak9 (s:=⟨#[45,50]⟩) (x:=⟨#[45,50]⟩) (y:=⟨#[49]⟩) (by decide+kernel) (by decide+kernel));obtain ⟨q9,E9⟩:∃ y,Hid (([⟨#[49,47,50]⟩,⟨#[49,47,51]⟩]:List ByteArray).map jf=y):=⟨_,zh rfl⟩;have Q9:=zh (gQ E9.out zd (by decide+kernel));obtain ⟨q10,E10⟩:∃ y,Hid (([⟨#[55,47,54]⟩,⟨#[49,55,47,54]⟩]:List ByteArray).map jf=y):=⟨_,zh rfl⟩;have Q10:=zh (gQ E10.out zd (by decide+kernel));have C6:=zh (WC (A:=[q0,q1]) (l:=q9) (R:=q10) (by rw [← E0.out,← E1.out,← E9.out];decide+kernel) (by rw [← E0.out,← E1.out,← E9.out,← E10.out];decide+kernel));obtain ⟨Y9,E11⟩:∃ y,Hid (([⟨#[49]⟩]:List ByteArray).map jf=y):=⟨_,zh rfl⟩;have Q11:=zh (gQ E11.out zd (by decide+kernel))
 have C7:=zh (ab6 (A:=[q0]) (l:=Y9) (k:=2) (by rw [← E0.out,← E11.out];decide+kernel) zd);obtain ⟨q12,E12⟩:∃ y,Hid (([⟨#[50]⟩]:List ByteArray).map jf=y):=⟨_,zh rfl⟩;have Q12:=zh (gQ E12.out zd (by decide+kernel));obtain ⟨q13,E13⟩:∃ y,Hid (([⟨#[51]⟩]:List ByteArray).map jf=y):=⟨_,zh rfl⟩;have Q13:=zh (gQ E13.out zd (by decide+kernel));obtain ⟨q14,E14⟩:∃ y,Hid (([⟨#[49]⟩,⟨#[50]⟩,⟨#[51]⟩]:List ByteArray).map jf=y):=⟨_,zh rfl⟩;have Q14:=zh (gQ E14.out zd (by decide+kernel));have C8:=zh (M0 (A:=[q14]) (R:=[Y9,q12,q13]) (by rw [← E14.out];decide+kernel) (by rw [← E11.out,← E12.out,← E13.out,← E14.out];decide+kernel));have C9:=zh (ZC (n:=2) (R:=[q5,q4]) (by decide+kernel) (by rw [← E4.out,← E5.out];decide+kernel));have C10:=zh (an2 (n:=5) (k:=2) (by decide+kernel) zd);obtain ⟨q15,E15⟩:∃ y,Hid (([⟨#[50]⟩,⟨#[48]⟩]:List ByteArray).map jf=y):=⟨_,zh rfl⟩
 have Q15:=zh (gQ E15.out zd (by decide+kernel));obtain ⟨q16,E16⟩:∃ y,Hid (([⟨#[48]⟩,⟨#[51]⟩]:List ByteArray).map jf=y):=⟨_,zh rfl⟩;have Q16:=zh (gQ E16.out zd (by decide+kernel));obtain ⟨q17,E17⟩:∃ y,Hid (([⟨#[50]⟩,⟨#[51]⟩]:List ByteArray).map jf=y):=⟨_,zh rfl⟩;have Q17:=zh (gQ E17.out zd (by decide+kernel));have C11:=zh (SC (l:=q17) (R:=[q15,q16]) (by rw [← E17.out];decide+kernel) (by rw [← E15.out,← E16.out,← E17.out];decide+kernel));obtain ⟨q18,E18⟩:∃ y,Hid (([⟨#[49,47,51]⟩,⟨#[49]⟩]:List ByteArray).map jf=y):=⟨_,zh rfl⟩;have Q18:=zh (gQ E18.out zd (by decide+kernel));have C12:=zh (Tw (m:=[q18]) (l:=[(1000000000000,1000000000000),(0,0)]) (r:=([(333333333333,333333333334)],0)) (by rw [← E18.out];decide+kernel) zi);have C13:=zh (Ta (A:=[]) (k:=50) (by decide+kernel))
 have C14:=zh (Ta (A:=[Y9,q0]) (k:=50) (by rw [← E0.out,← E11.out];decide+kernel));clear E0 E1 E2 E3 E4 E5 E6 E7 E8 E9 E11 E12 E13 E14 E15 E16 E17 E18;go_enter Tryz.func12,Tryz.ntmps12
 go_wp2_with fail
 obtain ⟨z1,EW,h,Z0⟩:=oz w #[.string ⟨#[49]⟩,.string ⟨#[50]⟩] 9;rw [EW];clear EW;obtain ⟨b1,eb⟩:∃ y,w.heap.size=y:=⟨_,rfl⟩;rw [eb] at Z0 ⊢;clear eb;replace HB:=zh (Bt HB.out h);have F1:=zh (dF Z0.out);clear h Z0;refine (Q0.out _ _ F1.out).mono ?_;rintro e u3 ⟨a2,c2,rfl,h,hf⟩;clear F1;replace HB:=zh (Bt HB.out h);have F2:=zh hf;clear hf;clear h;go_wp2_with fail
 obtain ⟨z4,EW,h,Z0⟩:=oz u3 #[.string ⟨#[51]⟩,.string ⟨#[52]⟩] 9;rw [EW];clear EW;obtain ⟨b4,eb⟩:∃ y,u3.heap.size=y:=⟨_,rfl⟩;rw [eb] at Z0 ⊢;clear eb;replace F2:=zh (F2.out.later h);replace HB:=zh (Bt HB.out h);have F3:=zh (dF Z0.out);clear h Z0;refine (Q1.out _ _ F3.out).mono ?_;rintro e u6 ⟨a5,c5,rfl,h,hf⟩;clear F3;replace F2:=zh (F2.out.later h);replace HB:=zh (Bt HB.out h);have F4:=zh hf;clear hf;clear h;go_wp2_with fail
 obtain ⟨z7,EW,h,Z0,Z1⟩:=yB u6 #[.slice a2 q0.length c2,.slice a5 q1.length c5] 29 #[.string ⟨#[50]⟩,.string ⟨#[49]⟩] 9;rw [EW];clear EW;obtain ⟨b7,eb⟩:∃ y,u6.heap.size=y:=⟨_,rfl⟩;rw [eb] at Z0 Z1 ⊢;clear eb;replace F2:=zh (F2.out.later h);replace F4:=zh (F4.out.later h);replace HB:=zh (Bt HB.out h);have F5:=zh (nR Z0.out F2.out F4.out);have F6:=zh (dF Z1.out);clear h Z0 Z1;refine (Q2.out _ _ F6.out).mono ?_;rintro e u9 ⟨a8,c8,rfl,h,hf⟩;clear F2 F4 F6;replace F5:=zh (F5.out.later h);replace HB:=zh (Bt HB.out h);have F7:=zh hf;clear hf;clear h;go_wp2_with fail
 obtain ⟨z10,EW,h,Z0⟩:=oz u9 #[.string ⟨#[52]⟩,.string ⟨#[51]⟩] 9;rw [EW];clear EW;obtain ⟨b10,eb⟩:∃ y,u9.heap.size=y:=⟨_,rfl⟩;rw [eb] at Z0 ⊢;clear eb;replace F5:=zh (F5.out.later h);replace F7:=zh (F7.out.later h);replace HB:=zh (Bt HB.out h);have F8:=zh (dF Z0.out);clear h Z0;refine (Q3.out _ _ F8.out).mono ?_;rintro e u12 ⟨a11,c11,rfl,h,hf⟩;clear F8;replace F5:=zh (F5.out.later h);replace F7:=zh (F7.out.later h);replace HB:=zh (Bt HB.out h);have F9:=zh hf;clear hf;clear h;go_wp2_with fail
 obtain ⟨z13,EW,h,Z0⟩:=oz u12 #[.slice a8 q2.length c8,.slice a11 q3.length c11] 29;rw [EW];clear EW;obtain ⟨b13,eb⟩:∃ y,u12.heap.size=y:=⟨_,rfl⟩;rw [eb] at Z0 ⊢;clear eb;replace F5:=zh (F5.out.later h);replace F7:=zh (F7.out.later h);replace F9:=zh (F9.out.later h);replace HB:=zh (Bt HB.out h);have F10:=zh (nR Z0.out F7.out F9.out);clear h Z0;refine (GU _ [q2,q3] _ F10.out).mono ?_;rintro e u15 ⟨⟨_,rfl,a14,v14,rfl,ha,hv⟩,h⟩;clear F7 F9 F10;replace F5:=zh (F5.out.later h);replace HB:=zh (Bt HB.out h);have MK:=zh ha;have MJ:=zh hv;clear ha hv;clear h;go_wp2_with fail
 obtain ⟨z16,EW,h,Z0⟩:=oz u15 #[.string ⟨#[48]⟩,.string ⟨#[49]⟩] 9;rw [EW];clear EW;obtain ⟨b16,eb⟩:∃ y,u15.heap.size=y:=⟨_,rfl⟩;rw [eb] at Z0 ⊢;clear eb;replace F5:=zh (F5.out.later h);replace MK:=zh (MK.out.later h);replace MJ:=zh (MJ.out.later h);replace HB:=zh (Bt HB.out h);have F13:=zh (dF Z0.out);clear h Z0;refine (Q4.out _ _ F13.out).mono ?_;rintro e u18 ⟨a17,c17,rfl,h,hf⟩;clear F13;replace F5:=zh (F5.out.later h);replace MK:=zh (MK.out.later h);replace MJ:=zh (MJ.out.later h);replace HB:=zh (Bt HB.out h);have Yy:=zh hf;clear hf;clear h;go_wp2_with fail
 obtain ⟨z19,EW,h,Z0⟩:=oz u18 #[.string ⟨#[49]⟩,.string ⟨#[48]⟩] 9;rw [EW];clear EW;obtain ⟨b19,eb⟩:∃ y,u18.heap.size=y:=⟨_,rfl⟩;rw [eb] at Z0 ⊢;clear eb;replace F5:=zh (F5.out.later h);replace MK:=zh (MK.out.later h);replace MJ:=zh (MJ.out.later h);replace Yy:=zh (Yy.out.later h);replace HB:=zh (Bt HB.out h);have F15:=zh (dF Z0.out);clear h Z0;refine (Q5.out _ _ F15.out).mono ?_;rintro e u21 ⟨a20,c20,rfl,h,hf⟩;clear F15;replace F5:=zh (F5.out.later h);replace MK:=zh (MK.out.later h);replace MJ:=zh (MJ.out.later h);replace Yy:=zh (Yy.out.later h);replace HB:=zh (Bt HB.out h);have F16:=zh hf;clear hf;clear h;go_wp2_with fail
 obtain ⟨z22,EW,h,Z0⟩:=oz u21 #[.slice a17 q4.length c17,.slice a20 q5.length c20] 29;rw [EW];clear EW;obtain ⟨b22,eb⟩:∃ y,u21.heap.size=y:=⟨_,rfl⟩;rw [eb] at Z0 ⊢;clear eb;replace F5:=zh (F5.out.later h);replace MK:=zh (MK.out.later h);replace MJ:=zh (MJ.out.later h);replace Yy:=zh (Yy.out.later h);replace F16:=zh (F16.out.later h);replace HB:=zh (Bt HB.out h);have F17:=zh (nR Z0.out Yy.out F16.out);clear h Z0;refine (C0.out _ _ _ F5.out F17.out (HP.out.later HB.out)).mono ?_;rintro e u24 ⟨aJ2,aH6,rfl,h,hf⟩;clear Yy F16 F17;replace F5:=zh (F5.out.later h);replace MK:=zh (MK.out.later h);replace MJ:=zh (MJ.out.later h);replace HB:=zh (Bt HB.out h);have F18:=zh hf;clear hf;clear h;go_wp2_with fail
 refine (zJ _ [q2,q3] a14 v14 _ F18.out MK.out MJ.out).mono ?_;rintro e u25 ⟨rfl,h⟩;clear MK MJ F18;replace F5:=zh (F5.out.later h);replace HB:=zh (Bt HB.out h);clear h;go_wp2_with fail
 refine (Aq 2 _).mono ?_;rintro e u27 ⟨⟨_,rfl,a26,rfl,ha⟩,h⟩;replace F5:=zh (F5.out.later h);replace HB:=zh (Bt HB.out h);have MI:=zh ha;clear ha;clear h;go_wp2_with fail
 obtain ⟨z28,EW,h,Z0⟩:=oz u27 #[.string ⟨#[49]⟩,.string ⟨#[50]⟩] 9;rw [EW];clear EW;obtain ⟨b28,eb⟩:∃ y,u27.heap.size=y:=⟨_,rfl⟩;rw [eb] at Z0 ⊢;clear eb;replace F5:=zh (F5.out.later h);replace MI:=zh (MI.out.later h);replace HB:=zh (Bt HB.out h);have F20:=zh (dF Z0.out);clear h Z0;refine (Q0.out _ _ F20.out).mono ?_;rintro e u30 ⟨a29,c29,rfl,h,hf⟩;clear F20;replace F5:=zh (F5.out.later h);replace MI:=zh (MI.out.later h);replace HB:=zh (Bt HB.out h);have F21:=zh hf;clear hf;clear h;go_wp2_with fail
 obtain ⟨z31,EW,h,Z0,Z1⟩:=yB u30 #[.slice a29 q0.length c29] 29 #[.string ⟨#[49]⟩,.string ⟨#[50]⟩] 9;rw [EW];clear EW;obtain ⟨b31,eb⟩:∃ y,u30.heap.size=y:=⟨_,rfl⟩;rw [eb] at Z0 Z1 ⊢;clear eb;replace F5:=zh (F5.out.later h);replace MI:=zh (MI.out.later h);replace F21:=zh (F21.out.later h);replace HB:=zh (Bt HB.out h);have F22:=zh (yt Z0.out F21.out);have F23:=zh (dF Z1.out);clear h Z0 Z1;refine (Q0.out _ _ F23.out).mono ?_;rintro e u33 ⟨a32,c32,rfl,h,hf⟩;clear F21 F23;replace F5:=zh (F5.out.later h);replace MI:=zh (MI.out.later h);replace F22:=zh (F22.out.later h);replace HB:=zh (Bt HB.out h);have F24:=zh hf;clear hf;clear h;go_wp2_with fail
 obtain ⟨z34,EW,h,Z0⟩:=oz u33 #[.slice a32 q0.length c32] 29;rw [EW];clear EW;obtain ⟨b34,eb⟩:∃ y,u33.heap.size=y:=⟨_,rfl⟩;rw [eb] at Z0 ⊢;clear eb;replace F5:=zh (F5.out.later h);replace MI:=zh (MI.out.later h);replace F22:=zh (F22.out.later h);replace F24:=zh (F24.out.later h);replace HB:=zh (Bt HB.out h);have F25:=zh (yt Z0.out F24.out);clear h Z0;refine (C1.out _ _ _ F22.out F25.out (HP.out.later HB.out)).mono ?_;rintro e u36 ⟨rfl,h⟩;clear F22 F24 F25;replace F5:=zh (F5.out.later h);replace MI:=zh (MI.out.later h);replace HB:=zh (Bt HB.out h);clear h;go_wp2_with fail
 refine (wJ 2 a26 _ MI.out).mono ?_;rintro e u37 ⟨rfl,h⟩;clear MI;replace F5:=zh (F5.out.later h);replace HB:=zh (Bt HB.out h);clear h;go_wp2_with fail
 obtain ⟨z38,EW,h,Z0⟩:=oz u37 #[.string ⟨#[45,50]⟩,.string ⟨#[49]⟩] 9;rw [EW];clear EW;obtain ⟨b38,eb⟩:∃ y,u37.heap.size=y:=⟨_,rfl⟩;rw [eb] at Z0 ⊢;clear eb;replace F5:=zh (F5.out.later h);replace HB:=zh (Bt HB.out h);have F26:=zh (dF Z0.out);clear h Z0;refine (Q6.out _ _ F26.out).mono ?_;rintro e u40 ⟨a39,c39,rfl,h,hf⟩;clear F26;replace F5:=zh (F5.out.later h);replace HB:=zh (Bt HB.out h);have F27:=zh hf;clear hf;clear h;go_wp2_with fail
 obtain ⟨z41,EW,h,Z0⟩:=oz u40 #[.string ⟨#[51,47,50]⟩,.string ⟨#[45,49,47,50]⟩] 9;rw [EW];clear EW;obtain ⟨b41,eb⟩:∃ y,u40.heap.size=y:=⟨_,rfl⟩;rw [eb] at Z0 ⊢;clear eb;replace F5:=zh (F5.out.later h);replace F27:=zh (F27.out.later h);replace HB:=zh (Bt HB.out h);have F28:=zh (dF Z0.out);clear h Z0;refine (Q7.out _ _ F28.out).mono ?_;rintro e u43 ⟨a42,c42,rfl,h,hf⟩;clear F28;replace F5:=zh (F5.out.later h);replace F27:=zh (F27.out.later h);replace HB:=zh (Bt HB.out h);have F29:=zh hf;clear hf;clear h;go_wp2_with fail
 obtain ⟨z44,EW,h,Z0⟩:=oz u43 #[.slice a39 q6.length c39,.slice a42 q7.length c42] 29;rw [EW];clear EW;obtain ⟨b44,eb⟩:∃ y,u43.heap.size=y:=⟨_,rfl⟩;rw [eb] at Z0 ⊢;clear eb;replace F5:=zh (F5.out.later h);replace F27:=zh (F27.out.later h);replace F29:=zh (F29.out.later h);replace HB:=zh (Bt HB.out h);have F30:=zh (nR Z0.out F27.out F29.out);clear h Z0;refine (GU _ [q6,q7] _ F30.out).mono ?_;rintro e u46 ⟨⟨_,rfl,a45,v45,rfl,ha,hv⟩,h⟩;clear F27 F29 F30;replace F5:=zh (F5.out.later h);replace HB:=zh (Bt HB.out h);have F31:=zh ha;have F32:=zh hv;clear ha hv;clear h;go_wp2_with fail
 refine (C2.out _ _ F5.out (HP.out.later HB.out)).mono ?_;rintro e u48 ⟨aJ1,aH5,rfl,h,hf⟩;replace F5:=zh (F5.out.later h);replace F31:=zh (F31.out.later h);replace F32:=zh (F32.out.later h);replace HB:=zh (Bt HB.out h);have F33:=zh hf;clear hf;clear h;go_wp2_with fail
 refine (zJ _ [q6,q7] a45 v45 _ F33.out F31.out F32.out).mono ?_;rintro e u49 ⟨rfl,h⟩;clear F31 F32 F33;replace F5:=zh (F5.out.later h);replace HB:=zh (Bt HB.out h);clear h;go_wp2_with fail
 refine (Aq 7 _).mono ?_;rintro e u51 ⟨⟨_,rfl,a50,rfl,ha⟩,h⟩;replace F5:=zh (F5.out.later h);replace HB:=zh (Bt HB.out h);have MH:=zh ha;clear ha;clear h;go_wp2_with fail
 obtain ⟨z52,EW,h,Z0⟩:=oz u51 #[.string ⟨#[49]⟩,.string ⟨#[50]⟩] 9;rw [EW];clear EW;obtain ⟨b52,eb⟩:∃ y,u51.heap.size=y:=⟨_,rfl⟩;rw [eb] at Z0 ⊢;clear eb;replace F5:=zh (F5.out.later h);replace MH:=zh (MH.out.later h);replace HB:=zh (Bt HB.out h);have F35:=zh (dF Z0.out);clear h Z0;refine (Q0.out _ _ F35.out).mono ?_;rintro e u54 ⟨a53,c53,rfl,h,hf⟩;clear F35;replace F5:=zh (F5.out.later h);replace MH:=zh (MH.out.later h);replace HB:=zh (Bt HB.out h);have Yx:=zh hf;clear hf;clear h;go_wp2_with fail
 obtain ⟨z55,EW,h,Z0⟩:=oz u54 #[.string ⟨#[50]⟩,.string ⟨#[52]⟩] 9;rw [EW];clear EW;obtain ⟨b55,eb⟩:∃ y,u54.heap.size=y:=⟨_,rfl⟩;rw [eb] at Z0 ⊢;clear eb;replace F5:=zh (F5.out.later h);replace MH:=zh (MH.out.later h);replace Yx:=zh (Yx.out.later h);replace HB:=zh (Bt HB.out h);have F37:=zh (dF Z0.out);clear h Z0;refine (Q8.out _ _ F37.out).mono ?_;rintro e u57 ⟨a56,c56,rfl,h,hf⟩;clear F37;replace F5:=zh (F5.out.later h);replace MH:=zh (MH.out.later h);replace Yx:=zh (Yx.out.later h);replace HB:=zh (Bt HB.out h);have F38:=zh hf;clear hf;clear h;go_wp2_with fail
 obtain ⟨z58,EW,h,Z0⟩:=oz u57 #[.slice a53 q0.length c53,.slice a56 q8.length c56] 29;rw [EW];clear EW;obtain ⟨b58,eb⟩:∃ y,u57.heap.size=y:=⟨_,rfl⟩;rw [eb] at Z0 ⊢;clear eb;replace F5:=zh (F5.out.later h);replace MH:=zh (MH.out.later h);replace Yx:=zh (Yx.out.later h);replace F38:=zh (F38.out.later h);replace HB:=zh (Bt HB.out h);have F39:=zh (nR Z0.out Yx.out F38.out);clear h Z0;refine (C3.out _ _ F39.out (HP.out.later HB.out)).mono ?_;rintro e u60 ⟨rfl,h⟩;clear Yx F38 F39;replace F5:=zh (F5.out.later h);replace MH:=zh (MH.out.later h);replace HB:=zh (Bt HB.out h);clear h;go_wp2_with fail
 refine (wJ 7 a50 _ MH.out).mono ?_;rintro e u61 ⟨rfl,h⟩;clear MH;replace F5:=zh (F5.out.later h);replace HB:=zh (Bt HB.out h);clear h;go_wp2_with fail
 refine (C4.out _ _ F5.out (HP.out.later HB.out)).mono ?_;rintro e u62 ⟨rfl,h⟩;replace F5:=zh (F5.out.later h);replace HB:=zh (Bt HB.out h);clear h;go_wp2_with fail
 obtain ⟨z63,EW,h,Z0⟩:=oz u62 #[.string ⟨#[45,50]⟩,.string ⟨#[49]⟩] 59;rw [EW];clear EW;obtain ⟨b63,eb⟩:∃ y,u62.heap.size=y:=⟨_,rfl⟩;rw [eb] at Z0 ⊢;clear eb;replace F5:=zh (F5.out.later h);replace HB:=zh (Bt HB.out h);have F40:=zh Z0.out;clear h Z0;have Xg:= @Bu
 refine xQ (mk:=am7) [(.pure,0),(.pure,1),(.read,2),(.alloc #[.string ⟨#[45,50]⟩] 9,3),(.ext,4),(.pure,5),(.read,6),(.pure,7),(.pure,8),(.pure,9),(.pure,10),(.pure,11),(.pure,12),(.pure,13),(.pure,16),(.alloc #[.string ⟨#[55,47,54]⟩,.string ⟨#[49,55,47,54]⟩] 9,14),(.ext,15),(.alloc #[.string ⟨#[49,47,50]⟩,.string ⟨#[49,47,51]⟩] 9,17),(.ext,18),(.ext,19),(.pure,20),(.pure,21),(.ext,22),(.pure,23),(.pure,24),(.pure,26),(.pure,27),(.ext,25),(.alloc #[.string ⟨#[49]⟩] 9,28),(.ext,29),(.ext,30),(.pure,31),(.pure,32),(.ext,33),(.pure,34),(.pure,35),(.alloc #[.string ⟨#[49]⟩] 9,36),(.ext,37),(.alloc #[.string ⟨#[50]⟩] 9,38),(.ext,39),(.alloc #[.string ⟨#[51]⟩] 9,40),(.ext,41),(.ext,42),(.ext,43),(.alloc #[.string ⟨#[49]⟩,.string ⟨#[50]⟩,.string ⟨#[51]⟩] 9,44),(.ext,45),(.ext,46),(.ext,47),(.pure,48),(.pure,49),(.ext,50),(.pure,51),(.pure,52),(.alloc #[.string ⟨#[49]⟩,.string ⟨#[48]⟩] 9,53),(.ext,54),(.alloc #[.string ⟨#[48]⟩,.string ⟨#[49]⟩] 9,55),(.ext,56),(.ext,57),(.ext,58),(.ext,59),(.pure,60),(.pure,61),(.ext,62),(.pure,63),(.pure,64),(.ext,65),(.ext,66),(.pure,67),(.pure,68),(.ext,69),(.pure,70),(.pure,71),(.alloc #[.string ⟨#[50]⟩,.string ⟨#[48]⟩] 9,72),(.ext,73),(.alloc #[.string ⟨#[48]⟩,.string ⟨#[51]⟩] 9,74),(.ext,75),(.ext,76),(.ext,77),(.alloc #[.string ⟨#[50]⟩,.string ⟨#[51]⟩] 9,78),(.ext,79),(.ext,80),(.pure,81),(.pure,82),(.ext,83),(.pure,84),(.fin,85)] zk zk (Vu (L:=[(#[.string ⟨#[45,50]⟩],9,3),(#[.string ⟨#[55,47,54]⟩,.string ⟨#[49,55,47,54]⟩],9,14),(#[.string ⟨#[49,47,50]⟩,.string ⟨#[49,47,51]⟩],9,17),(#[.string ⟨#[49]⟩],9,28),(#[.string ⟨#[49]⟩],9,36),(#[.string ⟨#[50]⟩],9,38),(#[.string ⟨#[51]⟩],9,40),(#[.string ⟨#[49]⟩,.string ⟨#[50]⟩,.string ⟨#[51]⟩],9,44),(#[.string ⟨#[49]⟩,.string ⟨#[48]⟩],9,53),(#[.string ⟨#[48]⟩,.string ⟨#[49]⟩],9,55),(#[.string ⟨#[50]⟩,.string ⟨#[48]⟩],9,72),(#[.string ⟨#[48]⟩,.string ⟨#[51]⟩],9,74),(#[.string ⟨#[50]⟩,.string ⟨#[51]⟩],9,78)]) (by rfl) (by simp only [List.forall_mem_cons,List.not_mem_nil,false_implies,implies_true,and_true];refine ⟨?_,?_,?_,?_,?_,?_,?_,?_,?_,?_,?_,?_,?_⟩<;>(intro o ho a w;obtain rfl:=Option.some.inj ho;go_simp;rfl))) zP (Wm.out (?_:Wm _ _ _ _ _ _ _ _ _))
 have aC3:=F40.out.cell;have ay4:=F40.out.lt;refine zT ?_;clear aC3 ay4;refine iT rfl rfl (fun b64 u64 hbe hN hb1 hA hblk J hJ=>?_);go_simp;have hy:Below z63.heap.size z63 u64:=ah;refine hJ _ _ rfl ?_;clear hJ J hbe hN hb1 hA;clear F40;replace F5:=zh (F5.out.later hy);replace HB:=zh (Bt HB.out hy);have F41:=zh (oF hblk);clear hblk hy;refine zT ?_;refine dA rfl rfl (fun we hbe J hJ=>?_);go_simp;have hx:Below u64.heap.size u64 we:=ah;have dW:=zh (Bt HB.out hx);refine (C5.out _ _ (F41.out.later hx)).mono ?_;rintro e u66 ⟨b65,o65,c65,rfl,h,lb,x1,x2⟩;have hy:=Bt hx h;refine hJ _ _ h ?_;clear hJ J hbe hx h dW;clear F41;replace F5:=zh (F5.out.later hy);replace HB:=zh (Bt HB.out hy);clear hy;refine zT ?_;clear x1 x2 lb;refine iT rfl rfl (fun b67 u67 hbe hN hb1 hA hblk J hJ=>?_);go_simp;have hy:Below u66.heap.size u66 u67:=ah;refine hJ _ _ rfl ?_
 clear hJ J hbe hN hb1 hA;replace F5:=zh (F5.out.later hy);replace HB:=zh (Bt HB.out hy);have F42:=zh (dF hblk);clear hblk hy;refine zT ?_;refine dA rfl rfl (fun we hbe J hJ=>?_);go_simp;have hx:Below u67.heap.size u67 we:=ah;have dW:=zh (Bt HB.out hx);refine (Rc _ [⟨#[55,47,54]⟩,⟨#[49,55,47,54]⟩] _ (F42.out.later hx)).mono ?_;rintro e u69 ⟨⟨_,rfl,a68,v68,rfl,ha,hv⟩,h⟩;have hy:=Bt hx h;refine hJ _ _ h ?_;clear hJ J hbe hx h dW;clear F42;replace F5:=zh (F5.out.later hy);replace HB:=zh (Bt HB.out hy);have Yw:=zh ha;have Yv:=zh hv;clear ha hv;clear hy;refine zT ?_;refine iT rfl rfl (fun b70 u70 hbe hN hb1 hA hblk J hJ=>?_);go_simp;have hy:Below u69.heap.size u69 u70:=ah;refine hJ _ _ rfl ?_;clear hJ J hbe hN hb1 hA;replace F5:=zh (F5.out.later hy);replace Yw:=zh (Yw.out.later hy);replace Yv:=zh (Yv.out.later hy);replace HB:=zh (Bt HB.out hy)
 have F45:=zh (dF hblk);clear hblk hy;refine zT ?_;refine dA rfl rfl (fun we hbe J hJ=>?_);go_simp;have hx:Below u70.heap.size u70 we:=ah;have dW:=zh (Bt HB.out hx);refine (Q9.out _ _ (F45.out.later hx)).mono ?_;rintro e u72 ⟨a71,c71,rfl,h,hf⟩;have hy:=Bt hx h;refine hJ _ _ h ?_;clear hJ J hbe hx h dW;clear F45;replace F5:=zh (F5.out.later hy);replace Yw:=zh (Yw.out.later hy);replace Yv:=zh (Yv.out.later hy);replace HB:=zh (Bt HB.out hy);have F46:=zh hf;clear hf;clear hy;refine zT ?_;refine dA rfl rfl (fun we hbe J hJ=>?_);go_simp;have hx:Below u72.heap.size u72 we:=ah;have dW:=zh (Bt HB.out hx);refine (C6.out _ _ _ (F5.out.later hx) (F46.out.later hx) (HP.out.later dW.out)).mono ?_;rintro e u74 ⟨aJ0,aH4,rfl,h,hf⟩;have hy:=Bt hx h;refine hJ _ _ h ?_;clear hJ J hbe hx h dW;clear F46;replace F5:=zh (F5.out.later hy);replace Yw:=zh (Yw.out.later hy)
 replace Yv:=zh (Yv.out.later hy);replace HB:=zh (Bt HB.out hy);have F47:=zh hf;clear hf;clear hy;refine zT ?_;refine dA rfl rfl (fun we hbe J hJ=>?_);go_simp;have hx:Below u74.heap.size u74 we:=ah;have dW:=zh (Bt HB.out hx);refine (NZ _ [⟨#[55,47,54]⟩,⟨#[49,55,47,54]⟩] a68 v68 _ (by rw [E10.out];exact (F47.out.later hx)) (Yw.out.later hx) (Yv.out.later hx) zd (Jc (by decide+kernel))).mono ?_;rintro e u75 ⟨rfl,h⟩;have hy:=Bt hx h;refine hJ _ _ h ?_;clear hJ J hbe hx h dW;clear Yw Yv F47;replace F5:=zh (F5.out.later hy);replace HB:=zh (Bt HB.out hy);clear hy;have Yu:=zh (QW 1 F5.out zd);refine zT ?_;refine dA rfl rfl (fun we hbe J hJ=>?_);go_simp;have hx:Below u75.heap.size u75 we:=ah;have dW:=zh (Bt HB.out hx);refine (Vm 2 _).mono ?_;rintro e u77 ⟨⟨_,rfl,a76,rfl,ha⟩,h⟩;have hy:=Bt hx h;refine hJ _ _ h ?_;clear hJ J hbe hx h dW;clear F5
 replace Yu:=zh (Yu.out.later hy);replace HB:=zh (Bt HB.out hy);have Yt:=zh ha;clear ha;clear hy;refine zT ?_;refine iT rfl rfl (fun b78 u78 hbe hN hb1 hA hblk J hJ=>?_);go_simp;have hy:Below u77.heap.size u77 u78:=ah;refine hJ _ _ rfl ?_;clear hJ J hbe hN hb1 hA;replace Yu:=zh (Yu.out.later hy);replace Yt:=zh (Yt.out.later hy);replace HB:=zh (Bt HB.out hy);have F50:=zh (oF hblk);clear hblk hy;refine zT ?_;refine dA rfl rfl (fun we hbe J hJ=>?_);go_simp;have hx:Below u78.heap.size u78 we:=ah;have dW:=zh (Bt HB.out hx);refine (Q11.out _ _ (F50.out.later hx)).mono ?_;rintro e u80 ⟨a79,c79,rfl,h,hf⟩;have hy:=Bt hx h;refine hJ _ _ h ?_;clear hJ J hbe hx h dW;clear F50;replace Yu:=zh (Yu.out.later hy);replace Yt:=zh (Yt.out.later hy);replace HB:=zh (Bt HB.out hy);have F51:=zh hf;clear hf;clear hy;refine zT ?_;refine dA rfl rfl (fun we hbe J hJ=>?_);go_simp
 have hx:Below u80.heap.size u80 we:=ah;have dW:=zh (Bt HB.out hx);refine (C7.out _ _ _ (Yu.out.later hx) (F51.out.later hx) (HP.out.later dW.out)).mono ?_;rintro e u82 ⟨rfl,h⟩;have hy:=Bt hx h;refine hJ _ _ h ?_;clear hJ J hbe hx h dW;clear Yu F51;replace Yt:=zh (Yt.out.later hy);replace HB:=zh (Bt HB.out hy);clear hy;refine zT ?_;refine dA rfl rfl (fun we hbe J hJ=>?_);go_simp;have hx:Below u82.heap.size u82 we:=ah;have dW:=zh (Bt HB.out hx);refine (QJ 2 a76 _ (Yt.out.later hx)).mono ?_;rintro e u83 ⟨rfl,h⟩;have hy:=Bt hx h;refine hJ _ _ h ?_;clear hJ J hbe hx h dW;clear Yt;replace HB:=zh (Bt HB.out hy);clear hy;refine zT ?_;refine iT rfl rfl (fun b84 u84 hbe hN hb1 hA hblk J hJ=>?_);go_simp;have hy:Below u83.heap.size u83 u84:=ah;refine hJ _ _ rfl ?_;clear hJ J hbe hN hb1 hA;replace HB:=zh (Bt HB.out hy);have F52:=zh (oF hblk);clear hblk hy
 refine zT ?_;refine dA rfl rfl (fun we hbe J hJ=>?_);go_simp;have hx:Below u84.heap.size u84 we:=ah;have dW:=zh (Bt HB.out hx);refine (Q11.out _ _ (F52.out.later hx)).mono ?_;rintro e u86 ⟨a85,c85,rfl,h,hf⟩;have hy:=Bt hx h;refine hJ _ _ h ?_;clear hJ J hbe hx h dW;clear F52;replace HB:=zh (Bt HB.out hy);have Py:=zh hf;clear hf;clear hy;refine zT ?_;refine iT rfl rfl (fun b87 u87 hbe hN hb1 hA hblk J hJ=>?_);go_simp;have hy:Below u86.heap.size u86 u87:=ah;refine hJ _ _ rfl ?_;clear hJ J hbe hN hb1 hA;replace Py:=zh (Py.out.later hy);replace HB:=zh (Bt HB.out hy);have F54:=zh (oF hblk);clear hblk hy;refine zT ?_;refine dA rfl rfl (fun we hbe J hJ=>?_);go_simp;have hx:Below u87.heap.size u87 we:=ah;have dW:=zh (Bt HB.out hx);refine (Q12.out _ _ (F54.out.later hx)).mono ?_;rintro e u89 ⟨a88,c88,rfl,h,hf⟩;have hy:=Bt hx h;refine hJ _ _ h ?_
 clear hJ J hbe hx h dW;clear F54;replace Py:=zh (Py.out.later hy);replace HB:=zh (Bt HB.out hy);have Yr:=zh hf;clear hf;clear hy;refine zT ?_;refine iT rfl rfl (fun b90 u90 hbe hN hb1 hA hblk J hJ=>?_);go_simp;have hy:Below u89.heap.size u89 u90:=ah;refine hJ _ _ rfl ?_;clear hJ J hbe hN hb1 hA;replace Py:=zh (Py.out.later hy);replace Yr:=zh (Yr.out.later hy);replace HB:=zh (Bt HB.out hy);have F56:=zh (oF hblk);clear hblk hy;refine zT ?_;refine dA rfl rfl (fun we hbe J hJ=>?_);go_simp;have hx:Below u90.heap.size u90 we:=ah;have dW:=zh (Bt HB.out hx);refine (Q13.out _ _ (F56.out.later hx)).mono ?_;rintro e u92 ⟨a91,c91,rfl,h,hf⟩;have hy:=Bt hx h;refine hJ _ _ h ?_;clear hJ J hbe hx h dW;clear F56;replace Py:=zh (Py.out.later hy);replace Yr:=zh (Yr.out.later hy);replace HB:=zh (Bt HB.out hy);have F57:=zh hf;clear hf;clear hy;refine zT ?_
 refine dA rfl rfl (fun we hbe J hJ=>?_);have hx:Below u92.heap.size u92 we:=ah;obtain ⟨z93,EW,h,Z⟩:=oz we #[.slice a85 Y9.length c85,.slice a88 q12.length c88,.slice a91 q13.length c91] 29;go_simp
 (try rw [EW])
 clear EW;obtain ⟨b93,eb⟩:∃ y,we.heap.size=y:=⟨_,rfl⟩
 (try rw [eb] at Z ⊢)
 clear eb;have hy:=Bt hx h;refine hJ _ _ h ?_;clear hJ J hbe hx h;replace Py:=zh (Py.out.later hy);replace Yr:=zh (Yr.out.later hy);replace F57:=zh (F57.out.later hy);replace HB:=zh (Bt HB.out hy);have F58:=zh (NJ Z.out Py.out Yr.out F57.out);clear Z hy;refine zT ?_;refine dA rfl rfl (fun we hbe J hJ=>?_);go_simp;have hx:Below z93.heap.size z93 we:=ah;have dW:=zh (Bt HB.out hx);refine (GU _ [Y9,q12,q13] _ (F58.out.later hx)).mono ?_;rintro e u95 ⟨⟨_,rfl,a94,v94,rfl,ha,hv⟩,h⟩;have hy:=Bt hx h;refine hJ _ _ h ?_;clear hJ J hbe hx h dW;clear Py Yr F57 F58;replace HB:=zh (Bt HB.out hy);have Uw:=zh ha;have Uv:=zh hv;clear ha hv;clear hy;refine zT ?_;refine iT rfl rfl (fun b96 u96 hbe hN hb1 hA hblk J hJ=>?_);go_simp;have hy:Below u95.heap.size u95 u96:=ah;refine hJ _ _ rfl ?_;clear hJ J hbe hN hb1 hA;replace Uw:=zh (Uw.out.later hy)
 replace Uv:=zh (Uv.out.later hy);replace HB:=zh (Bt HB.out hy);have F61:=zh (Jh hblk);clear hblk hy;refine zT ?_;refine dA rfl rfl (fun we hbe J hJ=>?_);go_simp;have hx:Below u96.heap.size u96 we:=ah;have dW:=zh (Bt HB.out hx);refine (Q14.out _ _ (F61.out.later hx)).mono ?_;rintro e u98 ⟨a97,c97,rfl,h,hf⟩;have hy:=Bt hx h;refine hJ _ _ h ?_;clear hJ J hbe hx h dW;clear F61;replace Uw:=zh (Uw.out.later hy);replace Uv:=zh (Uv.out.later hy);replace HB:=zh (Bt HB.out hy);have F62:=zh hf;clear hf;clear hy;refine zT ?_;refine dA rfl rfl (fun we hbe J hJ=>?_);have hx:Below u98.heap.size u98 we:=ah;obtain ⟨z99,EW,h,Z⟩:=oz we #[.slice a97 q14.length c97] 29;go_simp
 (try rw [EW])
 clear EW;obtain ⟨b99,eb⟩:∃ y,we.heap.size=y:=⟨_,rfl⟩
 (try rw [eb] at Z ⊢)
 clear eb;have hy:=Bt hx h;refine hJ _ _ h ?_;clear hJ J hbe hx h;replace Uw:=zh (Uw.out.later hy);replace Uv:=zh (Uv.out.later hy);replace F62:=zh (F62.out.later hy);replace HB:=zh (Bt HB.out hy);have F63:=zh (yt Z.out F62.out);clear Z hy;refine zT ?_;refine dA rfl rfl (fun we hbe J hJ=>?_);go_simp;have hx:Below z99.heap.size z99 we:=ah;have dW:=zh (Bt HB.out hx);refine (C8.out _ _ (F63.out.later hx)).mono ?_;rintro e ak7 ⟨pa100,pc100,rfl,h,hf⟩;have hy:=Bt hx h;refine hJ _ _ h ?_;clear hJ J hbe hx h dW;clear F62 F63;replace Uw:=zh (Uw.out.later hy);replace Uv:=zh (Uv.out.later hy);replace HB:=zh (Bt HB.out hy);have F64:=zh hf;clear hf;clear hy;refine zT ?_;refine dA rfl rfl (fun we hbe J hJ=>?_);go_simp;have hx:Below ak7.heap.size ak7 we:=ah;have dW:=zh (Bt HB.out hx)
 refine (zJ _ [Y9,q12,q13] a94 v94 _ (F64.out.later hx) (Uw.out.later hx) (Uv.out.later hx)).mono ?_;rintro e ak6 ⟨rfl,h⟩;have hy:=Bt hx h;refine hJ _ _ h ?_;clear hJ J hbe hx h dW;clear Uw Uv F64;replace HB:=zh (Bt HB.out hy);clear hy;refine zT ?_;refine iT rfl rfl (fun aP1 YU hbe hN hb1 hA hblk J hJ=>?_);go_simp;have hy:Below ak6.heap.size ak6 YU:=ah;refine hJ _ _ rfl ?_;clear hJ J hbe hN hb1 hA;replace HB:=zh (Bt HB.out hy);have F65:=zh (dF hblk);clear hblk hy;refine zT ?_;refine dA rfl rfl (fun we hbe J hJ=>?_);go_simp;have hx:Below YU.heap.size YU we:=ah;have dW:=zh (Bt HB.out hx);refine (Q5.out _ _ (F65.out.later hx)).mono ?_;rintro e u105 ⟨aD4,aC6,rfl,h,hf⟩;have hy:=Bt hx h;refine hJ _ _ h ?_;clear hJ J hbe hx h dW;clear F65;replace HB:=zh (Bt HB.out hy);have Yq:=zh hf;clear hf;clear hy;refine zT ?_
 refine iT rfl rfl (fun aP0 YT hbe hN hb1 hA hblk J hJ=>?_);go_simp;have hy:Below u105.heap.size u105 YT:=ah;refine hJ _ _ rfl ?_;clear hJ J hbe hN hb1 hA;replace Yq:=zh (Yq.out.later hy);replace HB:=zh (Bt HB.out hy);have F67:=zh (dF hblk);clear hblk hy;refine zT ?_;refine dA rfl rfl (fun we hbe J hJ=>?_);go_simp;have hx:Below YT.heap.size YT we:=ah;have dW:=zh (Bt HB.out hx);refine (Q4.out _ _ (F67.out.later hx)).mono ?_;rintro e ak5 ⟨a107,c107,rfl,h,hf⟩;have hy:=Bt hx h;refine hJ _ _ h ?_;clear hJ J hbe hx h dW;clear F67;replace Yq:=zh (Yq.out.later hy);replace HB:=zh (Bt HB.out hy);have F68:=zh hf;clear hf;clear hy;refine zT ?_;refine dA rfl rfl (fun we hbe J hJ=>?_);have hx:Below ak5.heap.size ak5 we:=ah;obtain ⟨z109,EW,h,Z⟩:=oz we #[.slice aD4 q5.length aC6,.slice a107 q4.length c107] 29;go_simp
 (try rw [EW])
 clear EW;obtain ⟨aO9,eb⟩:∃ y,we.heap.size=y:=⟨_,rfl⟩
 (try rw [eb] at Z ⊢)
 clear eb;have hy:=Bt hx h;refine hJ _ _ h ?_;clear hJ J hbe hx h;replace Yq:=zh (Yq.out.later hy);replace F68:=zh (F68.out.later hy);replace HB:=zh (Bt HB.out hy);have F69:=zh (nR Z.out Yq.out F68.out);clear Z hy;refine zT ?_;refine dA rfl rfl (fun we hbe J hJ=>?_);go_simp;have hx:Below z109.heap.size z109 we:=ah;have dW:=zh (Bt HB.out hx);refine (GU _ [q5,q4] _ (F69.out.later hx)).mono ?_;rintro e ak4 ⟨⟨_,rfl,aD3,aw2,rfl,ha,hv⟩,h⟩;have hy:=Bt hx h;refine hJ _ _ h ?_;clear hJ J hbe hx h dW;clear Yq F68 F69;replace HB:=zh (Bt HB.out hy);have F70:=zh ha;have F71:=zh hv;clear ha hv;clear hy;refine zT ?_;refine dA rfl rfl (fun we hbe J hJ=>?_);go_simp;have hx:Below ak4.heap.size ak4 we:=ah;have dW:=zh (Bt HB.out hx);refine (C9.out _).mono ?_;rintro e ak3 ⟨pa112,pc112,rfl,h,hf⟩;have hy:=Bt hx h;refine hJ _ _ h ?_;clear hJ J hbe hx h dW
 replace F70:=zh (F70.out.later hy);replace F71:=zh (F71.out.later hy);replace HB:=zh (Bt HB.out hy);have F72:=zh hf;clear hf;clear hy;refine zT ?_;refine dA rfl rfl (fun we hbe J hJ=>?_);go_simp;have hx:Below ak3.heap.size ak3 we:=ah;have dW:=zh (Bt HB.out hx);refine (zJ _ [q5,q4] aD3 aw2 _ (F72.out.later hx) (F70.out.later hx) (F71.out.later hx)).mono ?_;rintro e ak2 ⟨rfl,h⟩;have hy:=Bt hx h;refine hJ _ _ h ?_;clear hJ J hbe hx h dW;clear F70 F71 F72;replace HB:=zh (Bt HB.out hy);clear hy;refine zT ?_;refine dA rfl rfl (fun we hbe J hJ=>?_);go_simp;have hx:Below ak2.heap.size ak2 we:=ah;have dW:=zh (Bt HB.out hx);refine (Aq 2 _).mono ?_;rintro e ak1 ⟨⟨_,rfl,aD2,rfl,ha⟩,h⟩;have hy:=Bt hx h;refine hJ _ _ h ?_;clear hJ J hbe hx h dW;replace HB:=zh (Bt HB.out hy);have F73:=zh ha;clear ha;clear hy;refine zT ?_;refine dA rfl rfl (fun we hbe J hJ=>?_)
 go_simp;have hx:Below ak1.heap.size ak1 we:=ah;have dW:=zh (Bt HB.out hx);refine (C10.out _).mono ?_;rintro e ak0 ⟨rfl,h⟩;have hy:=Bt hx h;refine hJ _ _ h ?_;clear hJ J hbe hx h dW;replace F73:=zh (F73.out.later hy);replace HB:=zh (Bt HB.out hy);clear hy;refine zT ?_;refine dA rfl rfl (fun we hbe J hJ=>?_);go_simp;have hx:Below ak0.heap.size ak0 we:=ah;have dW:=zh (Bt HB.out hx);refine (wJ 2 aD2 _ (F73.out.later hx)).mono ?_;rintro e u119 ⟨rfl,h⟩;have hy:=Bt hx h;refine hJ _ _ h ?_;clear hJ J hbe hx h dW;clear F73;replace HB:=zh (Bt HB.out hy);clear hy;refine zT ?_;refine iT rfl rfl (fun aO8 YS hbe hN hb1 hA hblk J hJ=>?_);go_simp;have hy:Below u119.heap.size u119 YS:=ah;refine hJ _ _ rfl ?_;clear hJ J hbe hN hb1 hA;replace HB:=zh (Bt HB.out hy);have F74:=zh (dF hblk);clear hblk hy;refine zT ?_;refine dA rfl rfl (fun we hbe J hJ=>?_)
 go_simp;have hx:Below YS.heap.size YS we:=ah;have dW:=zh (Bt HB.out hx);refine (Q15.out _ _ (F74.out.later hx)).mono ?_;rintro e aj9 ⟨aD1,aC5,rfl,h,hf⟩;have hy:=Bt hx h;refine hJ _ _ h ?_;clear hJ J hbe hx h dW;clear F74;replace HB:=zh (Bt HB.out hy);have Yp:=zh hf;clear hf;clear hy;refine zT ?_;refine iT rfl rfl (fun aO7 YR hbe hN hb1 hA hblk J hJ=>?_);go_simp;have hy:Below aj9.heap.size aj9 YR:=ah;refine hJ _ _ rfl ?_;clear hJ J hbe hN hb1 hA;replace Yp:=zh (Yp.out.later hy);replace HB:=zh (Bt HB.out hy);have F76:=zh (dF hblk);clear hblk hy;refine zT ?_;refine dA rfl rfl (fun we hbe J hJ=>?_);go_simp;have hx:Below YR.heap.size YR we:=ah;have dW:=zh (Bt HB.out hx);refine (Q16.out _ _ (F76.out.later hx)).mono ?_;rintro e aj8 ⟨a124,c124,rfl,h,hf⟩;have hy:=Bt hx h;refine hJ _ _ h ?_;clear hJ J hbe hx h dW;clear F76
 replace Yp:=zh (Yp.out.later hy);replace HB:=zh (Bt HB.out hy);have F77:=zh hf;clear hf;clear hy;refine zT ?_;refine dA rfl rfl (fun we hbe J hJ=>?_);have hx:Below aj8.heap.size aj8 we:=ah;obtain ⟨ai5,EW,h,Z⟩:=oz we #[.slice aD1 q15.length aC5,.slice a124 q16.length c124] 29;go_simp
 (try rw [EW])
 clear EW;obtain ⟨aO6,eb⟩:∃ y,we.heap.size=y:=⟨_,rfl⟩
 (try rw [eb] at Z ⊢)
 clear eb;have hy:=Bt hx h;refine hJ _ _ h ?_;clear hJ J hbe hx h;replace Yp:=zh (Yp.out.later hy);replace F77:=zh (F77.out.later hy);replace HB:=zh (Bt HB.out hy);have F78:=zh (nR Z.out Yp.out F77.out);clear Z hy;refine zT ?_;refine dA rfl rfl (fun we hbe J hJ=>?_);go_simp;have hx:Below ai5.heap.size ai5 we:=ah;have dW:=zh (Bt HB.out hx);refine (GU _ [q15,q16] _ (F78.out.later hx)).mono ?_;rintro e aj7 ⟨⟨_,rfl,a127,v127,rfl,ha,hv⟩,h⟩;have hy:=Bt hx h;refine hJ _ _ h ?_;clear hJ J hbe hx h dW;clear Yp F77 F78;replace HB:=zh (Bt HB.out hy);have Yo:=zh ha;have Yn:=zh hv;clear ha hv;clear hy;refine zT ?_;refine iT rfl rfl (fun aO5 YQ hbe hN hb1 hA hblk J hJ=>?_);go_simp;have hy:Below aj7.heap.size aj7 YQ:=ah;refine hJ _ _ rfl ?_;clear hJ J hbe hN hb1 hA;replace Yo:=zh (Yo.out.later hy);replace Yn:=zh (Yn.out.later hy);replace HB:=zh (Bt HB.out hy)
 have F81:=zh (dF hblk);clear hblk hy;refine zT ?_;refine dA rfl rfl (fun we hbe J hJ=>?_);go_simp;have hx:Below YQ.heap.size YQ we:=ah;have dW:=zh (Bt HB.out hx);refine (Q17.out _ _ (F81.out.later hx)).mono ?_;rintro e u131 ⟨a130,c130,rfl,h,hf⟩;have hy:=Bt hx h;refine hJ _ _ h ?_;clear hJ J hbe hx h dW;clear F81;replace Yo:=zh (Yo.out.later hy);replace Yn:=zh (Yn.out.later hy);replace HB:=zh (Bt HB.out hy);have F82:=zh hf;clear hf;clear hy;refine zT ?_;refine dA rfl rfl (fun we hbe J hJ=>?_);go_simp;have hx:Below u131.heap.size u131 we:=ah;have dW:=zh (Bt HB.out hx);refine (C11.out _ _ (F82.out.later hx)).mono ?_;rintro e aj6 ⟨aE9,aE4,rfl,h,hf⟩;have hy:=Bt hx h;refine hJ _ _ h ?_;clear hJ J hbe hx h dW;clear F82;replace Yo:=zh (Yo.out.later hy);replace Yn:=zh (Yn.out.later hy);replace HB:=zh (Bt HB.out hy);have F83:=zh hf;clear hf;clear hy
 refine zT ?_;refine dA rfl rfl (fun we hbe J hJ=>?_);go_simp;have hx:Below aj6.heap.size aj6 we:=ah;have dW:=zh (Bt HB.out hx);refine (zJ _ [q15,q16] a127 v127 _ (F83.out.later hx) (Yo.out.later hx) (Yn.out.later hx)).mono ?_;rintro e aj5 ⟨rfl,h⟩;have hy:=Bt hx h;refine hJ _ _ h ?_;clear hJ J hbe hx h dW;clear Yo Yn F83;replace HB:=zh (Bt HB.out hy);clear hy;refine zT ?_;refine YL [_] rfl (fun YN hbf=>?_);have hy:Below aj5.heap.size aj5 YN:=ah;replace HB:=zh (Bt HB.out hy);clear hy hbf;go_wp2_with fail
 clear Xg;obtain ⟨aG1,EW,h,Z0⟩:=oz YN #[.string ⟨#[49,47,51]⟩,.string ⟨#[49]⟩] 9;rw [EW];clear EW;obtain ⟨aO4,eb⟩:∃ y,YN.heap.size=y:=⟨_,rfl⟩;rw [eb] at Z0 ⊢;clear eb;replace HB:=zh (Bt HB.out h);have F84:=zh (dF Z0.out);clear h Z0;refine (Q18.out _ _ F84.out).mono ?_;rintro e aj4 ⟨aD0,aC4,rfl,h,hf⟩;clear F84;replace HB:=zh (Bt HB.out h);have F85:=zh hf;clear hf;clear h;go_wp2_with fail
 obtain ⟨z138,EW,h,Z0,Z1⟩:=yB aj4 #[.slice aD0 q18.length aC4] 29 #[.int .i64 1000000000000,.int .i64 1000000000000,.int .i64 0,.int .i64 0] 69;rw [EW];clear EW;obtain ⟨aO3,eb⟩:∃ y,aj4.heap.size=y:=⟨_,rfl⟩;rw [eb] at Z0 Z1 ⊢;clear eb;replace F85:=zh (F85.out.later h);replace HB:=zh (Bt HB.out h);have F86:=zh (yt Z0.out F85.out);have F87:Hid (jZ _ 69 _ _):=zh (jZ.two Z1.out);clear h Z0 Z1;refine (C12.out _ _ _ F86.out F87.out (HP.out.later HB.out) (HE.out.later HB.out)).mono ?_;rintro e aG7 ⟨v139,rfl,h,hf⟩;clear F85 F86 F87;replace HB:=zh (Bt HB.out h);obtain ⟨bb,bo,bc,rfl,lb,y1,y2⟩:=WA hf;have HEB:= @xR;clear hf;clear h;go_wp2_with fail
 clear lb y1 y2 HEB;refine (C13.out _ _ (Vt _)).mono ?_;rintro e aj3 ⟨rfl,h⟩;replace HB:=zh (Bt HB.out h);clear h;go_wp2_with fail
 obtain ⟨aG0,EW,h,Z0⟩:=oz aj3 #[.string ⟨#[49]⟩] 9;rw [EW];clear EW;obtain ⟨aO2,eb⟩:∃ y,aj3.heap.size=y:=⟨_,rfl⟩;rw [eb] at Z0 ⊢;clear eb;replace HB:=zh (Bt HB.out h);have F88:=zh (oF Z0.out);clear h Z0;refine (Q11.out _ _ F88.out).mono ?_;rintro e aj2 ⟨a143,c143,rfl,h,hf⟩;clear F88;replace HB:=zh (Bt HB.out h);have Ym:=zh hf;clear hf;clear h;go_wp2_with fail
 obtain ⟨z145,EW,h,Z0⟩:=oz aj2 #[.string ⟨#[49]⟩,.string ⟨#[50]⟩] 9;rw [EW];clear EW;obtain ⟨aO1,eb⟩:∃ y,aj2.heap.size=y:=⟨_,rfl⟩;rw [eb] at Z0 ⊢;clear eb;replace Ym:=zh (Ym.out.later h);replace HB:=zh (Bt HB.out h);have F90:=zh (dF Z0.out);clear h Z0;refine (Q0.out _ _ F90.out).mono ?_;rintro e aj1 ⟨a146,c146,rfl,h,hf⟩;clear F90;replace Ym:=zh (Ym.out.later h);replace HB:=zh (Bt HB.out h);have F91:=zh hf;clear hf;clear h;go_wp2_with fail
 obtain ⟨z148,EW,h,Z0⟩:=oz aj1 #[.slice a143 Y9.length c143,.slice a146 q0.length c146] 29;rw [EW];clear EW;obtain ⟨aO0,eb⟩:∃ y,aj1.heap.size=y:=⟨_,rfl⟩;rw [eb] at Z0 ⊢;clear eb;replace Ym:=zh (Ym.out.later h);replace F91:=zh (F91.out.later h);replace HB:=zh (Bt HB.out h);have F92:=zh (nR Z0.out Ym.out F91.out);clear h Z0;refine (C14.out _ _ F92.out).mono ?_;rintro e aG6 ⟨rfl,h⟩;clear Ym F91 F92;replace HB:=zh (Bt HB.out h);clear h;go_wp2_with fail
 go_ret
 exact ⟨rfl,HB.out⟩
end Go.Proofs.verdigrislaw05
namespace Go.Proofs.aF
open Go Go.RowKit Go.SW Go.Num Go.Mem Go.Proofs Go.Dec Go.cK Go.Proofs.aH Go.Proofs.matrix
theorem Pl.kept {l:List TypeId} {w w':World} {v:Value} {z:Int} (h:Pl w v z) (k:Keep l w w') (hT:3∉l):Pl w' v z:=by
 obtain ⟨pa,n,c,h1,h2⟩:=h;exact ⟨pa,n,c,h1,Row.kept h2 k hT⟩
theorem Ra.kept {l:List TypeId} {w w':World} {v:Value} {q:Rat} (h:Ra w v q) (k:Keep l w w') (hT:3∉l):Ra w' v q:=by
 obtain ⟨bn,pn,ln,cn,bd,pd,ld,cd,e,h1,h2⟩:=h;exact ⟨bn,pn,ln,cn,bd,pd,ld,cd,e,Pl.kept h1 k hT,Pl.kept h2 k hT⟩
def IK:Rl Rat:=fun w q c=>∃ bn pn ln cn bd pd ld cd,c=[.bool bn,.slice pn ln cn,.bool bd,.slice pd ld cd]∧Ra w (.agg #[.bool bn,.slice pn ln cn,.bool bd,.slice pd ld cd]) q
theorem IK.stay {m:List TypeId} (h:3∉m):r9 m IK:=fun w w' a c k hr=>by
 obtain ⟨bn,pn,ln,cn,bd,pd,ld,cd,e,h1⟩:=hr;exact ⟨bn,pn,ln,cn,bd,pd,ld,cd,e,Ra.kept h1 k h⟩
def sj (w:World) (v:Value) (qs:List Rat):Prop:=wP w 123 4 IK v qs
def ET:Rl (List Rat):=ab8 sj
theorem ET.stay {m:List TypeId} (h:3∉m) (h2:123∉m):r9 m ET:=fun w w' a c k hr=>by
 obtain ⟨v,e,h1⟩:=hr;exact ⟨v,e,wP.kept h1 k h2 (IK.stay h)⟩
def Fa (w:World) (v:Value) (m:RM):Prop:=wP w 118 1 ET v m
theorem sj.later {w w':World} {v:Value} {qs:List Rat} (h:sj w v qs) (hb:Below w.heap.size w w'):sj w' v qs:=wP.later h hb (IK.stay zi)
theorem Fa.later {w w':World} {v:Value} {m:RM} (h:Fa w v m) (hb:Below w.heap.size w w'):Fa w' v m:=wP.later h hb (ET.stay zi zi)
def WK (w:World) (qs:List Rat) (e:Ending) (w':World):Prop:=∃ v,e= .returned v∧Below w.heap.size w w'∧sj w' v qs
def WR (w:World) (m:RM) (e:Ending) (w':World):Prop:=∃ v,e= .returned v∧Below w.heap.size w w'∧Fa w' v m
theorem Rq:(Tryz.prog.info? 123).map (fun i=>(i.zero,i.size,i.bytes))=some (some (.agg #[.bool false,.slice none 0 0,.bool false,.slice none 0 0]),4,64):=by kernel_rfl
theorem VB:(Tryz.prog.info? 118).map (fun i=>(i.zero,i.size,i.bytes))=some (some (.slice none 0 0),1,24):=by kernel_rfl
theorem OI (v:Value) (qs:List Rat) (T:TypeId) (w:World) (h:gX w T v (qs.map Fr.of)) (hq:∀ q∈qs,iR q=true) (hn:qs.length≤1000) :
  Calls Tryz.prog 71 #[v] w (WK w qs):=by
 obtain ⟨i0,hi,hz0,hz1,hz2⟩:=info_parts Rq;obtain ⟨a,cap,rfl,hc1,hc2,hread⟩:=h.read
 have H:Hid (∀ k (_:k<qs.length),∃ b off,a=some ⟨b,off,none⟩∧b<w.heap.size∧w.cell? ⟨b,off+k*2,none⟩=some (.string (Fr.of qs[k]).n)∧w.cell? ⟨b,off+k*2+1,none⟩=some (.string (Fr.of qs[k]).d)):=zh fun k hk=>by
  have:=hread k (by simpa using hk);simp only [List.getElem_map] at this;exact this
 have HQ:=zh hq;rw [List.length_map] at hc1 ⊢;clear h hread hq;go_enter Tryz.func71,Tryz.ntmps71
 go_wp2_with fail
 go_loopw [3,4] (fun ov iv wr=>∃ k:Nat,iv= .int .i64 (k:Int)∧k≤qs.length∧Hid (dH wr w.heap.size 123 4 IK ov (qs.take k))∧Below w.heap.size w wr) (fun _ iv _=>qs.length - (intOf iv).toNat)
 case atStart=>exact ⟨0,rfl,by omega,zh (dH.nil _ _ _ _ _),Below.refl _ _⟩
 case round =>
  obtain ⟨k,rfl,hk,HG,hb⟩:=hrel
  rcases Nat.lt_or_ge k qs.length with hlt|hge
  ·obtain ⟨b,off,rfl,hbl,hx1,hx2⟩:=H.out k hlt;have hc1:=(hb.cell (p:=⟨b,off+k*2,none⟩) hbl).trans hx1;have hc2:=(hb.cell (p:=⟨b,off+k*2+1,none⟩) hbl).trans hx2;clear hx1 hx2;have IN:=zh (fun W=>Yd (Ql (HQ.out _ (List.getElem_mem hlt))) W);generalize Fr.of qs[k]=lk at *;obtain ⟨s,t⟩:=lk;unfold Fr.v at IN;obtain ⟨av,cv,rfl⟩:=HG.out.at (n:=k) (by simp;omega);go_wp2_with fail
   refine (IN.out _).mono ?_;rintro e w1 ⟨v,rfl,hb1,hra⟩;obtain ⟨bn,pn,ln,cn,bd,pd,ld,cd,rfl, -, -⟩:=id hra;have HA:=zh hra;have HB:=zh (Bt hb hb1);replace HG:=zh (HG.out.later hb1 (IK.stay zi));clear hra hb hb1 hc1 hc2;go_wp2_with (at_builtin;refine eZ (w0:=w) rfl (.tmp 11) (.tmp 17) 118 rfl 123 i0 (.agg #[.bool false,.slice none 0 0,.bool false,.slice none 0 0]) 4 64 Tryz.underlying118 hi hz0 hz1 hz2 rfl zd IK _ (qs.take k) rfl (HG.out.later ah (IK.stay zi)) (Bt HB.out ah) _ [.bool bn,.slice pn ln cn,.bool bd,.slice pd ld cd] qs[k] rfl (au.new _ _ _) rfl ?c1 ⟨_,_,_,_,_,_,_,_,rfl,HA.out.later ah⟩ (IK.stay zi) ?c2 zo ?_)
   case c1=>intro u hu;simp only [List.mem_cons,List.not_mem_nil,or_false] at hu;rcases hu with rfl|rfl|rfl|rfl<;>rfl
   case c2=>simp;omega
   intro v' w2 hg hb2 _;have HG2:=zh hg;clear hg HG HA HB;go_wp2_with fail
   go_roundw
   case rel=>exact ⟨k+1,by go_num,by omega,HG2,hb2⟩
   case measure=>exact zM
  ·obtain rfl:k=qs.length:=by omega
   rw [List.take_length] at HG;obtain ⟨av,cv,rfl⟩:=HG.out.slice;go_wp2_with fail
   go_ret
   exact ⟨_,rfl,hb,HG.out.UZ⟩
theorem Bb (v:Value) (m:RM) (w:World) (h:aN w v m.fr) (hq:∀ r∈m,∀ q∈r,iR q=true) (hn:m.length≤1000∧∀ r∈m,r.length≤1000) :
  Calls Tryz.prog 67 #[v] w (WR w m):=by
 obtain ⟨i0,hi,hz0,hz1,hz2⟩:=info_parts VB;obtain ⟨a,cap,rfl,hc1,hc2,hread⟩:=aN.read h;have hl:m.fr.length=m.length:=List.length_map _
 have H:Hid (∀ k (_:k<m.length),∃ b off a' c',a=some ⟨b,off,none⟩∧b<w.heap.size∧w.cell? ⟨b,off+k,none⟩=some (.slice a' m[k].length c')∧gX w 59 (.slice a' m[k].length c') (m[k].map Fr.of)):=zh fun k hk=>by
  have:=hread k zo;simp only [RM.fr,List.getElem_map,List.length_map] at this;exact this
 have HQ:=zh hq;have HN:=zh hn.2;have hn1:=hn.1;rw [hl] at hc1 ⊢;clear h hread hq hl hn;go_enter Tryz.func67,Tryz.ntmps67
 go_wp2_with fail
 go_loopw [3,4] (fun ov iv wr=>∃ k:Nat,iv= .int .i64 (k:Int)∧k≤m.length∧Hid (dH wr w.heap.size 118 1 ET ov (m.take k))∧Below w.heap.size w wr) (fun _ iv _=>m.length - (intOf iv).toNat)
 case atStart=>exact ⟨0,rfl,by omega,zh (dH.nil _ _ _ _ _),Below.refl _ _⟩
 case round =>
  obtain ⟨k,rfl,hk,HG,hb⟩:=hrel
  rcases Nat.lt_or_ge k m.length with hlt|hge
  ·obtain ⟨b,off,a',c',rfl,hbl,hx1,hx2⟩:=H.out k hlt;have hc1:=(hb.cell (p:=⟨b,off+k,none⟩) hbl).trans hx1;have IN:=zh (OI _ m[k] 59 wr (hx2.later hb) (HQ.out _ (List.getElem_mem hlt)) (HN.out _ (List.getElem_mem hlt)));clear hx1 hx2;generalize m[k].length=n at *;obtain ⟨av,cv,rfl⟩:=HG.out.at (n:=k) (by simp;omega);go_wp2_with fail
   refine IN.out.mono ?_;rintro e w1 ⟨v,rfl,hb1,hra⟩;have HA:=zh hra;obtain ⟨ax,cx,rfl⟩:=wP.slice hra;have HB:=zh (Bt hb hb1);replace HG:=zh (HG.out.later hb1 (ET.stay zi zi));clear hra hb hb1 hc1;go_wp2_with (at_builtin;refine eZ (w0:=w) rfl (.tmp 11) (.tmp 17) 116 rfl 118 i0 (.slice none 0 0) 1 24 Tryz.underlying116 hi hz0 hz1 hz2 rfl zd ET _ (m.take k) rfl (HG.out.later ah (ET.stay zi zi)) (Bt HB.out ah) _ [.slice ax m[k].length cx] m[k] rfl (au.new _ _ _) rfl ?c1 ⟨_,rfl,HA.out.later ah⟩ (ET.stay zi zi) ?c2 zo ?_)
   case c1=>intro u hu;simp only [List.mem_cons,List.not_mem_nil,or_false] at hu;rcases hu with rfl;rfl
   case c2=>simp;omega
   intro v' w2 hg hb2 _;have HG2:=zh hg;clear hg HG HA HB;go_wp2_with fail
   go_roundw
   case rel=>exact ⟨k+1,by go_num,by omega,HG2,hb2⟩
   case measure=>exact zM
  ·obtain rfl:k=m.length:=by omega
   rw [List.take_length] at HG;obtain ⟨av,cv,rfl⟩:=HG.out.slice;go_wp2_with fail
   go_ret
   exact ⟨_,rfl,hb,HG.out.UZ⟩
theorem sj.at {w:World} {v:Value} {qs:List Rat} (h:sj w v qs):∃ a cap,v= .slice a qs.length cap∧qs.length≤cap∧cap≤9223372036854775807 ∧
  ∀ k (_:k<qs.length),∃ b off bn pn ln cn bd pd ld cd,a=some ⟨b,off,none⟩∧b<w.heap.size∧w.cell? ⟨b,off+k*4,none⟩=some (.bool bn)∧w.cell? ⟨b,off+k*4+1,none⟩=some (.slice pn ln cn)∧w.cell? ⟨b,off+k*4+2,none⟩=some (.bool bd)∧w.cell? ⟨b,off+k*4+3,none⟩=some (.slice pd ld cd) ∧
   Ra w (.agg #[.bool bn,.slice pn ln cn,.bool bd,.slice pd ld cd]) qs[k]:=by
 obtain ⟨a,cap,h1,h2,h3,h4⟩:=wP.read h;refine ⟨a,cap,h1,h2,h3,fun k hk=>?_⟩;obtain ⟨b,off,c,k1,k2,⟨bn,pn,ln,cn,bd,pd,ld,cd,rfl,k3⟩, -, k5⟩:=h4 k hk;exact ⟨b,off,bn,pn,ln,cn,bd,pd,ld,cd,k1,k2,k5 0 zo,k5 1 zo,k5 2 zo,k5 3 zo,k3⟩
theorem Fa.at {w:World} {v:Value} {m:RM} (h:Fa w v m):∃ a cap,v= .slice a m.length cap∧m.length≤cap∧cap≤9223372036854775807 ∧
  ∀ k (_:k<m.length),∃ b off a' c',a=some ⟨b,off,none⟩∧b<w.heap.size∧w.cell? ⟨b,off+k,none⟩=some (.slice a' m[k].length c')∧sj w (.slice a' m[k].length c') m[k]:=by
 obtain ⟨a,cap,h1,h2,h3,h4⟩:=wP.read h;refine ⟨a,cap,h1,h2,h3,fun k hk=>?_⟩;obtain ⟨b,off,c,k1,k2,⟨x,rfl,k3⟩, -, k5⟩:=h4 k hk;obtain ⟨a',c',rfl⟩:=wP.slice k3;have:=k5 0 zo;rw [Nat.mul_one,Nat.add_zero] at this;exact ⟨b,off,a',c',k1,k2,this,k3⟩
def Sz1 (q:Rat):Prop:=kL 100000000 q
theorem Sz1.four {q:Rat} (h:Sz1 q):sz 10000 q.num.natAbs≤1073741824∧sz 10000 q.den≤1073741824:=by
 have h1:=yS h.1;have h2:=yS h.2;exact ⟨by omega,by omega⟩
theorem tC:(Tryz.prog.info? 59).map (fun i=>(i.zero,i.size,i.bytes))=some (some (.agg #[.string ⟨#[]⟩,.string ⟨#[]⟩]),2,32):=by kernel_rfl
theorem LH:(Tryz.prog.info? 29).map (fun i=>(i.zero,i.size,i.bytes))=some (some (.slice none 0 0),1,24):=by kernel_rfl
def vI:Rl (List Fr):=ab8 fun w v l=>gX w 59 v l
theorem vI.stay {m:List TypeId} (h:59∉m):r9 m vI:=fun w w' a c k hr=>by
 obtain ⟨v,e,h1⟩:=hr;exact ⟨v,e,gX.kept h1 k h⟩
theorem rD {f:Nat→Rat} (h:∀ i,kL 134 (f i)):∀ k,kL (200*2^k - 1) (qz f k)
 | 0=>by
  show kL 199 0
  exact ⟨by decide+kernel,by decide+kernel⟩
 | k+1=>by
  have hp:1≤2^k:=Nat.one_le_two_pow;have:=uo (rD h k) ((h k).mono (show 134≤200*2^k - 1 by omega));exact this.mono (by rw [Nat.pow_succ];omega)
theorem qL (z:Int):(Lib.itoa z).length≤(Lib.decDigits z.natAbs).length+1:=by
 unfold Lib.itoa;split
 ·simp
 ·rw [show z.toNat=z.natAbs by omega];omega
theorem V7 {q:Rat} (h:iR q=true):Fits (Fr.of q):=by
 unfold iR at h;rw [Bool.and_eq_true] at h;have h1:=dP.1 h.1;have h2:=dP.1 h.2;have h3:=qL q.num;have h4:=qL (q.den:Int);rw [Int.natAbs_natCast] at h4;exact ⟨by show (Lib.itoa q.num).length≤_;omega,by show (Lib.itoa (q.den:Int)).length≤_;omega⟩
theorem as3 {qs:List Rat} (h:∀ q∈qs,iR q=true):∀ x∈qs.map Fr.of,Fits x:=fun x hx=>by
 obtain ⟨q,hq,rfl⟩:=List.mem_map.1 hx;exact V7 (h q hq)
theorem as2 {m:RM} {n:Nat} (h:m.ok n):sM m.fr:=fun r hr=>by
 obtain ⟨s,hs,rfl⟩:=List.mem_map.1 hr;exact as3 (h.2.2.2.2 s hs).2
theorem y9 {α:Type} (f:Nat→α) (n:Nat):(List.range (n+1)).map f=(List.range n).map f++[f n]:=by
 rw [List.range_succ,List.map_append,List.map_singleton]
end Go.Proofs.aF
namespace Go.Proofs.aF
open Go Go.RowKit Go.SW Go.Num Go.Mem Go.Proofs Go.Dec Go.cK Go.Proofs.aH Go.Proofs.aC
def jk (w:World) (v:Value):Prop:=∃ (a:Option Addr) (n cap:Nat),v= .slice a n cap∧n≤9223372036854775807∧∀ k,k<n→∃ b off f1 a1 n1 c1 z1 f2 a2 n2 c2 z2,a=some ⟨b,off,none⟩∧b<w.heap.size ∧
  w.cell? ⟨b,off+k*6,none⟩=some (.bool f1)∧w.cell? ⟨b,off+k*6+1,none⟩=some (.slice a1 n1 c1)∧w.cell? ⟨b,off+k*6+2,none⟩=some (.int .u16 z1) ∧
  w.cell? ⟨b,off+k*6+3,none⟩=some (.bool f2)∧w.cell? ⟨b,off+k*6+4,none⟩=some (.slice a2 n2 c2)∧w.cell? ⟨b,off+k*6+5,none⟩=some (.int .u16 z2)∧Words w (.slice a1 n1 c1)∧Words w (.slice a2 n2 c2)
theorem jk.later {w w':World} {v:Value} (h:jk w v) (hb:Below w.heap.size w w'):jk w' v:=by
 obtain ⟨a,n,cap,rfl,hn,h⟩:=h;refine ⟨a,n,cap,rfl,hn,fun k hk=>?_⟩;obtain ⟨b,off,f1,a1,n1,c1,z1,f2,a2,n2,c2,z2,rfl,h0,x0,x1,x2,x3,x4,x5,h1,h2⟩:=h k hk
 exact ⟨b,off,f1,a1,n1,c1,z1,f2,a2,n2,c2,z2,rfl,Nat.lt_of_lt_of_le h0 hb.size,(hb.cell (p:=⟨b,off+k*6,none⟩) h0).trans x0,(hb.cell (p:=⟨b,off+k*6+1,none⟩) h0).trans x1,(hb.cell (p:=⟨b,off+k*6+2,none⟩) h0).trans x2,
  (hb.cell (p:=⟨b,off+k*6+3,none⟩) h0).trans x3,(hb.cell (p:=⟨b,off+k*6+4,none⟩) h0).trans x4,(hb.cell (p:=⟨b,off+k*6+5,none⟩) h0).trans x5,h1.later hb,h2.later hb⟩
theorem J7 (r c:Int) (v:Value) (k:Nat) (hk:k≤1000) (w0:World) (h:jk w0 v):∃ q:Rat,(iR q=true∧q.num.natAbs≤999∧q.den≤60)∧∀ w,Below w0.heap.size w0 w →
  Calls Tryz.prog 53 #[.agg #[.int .u8 r,.int .u8 c,v],.int .i64 (k:Int)] w (fun e w'=>e= .returned (Fr.of q).v∧Below w.heap.size w w'):=by
 have W0:∀ z:Int,0≤z∧z≤1000000000→IntKind.i64.wrap z=z:=fun z h=>by unfold IntKind.wrap;simp [IntKind.bits,IntKind.signed];omega
 obtain ⟨a,n,cap,rfl,hn,hread⟩:=h
 rcases Nat.eq_zero_or_pos n with rfl|h0
 ·refine ⟨1,by decide+kernel,fun w hW=>?_⟩;rw [show Fr.of 1=⟨⟨#[49]⟩,⟨#[49]⟩⟩ by decide+kernel];clear hread hW w0 W0;go_enter Tryz.func53,Tryz.ntmps53
  go_wp2_with fail
  refine dG rfl rfl aT Tryz.underlying59 rfl zk ?_;exact ⟨rfl,ah⟩
 ·obtain ⟨mm,hmm,m0,m1,m2⟩:∃ mm:Nat,min (n:Int) 16=(mm:Int)∧0<mm∧mm≤16∧mm≤n:=⟨min n 16,by omega,by omega,by omega,by omega⟩;have hlt:=Nat.mod_lt k m0;obtain ⟨j,Ej⟩:∃ j:Nat,k%mm=j:=⟨_,rfl⟩;rw [Ej] at hlt;obtain ⟨b,off,f1,a1,n1,c1,z1,f2,a2,n2,c2,z2,rfl,lb,x0,x1,x2,x3,x4,x5,y1,y2⟩:=hread j zo;obtain ⟨q,hq,HS⟩:=TD f1 f2 _ _ z1 z2 w0 y1 y2;refine ⟨q,hq,fun w hW=>?_⟩;have H1:=zh (fun W (h:Below w.heap.size w W)=>HS W (Bt hW h));have e0:=(hW.cell (p:=⟨b,off+j*6,none⟩) lb).trans x0;have e1:=(hW.cell (p:=⟨b,off+j*6+1,none⟩) lb).trans x1;have e2:=(hW.cell (p:=⟨b,off+j*6+2,none⟩) lb).trans x2;have e3:=(hW.cell (p:=⟨b,off+j*6+3,none⟩) lb).trans x3;have e4:=(hW.cell (p:=⟨b,off+j*6+4,none⟩) lb).trans x4;have e5:=(hW.cell (p:=⟨b,off+j*6+5,none⟩) lb).trans x5;have lw:b<w.heap.size:=Nat.lt_of_lt_of_le lb hW.size
  have E:=zh (And.intro e0 (And.intro e1 (And.intro e2 (And.intro e3 (And.intro e4 e5)))));have LW:=zh lw;have tm:(k:Int).tmod (mm:Int)=(j:Int):=by rw [Int.tmod_eq_emod_of_nonneg zo,← Ej];rfl
  have wj:=W0 (j:Int) zo;have wmm:=W0 (mm:Int) zo;have nz:((n:Int) == 0)=false:=by simp;omega
  have mz:(mm:Int)≠0:=by omega
  have mz1:¬ mm=0:=by omega
  have mz2:((mm:Int) == 0)=false:=by simp;omega
  have jn:j<n:=by omega
  clear hread HS W0 x0 x1 x2 x3 x4 x5 y1 y2 hq e0 e1 e2 e3 e4 e5 lw lb hW;obtain ⟨⟨s1,s2⟩,EQ⟩:∃ y,Fr.of q=y:=⟨_,rfl⟩;rw [EQ] at H1 ⊢;unfold Fr.v at *;clear EQ;go_enter Tryz.func53,Tryz.ntmps53
  go_wp2_with fail
  obtain ⟨fI,EW,hz,X1,X2⟩:=yB w #[.int .u8 r,.int .u8 c,.slice (some ⟨b,off,none⟩) n cap] 26 #[.string ⟨#[]⟩,.string ⟨#[]⟩] 59;rw [EW];have hk2:=Bt (Below.refl _ _) hz;clear EW hz;obtain ⟨jd,iY,iZ⟩:=X1.clf;have d0:=(hk2.cell (p:=⟨b,off+j*6,none⟩) LW.out).trans E.out.1;have d1:=(hk2.cell (p:=⟨b,off+j*6+1,none⟩) LW.out).trans E.out.2.1;have d2:=(hk2.cell (p:=⟨b,off+j*6+2,none⟩) LW.out).trans E.out.2.2.1;have d3:=(hk2.cell (p:=⟨b,off+j*6+3,none⟩) LW.out).trans E.out.2.2.2.1;have d4:=(hk2.cell (p:=⟨b,off+j*6+4,none⟩) LW.out).trans E.out.2.2.2.2.1;have d5:=(hk2.cell (p:=⟨b,off+j*6+5,none⟩) LW.out).trans E.out.2.2.2.2.2;have db:b<fI.heap.size:=Nat.lt_of_lt_of_le LW.out hk2.size;refine aD [(.pure,0),(.read,1),(.pure,2),(.pure,3),(.read,4),(.pure,5),(.pure,6),(.pure,7),(.pure,8),(.read,9),(.ext,10),(.fin,11)] zk zk zR zP ?_;refine zV ?_
  refine aG rfl rfl (fun Db hb3 J hJ=>?_);go_simp;have hh3:Below fI.heap.size fI Db:=ah;clear hb3;refine (H1.out _ (Bt hk2 hh3)).mono ?_;rintro e vQ ⟨rfl,hb4⟩;refine hJ _ _ hb4 ?_;clear hJ J;have uQ:=Bt hh3 hb4;clear hh3 hb4;refine zV ?_;refine aL [_] rfl (fun wf6 hf6=>?_);have jK:Below fI.heap.size fI wf6:=Bt uQ ah;clear hf6 uQ;clear jd iY iZ;replace X1:=X1.bl jK;replace X2:=X2.bl jK;have hk7:=Bt hk2 jK;clear hk2;clear jK;obtain ⟨nH,nD,nG⟩:=X2.clf;have hres:=X2.out;have tJ:=hres.cell;have tH:=hres.free;go_wp2_with fail
  refine dG rfl rfl aT Tryz.underlying59 rfl zk ?_;exact ⟨rfl,ah⟩
theorem Ji (r c:Int) (v:Value) (n m:Nat) (K:Nat→Nat→Fr) (w:World) (hv:jk w v) (hn:n≤4) (hm:m≤4)
  (hE:∀ i j:Nat,i<4→j<4→∀ W,Below w.heap.size w W→Calls Tryz.prog 53 #[.agg #[.int .u8 r,.int .u8 c,v],.int .i64 (4*(i:Int)+(j:Int))] W (fun e w'=>e= .returned (K i j).v∧Below W.heap.size W w')) :
  Calls Tryz.prog 34 #[.agg #[.int .u8 r,.int .u8 c,v],.int .i64 (n:Int),.int .i64 (m:Int)] w
   (fun e w'=>∃ v',e= .returned v'∧Below w.heap.size w w'∧aN w' v' ((List.range n).map fun i=>(List.range m).map (K i))):=by
 obtain ⟨i0,hi,hz0,hz1,hz2⟩:=info_parts tC;obtain ⟨i1,hi',hy0,hy1,hy2⟩:=info_parts LH;obtain ⟨a,nd,cap,rfl, -, -⟩:=hv;have EL:=zh hE;have HW:Hid (∀ z:Int,0≤z∧z≤1000000000→IntKind.i64.wrap z=z):=zh fun z h=>by unfold IntKind.wrap;simp [IntKind.bits,IntKind.signed];omega
 clear hE;go_enter Tryz.func34,Tryz.ntmps34
 go_wp2_with fail
 have hb1:Below w.heap.size w (w.alloc (.cells #[.int .u8 r,.int .u8 c,.slice a nd cap] 26)):=ah;have HD:Hid (au (w.alloc (.cells #[.int .u8 r,.int .u8 c,.slice a nd cap] 26)) w.heap.size #[.int .u8 r,.int .u8 c,.slice a nd cap] 26):=zh (au.new _ _ _);obtain ⟨w1,EW⟩:∃ y,w.alloc (.cells #[.int .u8 r,.int .u8 c,.slice a nd cap] 26)=y:=⟨_,rfl⟩;rw [EW] at hb1 HD ⊢;have HB1:=zh hb1;clear EW hb1
 go_loopw [7,8] (fun ov iv wr=>∃ k:Nat,iv= .int .i64 (k:Int)∧k≤n∧Hid (dH wr w1.heap.size 29 1 vI ov ((List.range k).map fun i=>(List.range m).map (K i)))∧Below w1.heap.size w1 wr) (fun _ iv _=>n - (intOf iv).toNat)
 case atStart=>exact ⟨0,rfl,by omega,zh (dH.nil _ _ _ _ _),Below.refl _ _⟩
 case round =>
  obtain ⟨k,rfl,hk,HG,hb⟩:=hrel
  rcases Nat.lt_or_ge k n with hlt|hge
  ·obtain ⟨wo,rfl⟩:∃ wo:World,wo=wr:=⟨_,rfl⟩;obtain ⟨ov,cv,rfl⟩:=HG.out.at (n:=k) zi;have HBo:=zh hb;have HDo:=zh (HD.out.later hb);clear hb;go_wp2_with fail
   go_loopw [9,10] (fun rv jv wr=>∃ j:Nat,jv= .int .i64 (j:Int)∧j≤m∧Hid (dH wr wo.heap.size 59 2 xL rv ((List.range j).map (K k)))∧Below wo.heap.size wo wr) (fun _ jv _=>m - (intOf jv).toNat)
   case atStart=>exact ⟨0,rfl,by omega,zh (dH.nil _ _ _ _ _),Below.refl _ _⟩
   case round =>
    obtain ⟨j,rfl,hj,HR,hbi⟩:=hrel
    rcases Nat.lt_or_ge j m with hjlt|ao9
    ·obtain ⟨rv,rc,rfl⟩:=HR.out.at (n:=j) zi;have hdi:=HDo.out.later hbi;have cD:=hdi.cell;have lD:=hdi.lt;have HBi:=zh hbi;have EC:=EL.out k j zo zo wr (Bt HB1.out (Bt HBo.out hbi));have w1':=HW.out (4*(k:Int)) zo;have w2':=HW.out (4*(k:Int)+(j:Int)) zo;obtain ⟨⟨s,t⟩,EK⟩:∃ y,Hid (K k j=y):=⟨_,zh rfl⟩;rw [EK.out] at EC;unfold Fr.v at EC;have HEC:=zh EC;clear EC hbi hdi;go_wp2_with fail
     refine HEC.out.mono ?_;rintro e w2 ⟨rfl,hb2⟩;have HB2:=zh (Bt HBi.out hb2);replace HR:=zh (HR.out.later hb2 (xL.stay _));clear hb2 HEC HBi cD lD w1' w2';go_wp2_with (at_builtin;refine eZ (w0:=wo) rfl (.tmp 21) (.tmp 28) 29 rfl 59 i0 (.agg #[.string ⟨#[]⟩,.string ⟨#[]⟩]) 2 32 Tryz.underlying29 hi hz0 hz1 hz2 rfl zd xL _ ((List.range j).map (K k)) rfl (HR.out.later ah (xL.stay _)) (Bt HB2.out ah) _ [.string s,.string t] ⟨s,t⟩ rfl (au.new _ _ _) rfl ?c1 rfl (xL.stay _) ?c2 zo ?_)
     case c1=>intro u hu;simp only [List.mem_cons,List.not_mem_nil,or_false] at hu;rcases hu with rfl|rfl<;>rfl
     case c2=>simp;omega
     intro v' w3 hg hb3 _;have HG2:Hid (dH w3 wo.heap.size 59 2 xL v' ((List.range (j+1)).map (K k))):=zh (by rw [y9,EK.out];exact hg);clear hg HR HB2;go_wp2_with fail
     go_roundw
     case rel=>exact ⟨j+1,by go_num,by omega,HG2,hb3⟩
     case measure=>exact zM
    ·obtain rfl:j=m:=by omega
     have KJ:=zh HR.out.UZ.Sc;obtain ⟨rv,rc,rfl⟩:=HR.out.at (n:=j) zi;have HB3:=zh (Bt HBo.out hbi);replace HG:=zh (HG.out.later hbi (vI.stay zi));clear hbi HR;go_wp2_with (at_builtin;refine eZ (w0:=w1) rfl (.tmp 30) (.tmp 32) 23 rfl 29 i1 (.slice none 0 0) 1 24 Tryz.underlying23 hi' hy0 hy1 hy2 rfl zd vI _ ((List.range k).map fun i=>(List.range j).map (K i)) rfl (HG.out.later ah (vI.stay zi)) (Bt HB3.out ah) _ [.slice rv j rc] ((List.range j).map (K k)) rfl (au.new _ _ _) rfl ?c1 ⟨_,rfl,KJ.out.later ah⟩ (vI.stay zi) ?c2 zo ?_)
     case c1=>intro u hu;simp only [List.mem_cons,List.not_mem_nil,or_false] at hu;rcases hu with rfl;rfl
     case c2=>simp;omega
     intro v' w2 hg hb2 _;have HG2:Hid (dH w2 w1.heap.size 29 1 vI v' ((List.range (k+1)).map fun i=>(List.range j).map (K i))):=zh (by rw [y9];exact hg);clear hg HG KJ;go_wp2_with fail
     go_roundw
     case rel=>exact ⟨k+1,by go_num,by omega,HG2,hb2⟩
     case measure=>exact zM
  ·obtain rfl:k=n:=by omega
   obtain ⟨ov,cv,rfl⟩:=HG.out.at (n:=k) zi;go_wp2_with fail
   go_ret
   exact ⟨_,rfl,Bt HB1.out hb,HG.out.UZ.JF⟩
end Go.Proofs.aF
namespace Go.Proofs.aF
open Go Go.RowKit Go.SW Go.Num Go.Mem Go.Proofs Go.Dec Go.cK Go.Proofs.aH Go.Proofs.matrix
theorem Fa.get {w:World} {v:Value} {m:RM} (h:Fa w v m) {n:Nat} (hm:∀ r∈m,r.length=n) (h0:0<m.length):∃ b off cap,v= .slice (some ⟨b,off,none⟩) m.length cap∧b<w.heap.size ∧
  ∀ k (_:k<m.length),∃ a' c',w.cell? ⟨b,off+k,none⟩=some (.slice a' n c')∧sj w (.slice a' n c') m[k]:=by
 obtain ⟨a,cap,rfl, -, -, hat⟩:=Fa.at h;obtain ⟨b,off, -, -, rfl,lb, -, -⟩:=hat 0 h0;refine ⟨b,off,cap,rfl,lb,fun k hk=>?_⟩;obtain ⟨b',off',a',c',e, -, k1,k2⟩:=hat k hk;simp only [Option.some.injEq,Addr.mk.injEq,and_true] at e;obtain ⟨rfl,rfl⟩:=e;rw [hm _ (List.getElem_mem hk)] at k1 k2;exact ⟨a',c',k1,k2⟩
theorem sj.first {w:World} {a:Option Addr} {n c:Nat} {r:List Rat} (h:sj w (.slice a n c) r) (hl:r.length=n) (h0:0<n):∃ b off,a=some ⟨b,off,none⟩∧n≤c∧c≤9223372036854775807:=by
 obtain ⟨a',c',e,h1,h2,hat⟩:=sj.at h;simp only [Value.slice.injEq] at e;obtain ⟨rfl, -, rfl⟩:=e;obtain ⟨b,off, -, -, -, -, -, -, -, -, e, -⟩:=hat 0 zo;exact ⟨b,off,e,by omega,h2⟩
def MB:Nat→Nat
 | 0=>67
 | n+1=>(2*MB n+1)*2^(n+1)
end Go.Proofs.aF
namespace Go.Proofs.matrix
open Go Go.Num Go.Proofs Go.cK Go.Proofs.aF
def BF (r c:Nat) (f:Nat→Nat→Rat):RM:=(List.range r).map fun i=>(List.range c).map (f i)
def atR (m:RM) (i j:Nat):Rat:=(m.getD i []).getD j 0
theorem uJ (r c:Nat) (f:Nat→Nat→Rat):(BF r c f).length=r:=by simp [BF]
theorem Lv {r c:Nat} {f:Nat→Nat→Rat} {x:List Rat} (h:x∈BF r c f):x.length=c:=by
 obtain ⟨i, -, rfl⟩:=List.mem_map.1 h;simp
theorem Vs {r c:Nat} {f:Nat→Nat→Rat} {i:Nat} (hi:i<r):(BF r c f).getD i []=(List.range c).map (f i):=by simp [BF,hi]
theorem Qm (l:List Rat):l=(List.range l.length).map fun j=>l.getD j 0:=by
 refine List.ext_getElem zi fun i h1 h2=>?_;simp [h1]
theorem Zm {m:RM} {n:Nat} (h:∀ r∈m,r.length=n):m=BF m.length n (atR m):=by
 refine List.ext_getElem (by simp [BF]) fun i h1 h2=>?_;have e:(BF m.length n (atR m))[i]=(BF m.length n (atR m)).getD i []:=by simp [h2]
 have e2:m.getD i []=m[i]:=by simp [h1]
 rw [e,Vs h1]
 have e3:(fun j=>atR m i j)=fun j=>m[i].getD j 0:=by
  funext j
  unfold atR;rw [e2]
 show m[i]=(List.range n).map (fun j=>atR m i j)
 rw [e3,← h m[i] (List.getElem_mem _)];exact Qm _
theorem RM.ok.mk {m:RM} {n:Nat} (h:m.ok n):m=BF m.length n (atR m):=Zm fun r hr=>(h.2.2.2.2 r hr).1
theorem am4 {r c:Nat} {f:Nat→Nat→Rat} (hr:1≤r∧r≤4) (hc:1≤c∧c≤4) (h:∀ i,i<r→∀ j,j<c→iR (f i j)=true):(BF r c f).ok c:=by
 refine ⟨by rw [uJ];exact hr.1,by rw [uJ];exact hr.2,hc.1,hc.2,fun x hx=>⟨Lv hx,fun q hq=>?_⟩⟩;obtain ⟨i,hi,rfl⟩:=List.mem_map.1 hx;obtain ⟨j,hj,rfl⟩:=List.mem_map.1 hq;exact h i (List.mem_range.1 hi) j (List.mem_range.1 hj)
def Ht (k:Nat) (q:Rat):Prop:=∃ n d:Int,0<d∧d.natAbs≤iE k∧n.natAbs≤iE k∧q=(n:Rat) / (d:Rat)
theorem rz (a b:Nat):iE (a+b)=iE a*iE b:=Nat.pow_add _ _ _
theorem Jf {a b:Nat} (h:a≤b):iE a≤iE b:=Nat.pow_le_pow_right zo h
theorem PW {a b:Nat} (h:a<b):iE a<iE b:=Nat.pow_lt_pow_right zo h
theorem Ht.mono {a b:Nat} {q:Rat} (h:Ht a q) (k:a≤b):Ht b q:=by
 obtain ⟨n,d,h1,h2,h3,h4⟩:=h;have:=Jf k;exact ⟨n,d,h1,by omega,by omega,h4⟩
theorem Ht.ok {a:Nat} {q:Rat} (h:Ht a q) (k:a<600):iR q=true:=by
 obtain ⟨n,d,h1,h2,h3,rfl⟩:=h;obtain ⟨l1,l2⟩:=aH.zG (n:=n) (d:=d) zo;have:=PW k;unfold iR DI;generalize iE 600=X at *;rw [Bool.and_eq_true];exact ⟨decide_eq_true zo,decide_eq_true zo⟩
theorem yA {d:Int} (h:0<d):(d:Rat)≠0:=fun e=>by
 have:d=0:=by exact_mod_cast e
 omega
theorem Ht.mul {a b:Nat} {p q:Rat} (h:Ht a p) (k:Ht b q):Ht (a+b) (p*q):=by
 obtain ⟨n,d,h1,h2,h3,rfl⟩:=h;obtain ⟨n',d',k1,k2,k3,rfl⟩:=k;refine ⟨n*n',d*d',Int.mul_pos h1 k1,?_,?_,?_⟩
 ·rw [rz,Int.natAbs_mul];exact Nat.mul_le_mul h2 k2
 ·rw [rz,Int.natAbs_mul];exact Nat.mul_le_mul h3 k3
 ·have e1:=yA h1;have e2:=yA k1;rw [Rat.intCast_mul,Rat.intCast_mul]
  grind
theorem Ht.add {a b:Nat} {p q:Rat} (h:Ht a p) (k:Ht b q):Ht (a+b+1) (p+q):=by
 obtain ⟨n,d,h1,h2,h3,rfl⟩:=h;obtain ⟨n',d',k1,k2,k3,rfl⟩:=k;have t:iE (a+b+1)=10*(iE a*iE b):=by rw [rz,rz];show _*10=_;omega
 refine ⟨n*d'+n'*d,d*d',Int.mul_pos h1 k1,?_,?_,?_⟩
 ·have:=Nat.mul_le_mul h2 k2;rw [t,Int.natAbs_mul];omega
 ·have x1:=Nat.mul_le_mul h3 k2;have x2:=Nat.mul_le_mul k3 h2;rw [Nat.mul_comm (iE b)] at x2;have x3:=Int.natAbs_add_le (n*d') (n'*d);rw [Int.natAbs_mul,Int.natAbs_mul] at x3;rw [t];omega
 ·have e1:=yA h1;have e2:=yA k1;rw [Rat.intCast_add,Rat.intCast_mul,Rat.intCast_mul,Rat.intCast_mul]
  grind
theorem Ht.neg {a:Nat} {p:Rat} (h:Ht a p):Ht a (-p):=by
 obtain ⟨n,d,h1,h2,h3,rfl⟩:=h;exact ⟨-n,d,h1,h2,by rw [Int.natAbs_neg];exact h3,by rw [Rat.intCast_neg];grind⟩
theorem Ht.sub {a b:Nat} {p q:Rat} (h:Ht a p) (k:Ht b q):Ht (a+b+1) (p - q):=by
 rw [Rat.sub_eq_add_neg];exact h.add k.neg
theorem Ht.zero:Ht 0 0:=⟨0,1,by omega,by decide,by decide,by decide+kernel⟩
theorem Ht.one:Ht 0 1:=⟨1,1,by omega,by decide,by decide,by decide+kernel⟩
theorem Ht.QD {q:Rat} {k:Nat} (h1:q.num.natAbs≤iE k) (h2:q.den≤iE k):Ht k q :=
 ⟨q.num,q.den,by have:=q.den_pos;omega,by simpa using h2,h1,by have:=Rat.mkRat_self q;rw [Rat.mkRat_eq_div] at this;exact this.symm⟩
def Sm (q:Rat):Prop:=iR q=true∧q.num.natAbs≤999∧q.den≤60
theorem Sm.ht {q:Rat} (h:Sm q):Ht 3 q:=Ht.QD (by have:=h.2.1;show _≤1000;omega) (by have:=h.2.2;show _≤1000;omega)
where
 aF9 {m:RM} {n:Nat} (h:∀ r∈m,r.length=n∧∀ q∈r,Ht 3 q) (hm:m.length=n) {i j:Nat} (hi:i<n) (hj:j<n):Ht 3 (atR m i j):=by
  subst hm;have e:m.getD i []=m[i]:=by simp [hi]
  have h1:=h m[i] (List.getElem_mem _);have hj2:j<m[i].length:=by omega
  unfold atR;rw [e];have e3:m[i].getD j 0=m[i][j]:=by simp [hj2]
  rw [e3];exact h1.2 _ (List.getElem_mem _)
def smM (r c:Nat) (f:Nat→Nat→Rat):Prop:=(1≤r∧r≤4)∧(1≤c∧c≤4)∧∀ i j,Sm (f i j)
theorem smM.ok {r c:Nat} {f:Nat→Nat→Rat} (h:smM r c f):(BF r c f).ok c:=am4 h.1 h.2.1 fun i _ j _=>(h.2.2 i j).1
theorem J6 (m:RM):m.fr.length=m.length:=List.length_map _
end Go.Proofs.matrix
