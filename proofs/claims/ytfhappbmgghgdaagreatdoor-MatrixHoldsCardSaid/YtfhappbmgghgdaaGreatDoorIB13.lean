/- Lemmas for the proof. No condition. -/
import Derived.Test.YtfhappbmgghgdaaGreatDoorIB01
import Derived.Test.YtfhappbmgghgdaaGreatDoorIB10
import Derived.Test.YtfhappbmgghgdaaGreatDoorIB12
set_option linter.unusedVariables false
set_option linter.unusedSimpArgs false
set_option maxRecDepth 100000
set_option maxHeartbeats 16000000
namespace Go.Proofs.matrix
open Go Go.RowKit Go.SW Go.Num Go.Mem Go.Proofs Go.Dec Go.dF fM
theorem Bands_ok (v vl:Value) (m:List (List Fr)) (l:List (Int × Int)) (w:World) (hM:aP w v m) (hl:vC w 69 vl l) (hn:l.length≤1000000) (ht:qP.Pow w) (he:whole.Er w) :
  Calls Tryz.prog 41 #[v,vl] w (rG w (JW m l)):=by
 unfold JW
 obtain ⟨p,c,rfl, -, -, -⟩:=hl.read
 cases hk:kW m with
 | false =>
  rw [if_neg zi]
  obtain ⟨a,cap,rfl⟩:=aP.sl hM
  exact Ib a m.length cap (.slice a m.length cap) m w hM hk p l.length c
 | true =>
  rw [if_pos rfl]
  obtain ⟨k1,k4,k5,k6,k7⟩:=okM_parts hk
  obtain ⟨b,off,cap,a0,cap0,rfl,lb,hc0⟩:=aP.top hM zo
  cases ha:l.all (fun x=>mM x.1 x.2) with
  | false =>
   rw [if_neg zi]
   refine Ab b off cap (m.headD []).length a0 cap0 m.length l.length m (fun i=>l.getD i (0,0)) 30 p c w hM hk (kR.of hl rfl) hc0 lb zo (.inl ⟨?_,rfl⟩) hn
   rw [← Bool.not_eq_true,List.all_eq_true] at ha
   have:∃ x∈l,mM x.1 x.2=false:=by
    apply Classical.byContradiction
    intro hne
    exact ha fun x hx=>by
     cases hb:mM x.1 x.2 with
     | true=>rfl
     | false=>exact absurd ⟨x,hx,hb⟩ hne
   obtain ⟨x,hx,hb⟩:=this
   obtain ⟨i,hi,rfl⟩:=List.getElem_of_mem hx
   exact ⟨i,hi,by simpa [hi] using hb⟩
  | true =>
   rw [if_pos rfl]
   rw [List.all_eq_true] at ha
   by_cases hlen:l.length=(m.headD []).length
   ·rw [if_pos hlen]
    obtain ⟨rs,hR,hm,hF⟩:=id hM
    rw [← hlen] at hc0
    refine JV b off cap l.length a0 cap0 m.length m l p c w rs hm hR hF hM hm k1 k4 hk hl rfl hc0 lb (fun r hr=>?_) zo zo (fun x hx=>ha x hx) ht he
    have h1:=k7 r hr
    refine ⟨h1.1.trans hlen.symm,QK (fun a hr'=>?_) (fun x hx=>ha x hx) zo zo⟩
    have h2:=h1.2
    unfold gN at h2
    split at h2
    ·rename_i h3
     exact List.all_eq_true.1 h3 a hr'
    ·cases h2
   ·rw [if_neg hlen]
    exact Ab b off cap (m.headD []).length a0 cap0 m.length l.length m (fun i=>l.getD i (0,0)) 2 p c w hM hk (kR.of hl rfl) hc0 lb zo (.inr ⟨fun i hi=>by
     have:=ha l[i] (List.getElem_mem _)
     simpa [hi] using this,hlen,rfl⟩) hn
theorem UL {m:List (List Fr)} {l:List (Int × Int)} {r:List (Int × Int) × Int} (h:JW m l=r) (hn:l.length≤1000000):∀ x y W,aP W x m→vC W 69 y l→qP.Pow W→whole.Er W→Calls Tryz.prog 41 #[x,y] W (fun e w'=>∃ v,e= .returned (.tuple #[v,.int .i64 r.2])∧Below W.heap.size W w'∧vC w' 69 v r.1):=fun x y W h1 h2 h3 h4 =>
 h ▸ Bands_ok x y m l W h1 h2 hn h3 h4
theorem ag6 {A:List (List Fr)} {x y:ByteArray} {k:Int} (h:ag7 A=(⟨x,y⟩,k)):∀ v W,aP W v A→qP.Pow W→Calls Tryz.prog 35 #[v] W (fun e w'=>e= .returned (.tuple #[.agg #[.string x,.string y],.int .i64 k])∧Below W.heap.size W w'):=fun v W h1 h2=>by
 have:=Det_at v A W h1 h2
 rw [h] at this
 exact this
end Go.Proofs.matrix
namespace Go.Proofs.matrix
open Go Go.RowKit Go.SW Go.Num Go.Mem Go.Proofs Go.Dec Go.dF
theorem Me {a b:ByteArray} (h:a.toList=b.toList):a=b:=wB (by rw [← ByteArray.toList_eq,← ByteArray.toList_eq];exact h)
theorem ql {a1 a2 b1 b2:ByteArray} (h:¬ (a1=b1∧a2=b2)) (w:World) :
  (binOp .neq 59 (.agg #[.string a1,.string a2]) (.agg #[.string b1,.string b2])).run Tryz.prog w= .ok (.bool true) w:=by
 go_simp
 by_cases h1:a1.toList=b1.toList
 ·by_cases h2:a2.toList=b2.toList
  ·exact absurd ⟨Me h1,Me h2⟩ h
  ·simp [h1,h2]
 ·simp [h1]
theorem Equal_any (v1 v2:Value) (l m:List Fr) (w:World) (h1:gH w 59 v1 l) (h2:gH w 59 v2 m) :
  Calls Tryz.prog 61 #[v1,v2] w (fun e w'=>e= .returned (.bool (decide (l=m)))∧Below w.heap.size w w'):=by
 by_cases he:l=m
 ·subst he
  rw [decide_eq_true rfl]
  exact Iu v1 v2 l w h1 h2
 ·rw [decide_eq_false he]
  obtain ⟨a,cap,rfl,hc1,hc2,hr1⟩:=h1.read
  obtain ⟨a',cap',rfl,hc1',hc2',hr2⟩:=h2.read
  have H1:=zh hr1
  have H2:=zh hr2
  have HE:=zh he
  clear h1 h2 hr1 hr2 he
  by_cases hl:l.length=m.length
  ·have HL:=zh hl
   rw [← hl] at hc1'
   rw [show Value.slice a' m.length cap'= .slice a' l.length cap' by rw [hl]]
   clear hl
   have Qk:= @iG
   go_enter Tryz.func61,Tryz.ntmps61
   go_wp2_with fail
   go_loopw [13] (fun iv wr=>∃ k:Nat,iv= .int .i64 (k:Int)∧k≤l.length∧Hid (∀ i,i<k→l.getD i Fr.no=m.getD i Fr.no)∧Below w.heap.size w wr) (fun iv _=>l.length - (intOf iv).toNat)
   case atStart=>exact ⟨0,rfl,by omega,zh (fun i h=>by omega),Below.refl _ _⟩
   case round =>
    obtain ⟨k,rfl,hk,HA,hb⟩:=hrel
    rcases Nat.lt_or_ge k l.length with hlt|hge
    ·obtain ⟨b,off,rfl,hbl,hx1,hx2⟩:=H1.out k hlt
     obtain ⟨b',off',rfl,kg,hy1,hy2⟩:=H2.out k (by rw [← HL.out];exact hlt)
     have hc3:=(hb.cell (p:=⟨b,off+k*2,none⟩) hbl).trans hx1
     have hc4:=(hb.cell (p:=⟨b,off+k*2+1,none⟩) hbl).trans hx2
     have kI:=(hb.cell (p:=⟨b',off'+k*2,none⟩) kg).trans hy1
     have hc6:=(hb.cell (p:=⟨b',off'+k*2+1,none⟩) kg).trans hy2
     have hm:k<m.length:=by rw [← HL.out];exact hlt
     have HX:Hid (l.getD k Fr.no=l[k]):=zh (by simp [hlt])
     have HY:Hid (m.getD k Fr.no=m[k]):=zh (by simp [hm])
     clear hx1 hx2 hy1 hy2
     generalize l[k]=lk at *
     generalize m[k]=mk at *
     obtain ⟨s,t⟩:=lk
     obtain ⟨s',t'⟩:=mk
     by_cases hst:s=s'∧t=t'
     ·obtain ⟨rfl,rfl⟩:=hst
      go_wp2_with fail
      go_quiet (fail)
      go_wp2_with fail
      go_roundw
      case rel =>
       refine ⟨k+1,by go_num,by omega,zh (fun i hi=>?_),below_drewN hb _⟩
       rcases Nat.lt_or_ge i k with h|h
       ·exact HA.out i h
       ·obtain rfl:i=k:=by omega
        rw [HX.out,HY.out]
      case measure=>exact zM
     ·have hd:= @ql _ _ _ _ hst
      simp only at hd hc3 hc4 kI hc6
      clear Qk
      go_wp2_with fail
      go_quiet (fail)
      go_wp2_with fail
      go_ret
      exact ⟨rfl,below_drewN hb _⟩
    ·obtain rfl:k=l.length:=by omega
     exfalso
     refine HE.out (List.ext_getElem HL.out fun i h h'=>?_)
     have:=HA.out i h
     simpa [h,h'] using this
  ·have hd:((l.length:Int) != (m.length:Int))=true:=by simp;omega
   have hd2:decide ((l.length:Int)=(m.length:Int))=false:=decide_eq_false zo
   clear H1 H2
   go_enter Tryz.func61,Tryz.ntmps61
   go_wp2_with fail
   go_ret
   exact ⟨rfl,Below.refl _ _⟩
theorem Np (v1 v2:Value) (l m:List Fr) (w:World) (h1:gH w 59 v1 l) (h2:gH w 59 v2 m) :
  Calls Tryz.prog 60 #[v1,v2] w (fun e w'=>e= .returned (.bool (decide (l=m)))∧Below w.heap.size w w'):=by
 have H:=zh (Equal_any v1 v2 l m w h1 h2)
 obtain ⟨a,cap,rfl, -⟩:=h1.read
 obtain ⟨a',cap',rfl, -⟩:=h2.read
 generalize decide (l=m)=d at *
 clear h1 h2
 go_enter Tryz.func60,Tryz.ntmps60
 go_wp2_with fail
 refine H.out.mono ?_
 rintro e w1 ⟨rfl,hb⟩
 go_wp2_with fail
 go_ret
 exact ⟨rfl,hb⟩
theorem EqualFunc_any (v1 v2:Value) (m m':List (List Fr)) (w:World) (h1:aP w v1 m) (h2:aP w v2 m') (he:m≠m') :
  Calls Tryz.prog 59 #[v1,v2,.func (.func 60) #[] #[]] w (fun e w'=>e= .returned (.bool false)∧Below w.heap.size w w'):=by
 obtain ⟨rs,hR,hm,hF⟩:=h1
 obtain ⟨rs',hR',hm',hF'⟩:=h2
 have key:∀ (v:Value) (xs:List Value),Row w 29 v xs→∃ a cap,v= .slice a xs.length cap∧xs.length≤cap∧cap≤9223372036854775807∧∀ k (_:k<xs.length),∃ b off,a=some ⟨b,off,none⟩∧b<w.heap.size∧w.cell? ⟨b,off+k,none⟩=some xs[k]:=fun v xs h=>by
  rcases h.cases with ⟨rfl,rfl⟩|⟨b,off,cap,arr,rfl,k1,k2,k3,k4⟩
  ·exact ⟨none,0,rfl,by simp,by simp,fun k h=>by simp at h⟩
  ·exact ⟨_,_,rfl,k1,k2,fun k hk=>⟨b,off,rfl,k3.lt,(k3.cell _).trans (k4 k hk)⟩⟩
 have HS:Hid (∀ k (h:k<rs.length) (h':k<rs'.length) W,Below w.heap.size w W→Calls Tryz.prog 60 #[rs[k],rs'[k]] W (fun e w'=>e= .returned (.bool (decide (m.getD k []=m'.getD k [])))∧Below W.heap.size W w')) :=
  zh fun k h h' W hb=>by
   have k1:k<m.length:=by omega
   have k2:k<m'.length:=by omega
   have e1:m.getD k []=m[k]:=by simp [k1]
   have e2:m'.getD k []=m'[k]:=by simp [k2]
   rw [e1,e2]
   exact Np _ _ m[k] m'[k] W ((hF k h k1).later hb) ((hF' k h' k2).later hb)
 have HV:Hid (∀ k (h:k<rs.length),∃ a n c,rs[k]= .slice a n c):=zh fun k h=>by
  obtain ⟨a,c,e, -⟩:=(hF k h zo).read
  exact ⟨_,_,_,e⟩
 have Zn:Hid (∀ k (h:k<rs'.length),∃ a n c,rs'[k]= .slice a n c):=zh fun k h=>by
  obtain ⟨a,c,e, -⟩:=(hF' k h zo).read
  exact ⟨_,_,_,e⟩
 obtain ⟨a,cap,rfl,hc1,hc2,hr1⟩:=key _ _ hR
 obtain ⟨a',cap',rfl,hc1',hc2',hr2⟩:=key _ _ hR'
 have H1:=zh hr1
 have H2:=zh hr2
 have HM:=zh hm
 have HM':=zh hm'
 have HE:=zh he
 clear key hR hR' hr1 hr2 hF hF' hm hm' he
 by_cases hll:rs'.length=rs.length
 ·have HL:=zh hll
  rw [hll]
  rw [hll] at hc1'
  clear hll
  go_enter Tryz.func59,Tryz.ntmps59
  go_wp2_with fail
  go_loopw [17] (fun iv wr=>∃ k:Nat,iv= .int .i64 (k:Int)∧k≤rs.length∧Hid (∀ i,i<k→m.getD i []=m'.getD i [])∧Below w.heap.size w wr) (fun iv _=>rs.length - (intOf iv).toNat)
  case atStart=>exact ⟨0,rfl,by omega,zh (fun i h=>by omega),Below.refl _ _⟩
  case round =>
   obtain ⟨k,rfl,hk,HA,hb⟩:=hrel
   rcases Nat.lt_or_ge k rs.length with hlt|hge
   ·have hlt':k<rs'.length:=by rw [HL.out];exact hlt
    obtain ⟨b,off,rfl,hbl,hx⟩:=H1.out k hlt
    obtain ⟨b',off',rfl,kg,hy⟩:=H2.out k hlt'
    have HC:=zh (HS.out k hlt hlt')
    obtain ⟨x1,x2,x3,ex⟩:=HV.out k hlt
    obtain ⟨y1,y2,y3,ey⟩:=Zn.out k hlt'
    rw [ex] at hx HC
    rw [ey] at hy HC
    have hc3:=(hb.cell (p:=⟨b,off+k,none⟩) hbl).trans hx
    have hc4:=(hb.cell (p:=⟨b',off'+k,none⟩) kg).trans hy
    clear hx hy ex ey
    by_cases hmm:m.getD k []=m'.getD k []
    ·have HMM:=zh hmm
     rw [decide_eq_true hmm] at HC
     clear hmm
     go_wp2_with fail
     refine (HC.out _ hb).mono ?_
     rintro e w2 ⟨rfl,hb2⟩
     go_wp2_with fail
     go_roundw
     case rel =>
      refine ⟨k+1,by go_num,by omega,zh (fun i hi=>?_),Bt hb hb2⟩
      rcases Nat.lt_or_ge i k with h|h
      ·exact HA.out i h
      ·obtain rfl:i=k:=by omega
       exact HMM.out
     case measure=>exact zM
    ·rw [decide_eq_false hmm] at HC
     clear hmm
     go_wp2_with fail
     refine (HC.out _ hb).mono ?_
     rintro e w2 ⟨rfl,hb2⟩
     go_wp2_with fail
     go_ret
     exact ⟨rfl,Bt hb hb2⟩
   ·obtain rfl:k=rs.length:=by omega
    exfalso
    refine HE.out (List.ext_getElem (by rw [← HM.out,← HM'.out,HL.out]) fun i h h'=>?_)
    have:=HA.out i (by rw [HM.out];exact h)
    simpa [h,h'] using this
 ·have hd:((rs.length:Int) != (rs'.length:Int))=true:=by simp;omega
  have hd2:decide ((rs.length:Int)=(rs'.length:Int))=false:=decide_eq_false zo
  clear H1 H2 HS HV Zn
  go_enter Tryz.func59,Tryz.ntmps59
  go_wp2_with fail
  go_ret
  exact ⟨rfl,Below.refl _ _⟩
theorem Same_any (v1 v2:Value) (m m':List (List Fr)) (w:World) (h1:aP w v1 m) (h2:aP w v2 m') :
  Calls Tryz.prog 25 #[v1,v2] w (fun e w'=>e= .returned (.bool (decide (m=m')))∧Below w.heap.size w w'):=by
 by_cases he:m=m'
 ·subst he
  rw [decide_eq_true rfl]
  exact xV v1 v2 m w h1 h2
 ·rw [decide_eq_false he]
  have H:=zh (EqualFunc_any v1 v2 m m' w h1 h2 he)
  obtain ⟨rs,hR, -⟩:=h1
  obtain ⟨rs',hR', -⟩:=h2
  obtain ⟨a,cap,rfl, -⟩:=hR
  obtain ⟨a',cap',rfl, -⟩:=hR'
  go_enter Tryz.func25,Tryz.ntmps25
  go_wp2_with fail
  refine H.out.mono ?_
  rintro e w1 ⟨rfl,hb⟩
  go_wp2_with fail
  go_ret
  exact ⟨rfl,hb⟩
end Go.Proofs.matrix
