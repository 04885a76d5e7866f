/- Lemmas for the proof. No condition. -/
import Derived.Test.YtfhappbmgghgdaaGreatDoorNB01
import Derived.Test.YtfhappbmgghgdaaGreatDoorNB02
import Derived.Test.YtfhappbmgghgdaaGreatDoorNB03
import Derived.Test.YtfhappbmgghgdaaGreatDoorNB06
import Derived.Test.YtfhappbmgghgdaaGreatDoorNB07
import Derived.Test.YtfhappbmgghgdaaGreatDoorNB09
import Derived.ChangeKeysEq
import Derived.RangeFuncNested
import Derived.RangeFuncBound
import Derived.RangeFuncCalls
import Derived.RangeFuncFrom
set_option linter.unusedVariables false
set_option linter.unusedSimpArgs false
set_option maxRecDepth 100000
set_option maxHeartbeats 16000000
namespace Go.Proofs.matrix
open Go Go.RowKit Go.SW Go.Num Go.Mem Go.Proofs Go.Dec Go.Fra
theorem checkList_ok (v:Value) (l:List Fr) (T:TypeId) (w:World) (h:Frs w T v l) :
  Calls Tryz.prog 54 #[v] w (fun e w'=>e= .returned (.int .i64 (chkL l))∧Below w.heap.size w w'):=by
 obtain ⟨a,cap,rfl,hc1,hc2,hread⟩:=h.read
 have H:=zh hread
 clear h hread
 go_enter Tryz.func54,Tryz.ntmps54
 go_wp2_with fail
 go_loopw [7] (fun iv wr=>∃ k:Nat,iv= .int .i64 (k:Int)∧k≤l.length∧Hid (∀ j (h:j<l.length),j<k→(rd l[j]).isSome=true)∧Below w.heap.size w wr) (fun iv _=>l.length - (intOf iv).toNat)
 case atStart=>exact ⟨0,rfl,by omega,zh (fun j _ h=>by omega),Below.refl _ _⟩
 case round =>
  obtain ⟨k,rfl,hk,HK,hb⟩:=hrel
  rcases Nat.lt_or_ge k l.length with hlt|hge
  ·obtain ⟨b,off,rfl,hbl,hx1,hx2⟩:=H.out k hlt
   have hc1:=(hb.cell (p:=⟨b,off+k*2,none⟩) hbl).trans hx1
   have hc2:=(hb.cell (p:=⟨b,off+k*2+1,none⟩) hbl).trans hx2
   clear hx1 hx2
   have hck:=frac.check_ok l[k]
   generalize hlk:l[k]=lk at *
   obtain ⟨s,t⟩:=lk
   cases hv:(rd ⟨s,t⟩).isSome with
   | true =>
    rw [chk_zero hv] at hck
    have HCK:Hid (∀ w,Calls Tryz.prog 112 #[.agg #[.string s,.string t]] w (fun e w'=>e= .returned (.int .i64 0)∧Below w.heap.size w w')):=zh hck
    have HLK:=zh hlk
    have HV:=zh hv
    clear hck hlk hv
    go_wp2_with fail
    refine (HCK.out _).mono ?_
    rintro e v1 ⟨rfl,hc1⟩
    go_wp2_with fail
    go_roundw
    case rel =>
     refine ⟨k+1,by go_num,by omega,zh fun j hj hjk=>?_,Bt hb belA⟩
     rcases Nat.lt_or_ge j k with h|h
     ·exact HK.out j hj h
     ·obtain rfl:j=k:=by omega
      rw [HLK.out]
      exact HV.out
    case measure=>exact zM
   | false =>
    rw [chk_no hv] at hck
    have HCK:Hid (∀ w,Calls Tryz.prog 112 #[.agg #[.string s,.string t]] w (fun e w'=>e= .returned (.int .i64 20)∧Below w.heap.size w w')):=zh hck
    have hno:chkL l=20:=by
     unfold chkL
     rw [if_neg]
     intro h
     have:=List.all_eq_true.1 h l[k] (List.getElem_mem _)
     rw [hlk,hv] at this
     cases this
    have HNO:=zh hno
    clear hck hlk hv hno
    go_wp2_with fail
    refine (HCK.out _).mono ?_
    rintro e v1 ⟨rfl,hc1⟩
    go_wp2_with fail
    go_ret
    exact ⟨by rw [HNO.out];rfl,Bt hb belA⟩
  ·have hyes:chkL l=0:=by
    unfold chkL
    rw [if_pos]
    rw [List.all_eq_true]
    intro x hx
    obtain ⟨j,hj,rfl⟩:=List.getElem_of_mem hx
    exact HK.out j hj zo
   have HYES:=zh hyes
   clear hyes
   obtain rfl:k=l.length:=by omega
   go_wp2_with fail
   go_ret
   exact ⟨by rw [HYES.out];rfl,hb⟩
theorem run_neqFr_same (a1 a2:ByteArray) (w:World) :
  (binOp .neq 59 (.agg #[.string a1,.string a2]) (.agg #[.string a1,.string a2])).run Tryz.prog w= .ok (.bool false) w:=by
 go_simp
theorem Equal_ok (v1 v2:Value) (l:List Fr) (w:World) (h1:Frs w 59 v1 l) (h2:Frs w 59 v2 l) :
  Calls Tryz.prog 61 #[v1,v2] w (fun e w'=>e= .returned (.bool true)∧Below w.heap.size w w'):=by
 obtain ⟨a,cap,rfl,hc1,hc2,hr1⟩:=h1.read
 obtain ⟨a',cap',rfl,hc1',hc2',hr2⟩:=h2.read
 have H1:=zh hr1
 have H2:=zh hr2
 have HEQ:= @run_neqFr_same
 clear h1 h2 hr1 hr2
 go_enter Tryz.func61,Tryz.ntmps61
 go_wp2_with fail
 go_loopw [13] (fun iv wr=>∃ k:Nat,iv= .int .i64 (k:Int)∧k≤l.length∧Below w.heap.size w wr) (fun iv _=>l.length - (intOf iv).toNat)
 case atStart=>exact ⟨0,rfl,by omega,Below.refl _ _⟩
 case round =>
  obtain ⟨k,rfl,hk,hb⟩:=hrel
  rcases Nat.lt_or_ge k l.length with hlt|hge
  ·obtain ⟨b,off,rfl,hbl,hx1,hx2⟩:=H1.out k hlt
   obtain ⟨b',off',rfl,hbl',hy1,hy2⟩:=H2.out k hlt
   have hc3:=(hb.cell (p:=⟨b,off+k*2,none⟩) hbl).trans hx1
   have hc4:=(hb.cell (p:=⟨b,off+k*2+1,none⟩) hbl).trans hx2
   have hc5:=(hb.cell (p:=⟨b',off'+k*2,none⟩) hbl').trans hy1
   have hc6:=(hb.cell (p:=⟨b',off'+k*2+1,none⟩) hbl').trans hy2
   clear hx1 hx2 hy1 hy2
   generalize hlk:l[k]=lk at *
   obtain ⟨s,t⟩:=lk
   have HLK:=zh hlk
   clear hlk
   go_wp2_with fail
   go_quiet (fail)
   go_wp2_with fail
   go_roundw
   case rel=>exact ⟨k+1,by go_num,by omega,below_drewN hb _⟩
   case measure=>exact zM
  ·obtain rfl:k=l.length:=by omega
   go_wp2_with fail
   go_ret
   exact ⟨rfl,hb⟩
theorem same1_ok (v1 v2:Value) (l:List Fr) (w:World) (h1:Frs w 59 v1 l) (h2:Frs w 59 v2 l) :
  Calls Tryz.prog 60 #[v1,v2] w (fun e w'=>e= .returned (.bool true)∧Below w.heap.size w w'):=by
 have H:=zh (Equal_ok v1 v2 l w h1 h2)
 obtain ⟨a,cap,rfl, -⟩:=h1.read
 obtain ⟨a',cap',rfl, -⟩:=h2.read
 clear h1 h2
 go_enter Tryz.func60,Tryz.ntmps60
 go_wp2_with fail
 refine H.out.mono ?_
 rintro e w1 ⟨rfl,hb⟩
 go_wp2_with fail
 go_ret
 exact ⟨rfl,hb⟩
theorem EqualFunc_ok (v1 v2:Value) (m:List (List Fr)) (w:World) (h1:MatV w v1 m) (h2:MatV w v2 m) :
  Calls Tryz.prog 59 #[v1,v2,.func (.func 60) #[] #[]] w (fun e w'=>e= .returned (.bool true)∧Below w.heap.size w w'):=by
 obtain ⟨rs,hR,hm,hF⟩:=h1
 obtain ⟨rs',hR',hm',hF'⟩:=h2
 have hll:rs'.length=rs.length:=by omega
 have HS:Hid (∀ k (h:k<rs.length) (h':k<rs'.length) W,Below w.heap.size w W→Calls Tryz.prog 60 #[rs[k],rs'[k]] W (fun e w'=>e= .returned (.bool true)∧Below W.heap.size W w')) :=
  zh fun k h h' W hb=>same1_ok _ _ (m[k]'zo) W ((hF k h zo).later hb) ((hF' k h' zo).later hb)
 have HV:Hid (∀ k (h:k<rs.length),∃ a n c,rs[k]= .slice a n c):=zh fun k h=>by
  obtain ⟨a,c,e, -⟩:=(hF k h zo).read
  exact ⟨_,_,_,e⟩
 have HV':Hid (∀ k (h:k<rs'.length),∃ a n c,rs'[k]= .slice a n c):=zh fun k h=>by
  obtain ⟨a,c,e, -⟩:=(hF' k h zo).read
  exact ⟨_,_,_,e⟩
 have key:∀ (v:Value) (xs:List Value),Row w 29 v xs→∃ a cap,v= .slice a xs.length cap∧xs.length≤cap∧cap≤9223372036854775807∧∀ k (_:k<xs.length),∃ b off,a=some ⟨b,off,none⟩∧b<w.heap.size∧w.cell? ⟨b,off+k,none⟩=some xs[k]:=fun v xs h=>by
  rcases h.cases with ⟨rfl,rfl⟩|⟨b,off,cap,arr,rfl,k1,k2,k3,k4⟩
  ·exact ⟨none,0,rfl,by simp,by simp,fun k h=>by simp at h⟩
  ·exact ⟨_,_,rfl,k1,k2,fun k hk=>⟨b,off,rfl,k3.lt,(k3.cell _).trans (k4 k hk)⟩⟩
 obtain ⟨a,cap,rfl,hc1,hc2,hr1⟩:=key _ _ hR
 obtain ⟨a',cap',rfl,hc1',hc2',hr2⟩:=key _ _ hR'
 have H1:=zh hr1
 have H2:=zh hr2
 clear key hR hR' hr1 hr2 hF hF' hm hm'
 have HL:=zh hll
 rw [hll]
 rw [hll] at hc1'
 clear hll
 go_enter Tryz.func59,Tryz.ntmps59
 go_wp2_with fail
 go_loopw [17] (fun iv wr=>∃ k:Nat,iv= .int .i64 (k:Int)∧k≤rs.length∧Below w.heap.size w wr) (fun iv _=>rs.length - (intOf iv).toNat)
 case atStart=>exact ⟨0,rfl,by omega,Below.refl _ _⟩
 case round =>
  obtain ⟨k,rfl,hk,hb⟩:=hrel
  rcases Nat.lt_or_ge k rs.length with hlt|hge
  ·have hlt':k<rs'.length:=by rw [HL.out];exact hlt
   obtain ⟨b,off,rfl,hbl,hx⟩:=H1.out k hlt
   obtain ⟨b',off',rfl,hbl',hy⟩:=H2.out k hlt'
   have HC:=zh (HS.out k hlt hlt')
   obtain ⟨x1,x2,x3,ex⟩:=HV.out k hlt
   obtain ⟨y1,y2,y3,ey⟩:=HV'.out k hlt'
   rw [ex] at hx HC
   rw [ey] at hy HC
   have hc3:=(hb.cell (p:=⟨b,off+k,none⟩) hbl).trans hx
   have hc4:=(hb.cell (p:=⟨b',off'+k,none⟩) hbl').trans hy
   clear hx hy ex ey
   go_wp2_with fail
   refine (HC.out _ hb).mono ?_
   rintro e w2 ⟨rfl,hb2⟩
   go_wp2_with fail
   go_roundw
   case rel=>exact ⟨k+1,by go_num,by omega,Bt hb hb2⟩
   case measure=>exact zM
  ·obtain rfl:k=rs.length:=by omega
   go_wp2_with fail
   go_ret
   exact ⟨rfl,hb⟩
theorem Same_ok (v1 v2:Value) (m:List (List Fr)) (w:World) (h1:MatV w v1 m) (h2:MatV w v2 m) :
  Calls Tryz.prog 25 #[v1,v2] w (fun e w'=>e= .returned (.bool true)∧Below w.heap.size w w'):=by
 have H:=zh (EqualFunc_ok v1 v2 m w h1 h2)
 obtain ⟨rs,hR, -⟩:=h1
 obtain ⟨rs',hR', -⟩:=h2
 obtain ⟨a,cap,rfl, -⟩:=hR
 obtain ⟨a',cap',rfl, -⟩:=hR'
 go_enter Tryz.func25,Tryz.ntmps25
 go_wp2_with fail
 refine H.out.mono ?_
 rintro e w1 ⟨rfl,hb⟩
 go_wp2_with fail
 go_ret
 exact ⟨rfl,hb⟩
end Go.Proofs.matrix
namespace Go.Proofs.matrix
open Go Go.RowKit Go.Shelf Go.SW Go.Num Go.Mem Go.Proofs Go.Dec Go.Fra
attribute [local go_sem] Oper.semAt_some
theorem keeps_of_below {W W':World} (h:Below W.heap.size W W'):KeepsOthers W W' :=
 ⟨h.size,fun k o hk _=>(h.block k (Array.getElem?_eq_some_iff.1 hk).1).trans hk⟩
theorem box_kept {W W':World} {row:Option Nat} {b:Nat} {cs:Array Value} {T:TypeId} (h:Box W b cs T) (hg:W.grownBy W' row) (hr:∀ r,row=some r→∃ o:Obj,W.heap[r]? =some o∧o.isCells=false):Box W' b cs T:=by
 unfold Box at *
 rw [hg.block b (Array.getElem?_eq_some_iff.1 h).1 ?_]
 ·exact h
 ·intro e
  obtain ⟨o,ho,hc⟩:=hr b e.symm
  rw [h] at ho
  cases ho
  cases hc
theorem check_main (b off cap n:Nat) (m:List (List Fr)) (rs:List Value) (a0:Option Addr) (n0 cap0:Nat) (w:World) (hn:rs.length=n) (h1:1≤n) (h4:n≤4) (hm:rs.length=m.length) (hR:Row w 29 (.slice (some ⟨b,off,none⟩) n cap) rs)
  (hc:w.cell? ⟨b,off,none⟩=some (.slice a0 n0 cap0)) (k1:1≤n0) (k4:n0≤4)
  (hF:∀ i (h:i<rs.length) (h':i<m.length),Frs w 59 rs[i] m[i]) :
  Calls Tryz.prog 23 #[.slice (some ⟨b,off,none⟩) n cap] w fun e w'=>e= .returned (.int .i64 (if m.all (fun r=>r.length == n0&&chkL r == 0) then 0 else 50))∧Below w.heap.size w w':=by
 have lb:b<w.heap.size:=by
  rcases hR.cases with ⟨h,_⟩|⟨b',off',cap',arr,h,_,_,h3,_⟩
  ·cases h
  ·simp only [Value.slice.injEq,Option.some.injEq,Addr.mk.injEq,and_true] at h
   rw [h.1.1];exact h3.lt
 have lb1:b<w.heap.size+1:=by omega
 have q1:decide ((n:Int)<1)=false:=by simp;omega
 have q2:decide ((4:Int)<(n:Int))=false:=by simp;omega
 have q3:decide ((n0:Int)<1)=false:=by simp;omega
 have q4:decide ((4:Int)<(n0:Int))=false:=by simp;omega
 have h0n:0<n:=by omega
 have HR:=zh hR
 have HF:=zh hF
 have HM:=zh hm
 have HN:=zh hn
 clear hR hF hm hn
 obtain ⟨z,Ez⟩:∃ y:Int,Hid ((if m.all (fun r=>r.length == n0&&chkL r == 0) then 0 else 50)=y):=⟨_,zh rfl⟩
 rw [Ez.out]
 refine (callsIn_wide (n:=3)).1 ?_
 refine callsIn_of_wp_marks Tryz.func23 rfl trivial ?_ rfl
 simp only [Tryz.ntmps23,List.size_toArray,List.length_cons,List.length_nil,Nat.reduceAdd,Nat.reduceSub,Array.replicate_succ,Array.replicate_zero,List.push_toArray,List.append_toArray,List.nil_append,List.cons_append]
 gi_wp2_with (refine ⟨trivial,?_⟩;gi_at_call 58;refine (visit_in Fence.wide 2 trivial rfl _ _ _ _).mono ?_;rintro e w' ⟨rfl,rfl⟩)
 have hB0:Below w.heap.size w (((w.alloc (.cells #[.slice (some ⟨b,off,none⟩) n cap] 23)).alloc (.cells #[.int .i64 0] 33)).alloc (.cells #[.slice (some ⟨b,off,none⟩) n cap] 23)):=belA
 have hbx0:Box (((w.alloc (.cells #[.slice (some ⟨b,off,none⟩) n cap] 23)).alloc (.cells #[.int .i64 0] 33)).alloc (.cells #[.slice (some ⟨b,off,none⟩) n cap] 23)) w.heap.size #[.slice (some ⟨b,off,none⟩) n cap] 23:=boxA
 have hbx1:Box (((w.alloc (.cells #[.slice (some ⟨b,off,none⟩) n cap] 23)).alloc (.cells #[.int .i64 0] 33)).alloc (.cells #[.slice (some ⟨b,off,none⟩) n cap] 23)) (w.heap.size+1) #[.int .i64 0] 33:=boxA
 have hbx2:Box (((w.alloc (.cells #[.slice (some ⟨b,off,none⟩) n cap] 23)).alloc (.cells #[.int .i64 0] 33)).alloc (.cells #[.slice (some ⟨b,off,none⟩) n cap] 23)) (w.heap.size+1+1) #[.slice (some ⟨b,off,none⟩) n cap] 23:=boxA
 refine wpIn_rangeFunc_ownF (α:=Fin rs.length) rfl zo (gf:=115) (lb:=#[.pointer (some ⟨w.heap.size+1+1,0,none⟩)]) rfl trivial (enters_of Tryz.func115 zk rfl)
  (visit_stops Fence.wide 2 trivial rfl zo (w.heap.size+1+1) w.heap.size _ rs w _ hbx2.lt hB0.size ((hbx2.cell 0).trans rfl) HR.out (Nat.le_refl _) hB0) belowK_t (belowK_b hB0.size) (Below.refl _ _) (fun _=>rfl)
  (fun pre W=>(Hid (∀ x∈pre,((m.getD x.1 []).length == n0&&chkL (m.getD x.1 []) == 0)=true)∧Box W w.heap.size #[.slice (some ⟨b,off,none⟩) n cap] 23∧Box W (w.heap.size+1) #[.int .i64 0] 33)∧Below w.heap.size w W)
  (fun c pre W=>(c= .ret∧Hid (∃ x:Fin rs.length,((m.getD x.1 []).length == n0&&chkL (m.getD x.1 []) == 0)=false)∧Box W (w.heap.size+1) #[.int .i64 50] 33)∧Below w.heap.size w W)
  (OwnFrom.and (Own.from (fun s A B row hs hg hr=>⟨hs.1,box_kept hs.2.1 hg hr,box_kept hs.2.2 hg hr⟩) _) (ownFrom_below (Nat.le_refl _) hB0.size))
  (fun c=>OwnFrom.and (Own.from (fun s A B row hs hg hr=>⟨hs.1,hs.2.1,box_kept hs.2.2 hg hr⟩) _) (ownFrom_below (Nat.le_refl _) hB0.size))
  ⟨⟨zh zi,hbx0,hbx1⟩,hB0⟩ ?a1 ?assign ?body ?done ?stop
 case assign =>
  intro l x W K hK
  unfold enc
  gi_wp2
  exact hK
 case body =>
  rintro l pre x W ⟨⟨hp,hb0,hb1⟩,hB⟩ _
  have hxm:x.1<m.length:=HM.out ▸ x.2
  have hgd:m.getD x.1 []=m[x.1]:=by simp [hxm]
  have hfr:=HF.out x.1 x.2 hxm
  obtain ⟨a',cap',hre,k5,k6, -⟩:=hfr.read
  have HFR:=zh (hfr.later hB)
  have cm:=(hB.cell (p:=⟨b,off,none⟩) lb).trans hc
  have c0:=hb0.cell
  have f1:=hb1.free
  have c1:=hb1.cell
  have e5:∀ y,m.getD x.1 []=y→((y.length == n0&&chkL y == 0)=((m.getD x.1 []).length == n0&&chkL (m.getD x.1 []) == 0)):=fun y h=>by rw [h]
  have HE5:=zh (e5 _ hgd)
  clear hfr e5 hgd hc
  generalize rs[x.1]=rx at *
  subst hre
  generalize hmx:m[x.1]=mx at *
  have HMX:=zh hmx
  clear hmx
  by_cases hl:mx.length=n0
  ·have b1:((mx.length:Int) != (n0:Int))=false:=by simp [hl]
   have hch:chkL mx=0∨chkL mx=20:=by unfold chkL;split<;>simp
   have HL:=zh hl
   have HCK:=zh (fun W h=>checkList_ok (.slice a' mx.length cap') mx 59 W h)
   clear hl
   rcases hch with hch|hch
   ·have HCH:=zh hch
    clear hch
    rw [HCH.out] at HCK
    gi_wp2_with (refine ⟨trivial,?_⟩;gi_at_call 54;refine (CallsIn.inRound l (callsIn_wide.2 (HCK.out _ HFR.out))).mono ?_;rintro e w1 ⟨rfl,hc1⟩)
    refine ⟨keeps_of_below hc1,hc1.mono hB.size,⟨⟨zh fun y hy=>?_,hb0.later hc1,hb1.later hc1⟩,hB.trans (hc1.mono hB.size)⟩⟩
    rcases List.mem_append.1 hy with h|h
    ·exact hp.out y h
    ·rw [List.mem_singleton] at h
     subst h
     rw [← HE5.out,HCH.out,HL.out]
     simp
   ·have HCH:=zh hch
    clear hch
    rw [HCH.out] at HCK
    gi_wp2_with (refine ⟨trivial,?_⟩;gi_at_call 54;refine (CallsIn.inRound l (callsIn_wide.2 (HCK.out _ HFR.out))).mono ?_;rintro e w1 ⟨rfl,hc1⟩;have hb2:=hb1.later hc1;have c2:=hb2.cell;have f2:=hb2.free)
    refine ⟨(keeps_of_below hc1).trans (KeepsOthers.setCell _ _ _),⟨⟨rfl,zh ⟨x,?_⟩,hb2.set 0 _⟩,(hB.trans (hc1.mono hB.size)).setCell zi _⟩⟩
    rw [← HE5.out,HCH.out,HL.out]
    simp
  ·have b1:((mx.length:Int) != (n0:Int))=true:=by simp;omega
   have HL:=zh hl
   clear hl
   gi_wp2
   refine ⟨trivial,?_⟩
   gi_wp2
   refine ⟨KeepsOthers.setCell _ _ _,⟨⟨rfl,zh ⟨x,?_⟩,hb1.set 0 _⟩,hB.setCell zi _⟩⟩
   rw [← HE5.out]
   have:=HL.out
   simp [this]
 case done =>
  rintro D ys W hD rfl ⟨⟨hp,hb0,hb1⟩,hB⟩ hK
  have c1:=hb1.cell
  have f1:=hb1.free
  have hall:m.all (fun r=>r.length == n0&&chkL r == 0)=true:=by
   rw [List.all_eq_true]
   intro r hr
   obtain ⟨i,hi,rfl⟩:=List.getElem_of_mem hr
   have h2:i<rs.length:=by rw [HM.out];exact hi
   have:=hp.out ⟨i,h2⟩ (by unfold upto;rw [List.mem_ofFn];exact ⟨⟨i,h2⟩,rfl⟩)
   simpa [hi] using this
  have hz:z=0:=by rw [← Ez.out,if_pos hall]
  have HZ:=zh hz
  clear hall hz
  gi_wp2
  have hb2:=hb1.set 0 (.int .i64 0)
  have hK':=(KeepsOthers.setCell W ⟨w.heap.size+1,0,none⟩ (.int .i64 0)).same D _ hK rfl
  refine ⟨by simp,.inl ⟨_,_,rfl,run_takeDeferred hK',?_⟩⟩
  have hb3:=box_kept hb2 (grownBy_putObj' _ D (.deferred none)) (fun r e=>by cases e;exact ⟨_,hK',rfl⟩)
  have hc5:=hb3.cell 0
  refine ⟨.int .i64 0,?_,by rw [HZ.out],(hB.setCell (p:=⟨w.heap.size+1,0,none⟩) zi _).trans (belowK_b (w:=w) (Nat.le_refl _) _ D _ _ (by simp at hD;omega) hK' rfl rfl)⟩
  simp [results,Tryz.f23,go_sem,hc5]
 case stop =>
  rintro D c pre W hD hpre ⟨⟨rfl,hin,hb1⟩,hB⟩ hK
  have hz:z=50:=by
   rw [← Ez.out,if_neg]
   intro h
   obtain ⟨x,hx⟩:=hin.out
   have hxm:x.1<m.length:=HM.out ▸ x.2
   have h2:=List.all_eq_true.1 h m[x.1] (List.getElem_mem _)
   have hgd:m.getD x.1 []=m[x.1]:=by simp [hxm]
   rw [hgd,h2] at hx
   cases hx
  have HZ:=zh hz
  clear hz
  gi_wp2
  refine ⟨by simp,.inl ⟨_,_,rfl,run_takeDeferred hK,?_⟩⟩
  have hb3:=box_kept hb1 (grownBy_putObj' _ D (.deferred none)) (fun r e=>by cases e;exact ⟨_,hK,rfl⟩)
  have hc5:=hb3.cell 0
  refine ⟨.int .i64 50,?_,by rw [HZ.out],hB.trans (belowK_b (w:=w) (Nat.le_refl _) W D _ _ (by simp at hD;omega) hK rfl rfl)⟩
  simp [results,Tryz.f23,go_sem,hc5]
end Go.Proofs.matrix
namespace Go.Proofs.matrix
open Go Go.RowKit Go.SW Go.Num Go.Mem Go.Proofs Go.Dec Go.Fra
theorem check_count (a:Option Addr) (n cap:Nat) (w:World) (h:n<1∨4<n) :
  Calls Tryz.prog 23 #[.slice a n cap] w fun e w'=>e= .returned (.int .i64 50)∧Below w.heap.size w w':=by
 rcases h with h|h
 ·have q1:decide ((n:Int)<1)=true:=by simp;omega
  clear h
  go_enter Tryz.func23,Tryz.ntmps23
  go_wp2_with fail
  exact bodyPost_ret (v:=.int .i64 50) (by simp [results,Tryz.results23,go_sem]) rfl ⟨rfl,belA⟩
 ·have q1:decide ((n:Int)<1)=false:=by simp;omega
  have q2:decide ((4:Int)<(n:Int))=true:=by simp;omega
  clear h
  go_enter Tryz.func23,Tryz.ntmps23
  go_wp2_with fail
  exact bodyPost_ret (v:=.int .i64 50) (by simp [results,Tryz.results23,go_sem]) rfl ⟨rfl,belA⟩
theorem check_width (b off cap n:Nat) (a0:Option Addr) (n0 cap0:Nat) (w:World) (h1:1≤n) (h4:n≤4) (lb:b<w.heap.size)
  (hc:w.cell? ⟨b,off,none⟩=some (.slice a0 n0 cap0)) (h:n0<1∨4<n0) :
  Calls Tryz.prog 23 #[.slice (some ⟨b,off,none⟩) n cap] w fun e w'=>e= .returned (.int .i64 50)∧Below w.heap.size w w':=by
 have q1:decide ((n:Int)<1)=false:=by simp;omega
 have q2:decide ((4:Int)<(n:Int))=false:=by simp;omega
 have lb1:b<w.heap.size+1:=by omega
 have h0n:0<n:=by omega
 rcases h with h|h
 ·have q3:decide ((n0:Int)<1)=true:=by simp;omega
  clear h
  go_enter Tryz.func23,Tryz.ntmps23
  go_wp2_with fail
  exact bodyPost_ret (v:=.int .i64 50) (by simp [results,Tryz.results23,go_sem]) rfl ⟨rfl,belA⟩
 ·have q3:decide ((n0:Int)<1)=false:=by simp;omega
  have q4:decide ((4:Int)<(n0:Int))=true:=by simp;omega
  clear h
  go_enter Tryz.func23,Tryz.ntmps23
  go_wp2_with fail
  exact bodyPost_ret (v:=.int .i64 50) (by simp [results,Tryz.results23,go_sem]) rfl ⟨rfl,belA⟩
theorem Check_ok (v:Value) (m:List (List Fr)) (w:World) (h:MatV w v m) :
  Calls Tryz.prog 23 #[v] w fun e w'=>e= .returned (.int .i64 (chkM m))∧Below w.heap.size w w':=by
 obtain ⟨rs,hR,hm,hF⟩:=h
 have hR':=hR
 obtain ⟨a,cap,rfl, -⟩:=hR
 by_cases hlen:rs.length<1∨4<rs.length
 ·have e:chkM m=50:=by
   unfold chkM okM
   rw [← hm,if_neg]
   intro h
   simp only [Bool.and_eq_true,decide_eq_true_eq] at h
   omega
  rw [e]
  exact check_count _ _ _ w hlen
 ·have h1:1≤rs.length:=by omega
  have h4:rs.length≤4:=by omega
  have h0:0<m.length:=by omega
  rcases hR'.cases with ⟨_,h⟩|⟨b,off,cap',arr,hv,k1,k2,k3,k4⟩
  ·rw [h] at h1;simp at h1
  ·have h0r:0<rs.length:=by omega
   obtain ⟨a0,cap0,e0, -⟩:=(hF 0 h0r h0).read
   have hc:w.cell? ⟨b,off,none⟩=some (.slice a0 m[0].length cap0):=by
    have:=(k3.cell (off+0)).trans (k4 0 h0r)
    rw [e0] at this
    exact this
   have hhd:m.headD []=m[0]:=by cases m with|nil=>simp at h0|cons x t=>rfl
   rw [hv] at hR' ⊢
   by_cases hw:m[0].length<1∨4<m[0].length
   ·have e:chkM m=50:=by
     unfold chkM okM
     rw [hhd,if_neg]
     intro h
     simp only [Bool.and_eq_true,decide_eq_true_eq] at h
     omega
    rw [e]
    exact check_width b off cap' _ a0 _ cap0 w h1 h4 k3.lt hc hw
   ·have e:chkM m=if m.all (fun r=>r.length == m[0].length&&chkL r == 0) then 0 else 50:=by
     unfold chkM okM
     rw [hhd]
     have e1:decide (1≤m.length)=true:=by simp;omega
     have e2:decide (m.length≤4)=true:=by simp;omega
     have e3:decide (1≤m[0].length)=true:=by simp;omega
     have e4:decide (m[0].length≤4)=true:=by simp;omega
     rw [e1,e2,e3,e4]
     simp only [Bool.true_and]
    rw [e]
    exact check_main b off cap' rs.length m rs a0 m[0].length cap0 w rfl h1 h4 hm hR' hc zo zo hF
theorem infoMr:(Tryz.prog.info? 29).map (fun i=>(i.zero,i.size,i.bytes))=some (some (.slice none 0 0),1,24):=by kernel_rfl
theorem infoFr:(Tryz.prog.info? 59).map (fun i=>(i.zero,i.size,i.bytes))=some (some (.agg #[.string ⟨#[]⟩,.string ⟨#[]⟩]),2,32):=by kernel_rfl
theorem Diagonal_main (vl:Value) (l:List Fr) (T:TypeId) (w:World) (hl:Frs w T vl l) (h1:1≤l.length) (h4:l.length≤4) (hc:chkL l=0) :
  Calls Tryz.prog 18 #[vl] w (MatPost w 0 (diagM l)):=by
 obtain ⟨im,im1,im2,im3,im4⟩:=info_parts infoMr
 obtain ⟨i0,hi,hz0,hz1,hz2⟩:=info_parts infoFr
 have HCK:=zh (fun w' hb=>checkList_ok vl l T w' (hl.later hb))
 rw [hc] at HCK
 obtain ⟨al,capl,rfl,hcl1,hcl2,hread⟩:=hl.read
 have HRD:Hid (∀ r,r<l.length→∃ b off,al=some ⟨b,off,none⟩∧b<w.heap.size∧w.cell? ⟨b,off+r*2,none⟩=some (.string (l.getD r Fr.no).n)∧w.cell? ⟨b,off+r*2+1,none⟩=some (.string (l.getD r Fr.no).d)):=zh fun r hr=>by
  obtain ⟨b,off,k1,k2,k3,k4⟩:=hread r hr
  have e:l.getD r Fr.no=l[r]:=by simp [hr]
  rw [e]
  exact ⟨b,off,k1,k2,k3,k4⟩
 obtain ⟨n,hn⟩:∃ n,l.length=n:=⟨_,rfl⟩
 have HDR:Hid (∀ r c,c<n→(diagRow l r).getD c Fr.no=if c=r then l.getD r Fr.no else Fr.zero):=zh fun r c hc=>by
  unfold diagRow
  simp [hn,hc]
 have HDL:Hid (∀ r,(diagRow l r).length=n):=zh fun r=>by simp [diagRow,hn]
 have HDM:Hid ((diagM l).length=n∧∀ r,r<n→(diagM l).getD r []=diagRow l r):=zh ⟨by simp [diagM,hn],fun r hr=>by simp [diagM,hn,hr]⟩
 rw [hn] at h1 h4 HRD hcl1 HCK ⊢
 have q1:decide ((n:Int)<1)=false:=by simp;omega
 have q2:decide ((4:Int)<(n:Int))=false:=by simp;omega
 clear hl hc hread hn
 go_enter Tryz.func18,Tryz.ntmps18
 go_wp2_with fail
 refine (HCK.out _ (Below.refl _ _)).mono ?_
 rintro e v1 ⟨rfl,hc1⟩
 go_wp2_with (at_make;refine wpList_make_full _ rfl _ _ 23 rfl w.heap.size 29 im (.slice none 0 0) 1 Tryz.underlying23 im1 im2 im3 _ _ _ _ n rfl rfl zo zo (by rw [im4];omega) (by unfold maxLen;omega) hc1.size ?_)
 intro w2 hown hgrow
 have hb2:Below w.heap.size w w2:=Bt hc1 ((Below.refl _ _).grown hgrow (Nat.le_refl _) (fun k hk=>by cases hk))
 have HM:=zh (MFill.start (f:=diagRow l) hown)
 obtain ⟨M,EM⟩:∃ y:Nat,Hid (v1.heap.size=y):=⟨_,zh rfl⟩
 rw [EM.out] at HM ⊢
 have hMw:w.heap.size≤M:=by rw [← EM.out];exact hc1.size
 clear hown hgrow hc1 EM
 go_wp2_with fail
 go_loopw [26] (fun iv wr=>∃ r:Nat,iv= .int .i64 (r:Int)∧r≤n∧Hid (MFill wr M n r (diagRow l))∧Below w.heap.size w wr) (fun iv _=>n - (intOf iv).toNat)
 case atStart=>exact ⟨0,rfl,by omega,HM,hb2⟩
 case round =>
  clear HM hb2
  obtain ⟨r,rfl,hr,HM,hb⟩:=hrel
  rcases Nat.lt_or_ge r n with hlt|hge
  ·obtain ⟨wo,hwo⟩:∃ y,y=wr:=⟨_,rfl⟩
   subst hwo
   have hlt2:(r:Int)<(n:Int):=by omega
   have lM:=HM.out.lt
   go_wp2_with (at_make;refine wpList_make_full _ rfl _ _ 29 rfl wo.heap.size 59 i0 (.agg #[.string ⟨#[]⟩,.string ⟨#[]⟩]) 2 Tryz.underlying29 hi hz0 hz1 _ _ _ _ n rfl rfl zo zo (by rw [hz2];omega) (by unfold maxLen;omega) (Nat.le_refl _) ?_)
   intro w3 hown hgrow
   have hb3:Below wo.heap.size wo w3:=(Below.refl _ _).grown hgrow (Nat.le_refl _) (fun k hk=>by cases hk)
   have HF:=zh (Fill.start (ok:=FrC (fun c=>(diagRow l r).getD c Fr.no)) hown)
   obtain ⟨G,EG⟩:∃ y:Nat,Hid (wo.heap.size=y):=⟨_,zh rfl⟩
   rw [EG.out] at HF ⊢
   have hGw:wo.heap.size≤G:=by rw [EG.out];exact Nat.le_refl _
   have HM3:=HM.out.later hb3
   obtain ⟨⟨y1,cy1⟩,fy⟩:=HM3.cell hlt
   have lM3:=HM3.lt
   have isM:=HM3.isT
   obtain ⟨arrM,bM,hsz, -⟩:=HM3
   have hrs:r<arrM.size:=by omega
   have HBM:=zh bM
   have lG:=HF.out.lt
   clear hown hgrow
   have hGM:G≠M:=by omega
   have hMG:M≠G:=by omega
   have hN3:Near wo (w3.setCell ⟨M,r,none⟩ (.slice (some ⟨G,0,none⟩) n n)) M:=((Near.refl wo M).below hb3).set _ _
   have HF4:=zh (((HF.out.congrF (f':=fun _=>Fr.zero) (fun i hi=>by omega)).other (a:=⟨M,r,none⟩) (.slice (some ⟨G,0,none⟩) n n) hGM))
   have HB4:=zh (bM.set r (.slice (some ⟨G,0,none⟩) n n))
   go_wp2_with fail
   clear cy1 fy lM3 isM lG HF hGw
   go_loopw [37] (fun iv wi=>∃ c:Nat,iv= .int .i64 (c:Int)∧c≤n∧Hid (Fill wi G 59 n c (FrC fun _=>Fr.zero))∧Hid (Box wi M (arrM.setIfInBounds r (.slice (some ⟨G,0,none⟩) n n)) 29)∧Hid (Near wo wi M)) (fun iv _=>n - (intOf iv).toNat)
   case atStart=>exact ⟨0,rfl,by omega,HF4,HB4,zh hN3⟩
   case round =>
    clear HF4 HB4 hN3 bM
    obtain ⟨c,rfl,hcn,HF,HB,HN⟩:=hrel
    have cM:=HB.out.cell r
    rw [Array.getElem?_setIfInBounds,if_pos rfl,if_pos hrs] at cM
    have lMi:=HB.out.lt
    have lGi:=HF.out.lt
    rcases Nat.lt_or_ge c n with hcl|hcl
    ·obtain ⟨⟨z1,cz1⟩,⟨z2,cz2⟩,fz⟩:=HF.out.cells hcl
     have hcl2:(c:Int)<(n:Int):=by omega
     go_wp2_with fail
     go_roundw
     case rel=>exact ⟨c+1,by go_num,by omega,zh (HF.out.step hcl (fun _ _ _ h=>h) ⟨rfl,rfl⟩),zh ((HB.out.setOther _ hMG).setOther _ hMG),zh ((HN.out.setNew (by rw [EG.out];exact Nat.le_refl _) _ _).setNew (by rw [EG.out];exact Nat.le_refl _) _ _)⟩
     case measure=>exact zM
    ·obtain rfl:c=n:=by omega
     obtain ⟨b,off,rfl,lb,cl1,cl2⟩:=HRD.out r hlt
     have hbi:Below w.heap.size w wr:=HN.out.toBelow hb hMw
     have ci1:=(hbi.cell (p:=⟨b,off+r*2,none⟩) lb).trans cl1
     have ci2:=(hbi.cell (p:=⟨b,off+r*2+1,none⟩) lb).trans cl2
     clear cl1 cl2
     go_wp2_with fail
     refine wp_region_walk [(.pure,0),(.pure,1),(.pure,2),(.read,3),(.pure,4),(.pure,5),(.pure,6),(.pure,7),(.read,8),(.pure,9),(.fin,10)] zk zk zR zP ?_
     repeat (first|(refine walk_pure0 rfl rfl fun J h=>?_;go_simp;refine h _ ?_;clear h J)|(refine walk_load rfl rfl rfl rfl fun J h=>?_;go_simp;refine h _ ?_;clear h J;try go_simp))
     refine walk_fin [_] rfl (fun w9 hb9=>?_)
     have hb9':Below wr.heap.size wr w9:=belA
     replace HF:=zh (HF.out.laterF hb9')
     replace HB:=zh (HB.out.later hb9')
     replace HN:=zh (HN.out.below hb9')
     obtain ⟨⟨z1,cz1⟩,⟨z2,cz2⟩,fz⟩:=HF.out.cells hlt
     go_wp2_with fail
     go_roundw
     case rel =>
      have hN2:=(HN.out.setNew (P:=G) (by rw [EG.out];exact Nat.le_refl _) (r*2) (.string (l.getD r Fr.no).n)).setNew (P:=G) (by rw [EG.out];exact Nat.le_refl _) (r*2+1) (.string (l.getD r Fr.no).d)
      refine ⟨r+1,by go_num,by omega,zh (HM.out.step (v:=.slice (some ⟨G,0,none⟩) c c) hlt hN2 (fun arr hA=>?_) ?_),hN2.toBelow hb hMw⟩
      ·have hAM:arr=arrM:=Fra.Box.uniq (hA.later hb3) HBM.out
       rw [hAM]
       exact (HB.out.setOther _ hMG).setOther _ hMG
      ·refine Fill.frs ((HF.out.put hlt).congrF fun i hi=>?_) (HDL.out r) zo
       exact (HDR.out r i hi).symm
     case measure=>exact zM
  ·obtain rfl:r=n:=by omega
   have hmv:MatV wr (.slice (some ⟨M,0,none⟩) r r) (diagM l):=by
    obtain ⟨e1,e2⟩:=HDM.out
    have hM:=HM.out
    have:MatV wr (.slice (some ⟨M,0,none⟩) (diagM l).length (diagM l).length) (diagM l):=by
     refine MFill.matV ?_ zo
     rw [e1]
     obtain ⟨arr,k1,k2,k3⟩:=hM
     refine ⟨arr,k1,k2,fun i hi=>?_⟩
     show ∃ v,arr[i]? =some v∧Frs wr 59 v ((diagM l).getD i [])
     rw [e2 i hi]
     exact k3 i hi
    rw [e1] at this
    exact this
   have HMV:=zh hmv
   clear hmv
   go_wp2_with fail
   go_ret2
   exact MatPost.yes hb HMV.out
theorem Diagonal_len (a:Option Addr) (n cap:Nat) (m:List (List Fr)) (w:World) (h:n<1∨4<n) :
  Calls Tryz.prog 18 #[.slice a n cap] w (MatPost w 2 m):=by
 rcases h with h|h
 ·have q1:decide ((n:Int)<1)=true:=by simp;omega
  clear h
  go_enter Tryz.func18,Tryz.ntmps18
  go_wp2_with fail
  go_ret2
  exact MatPost.no belA zd
 ·have q1:decide ((n:Int)<1)=false:=by simp;omega
  have q2:decide ((4:Int)<(n:Int))=true:=by simp;omega
  clear h
  go_enter Tryz.func18,Tryz.ntmps18
  go_wp2_with fail
  go_ret2
  exact MatPost.no belA zd
theorem Diagonal_bad (vl:Value) (l:List Fr) (m:List (List Fr)) (T:TypeId) (w:World) (hl:Frs w T vl l) (h1:1≤l.length) (h4:l.length≤4) (hc:chkL l=20) :
  Calls Tryz.prog 18 #[vl] w (MatPost w 20 m):=by
 have HCK:=zh (fun w' hb=>checkList_ok vl l T w' (hl.later hb))
 rw [hc] at HCK
 obtain ⟨al,capl,rfl, -⟩:=hl.read
 obtain ⟨n,hn⟩:∃ n,l.length=n:=⟨_,rfl⟩
 rw [hn] at h1 h4 HCK ⊢
 have q1:decide ((n:Int)<1)=false:=by simp;omega
 have q2:decide ((4:Int)<(n:Int))=false:=by simp;omega
 clear hl hc hn
 go_enter Tryz.func18,Tryz.ntmps18
 go_wp2_with fail
 refine (HCK.out _ (Below.refl _ _)).mono ?_
 rintro e v1 ⟨rfl,hc1⟩
 go_wp2_with fail
 go_ret2
 exact MatPost.no hc1 zd
theorem Diagonal_ok (vl:Value) (l:List Fr) (T:TypeId) (w:World) (hl:Frs w T vl l) :
  Calls Tryz.prog 18 #[vl] w (MatPost w (diagE l) (diagM l)):=by
 unfold diagE
 by_cases h:l.length<1∨4<l.length
 ·rw [if_pos h]
  obtain ⟨al,capl,rfl, -⟩:=hl.read
  exact Diagonal_len _ _ _ _ w h
 ·rw [if_neg h]
  have hc:chkL l=0∨chkL l=20:=by unfold chkL;split<;>simp
  rcases hc with hc|hc
  ·rw [hc]
   exact Diagonal_main vl l T w hl zo zo hc
  ·rw [hc]
   exact Diagonal_bad vl l _ T w hl zo zo hc
theorem Identity_arg (n:Int) (m:List (List Fr)) (w:World) (h:n<1∨4<n) :
  Calls Tryz.prog 13 #[.int .i64 n] w (MatPost w 2 m):=by
 rcases h with h|h
 ·have q1:decide (n<1)=true:=by simp;omega
  clear h
  go_enter Tryz.func13,Tryz.ntmps13
  go_wp2_with fail
  go_ret2
  exact MatPost.no belA zd
 ·have q1:decide (n<1)=false:=by simp;omega
  have q2:decide ((4:Int)<n)=true:=by simp;omega
  clear h
  go_enter Tryz.func13,Tryz.ntmps13
  go_wp2_with fail
  go_ret2
  exact MatPost.no belA zd
theorem Identity_main (n:Nat) (w:World) (h1:1≤n) (h4:n≤4) :
  Calls Tryz.prog 13 #[.int .i64 (n:Int)] w (MatPost w 0 (diagM (List.replicate n Fr.one))):=by
 obtain ⟨i0,hi,hz0,hz1,hz2⟩:=info_parts infoFr
 have q1:decide ((n:Int)<1)=false:=by simp;omega
 have q2:decide ((4:Int)<(n:Int))=false:=by simp;omega
 have HDG:Hid (∀ v w',Frs w' 59 v (List.replicate n Fr.one)→Calls Tryz.prog 18 #[v] w' (MatPost w' 0 (diagM (List.replicate n Fr.one)))):=zh fun v w' h=>by
  have:=Diagonal_ok v _ _ w' h
  have e:diagE (List.replicate n Fr.one)=0:=by
   unfold diagE
   rw [List.length_replicate,if_neg zo]
   unfold chkL
   rw [if_pos]
   rw [List.all_eq_true]
   intro a ha
   obtain ⟨-, rfl⟩:=List.mem_replicate.1 ha
   decide+kernel
  rw [e] at this
  exact this
 go_enter Tryz.func13,Tryz.ntmps13
 go_wp2_with (at_make;refine wpList_make_full _ rfl _ _ 29 rfl w.heap.size 59 i0 (.agg #[.string ⟨#[]⟩,.string ⟨#[]⟩]) 2 Tryz.underlying29 hi hz0 hz1 _ _ _ _ n rfl rfl zo zo (by rw [hz2];omega) (by unfold maxLen;omega) (Nat.le_refl _) ?_)
 intro w3 hown hgrow
 have hb3:Below w.heap.size w w3:=(Below.refl _ _).grown hgrow (Nat.le_refl _) (fun k hk=>by cases hk)
 have HF:=zh (Fill.start (ok:=FrC (fun _=>Fr.one)) hown)
 clear hown hgrow
 go_wp2_with fail
 go_loopw [16] (fun iv wr=>∃ c:Nat,iv= .int .i64 (c:Int)∧c≤n∧Hid (Fill wr w.heap.size 59 n c (FrC fun _=>Fr.one))∧Below w.heap.size w wr) (fun iv _=>n - (intOf iv).toNat)
 case atStart=>exact ⟨0,rfl,by omega,HF,hb3⟩
 case round =>
  clear HF hb3
  obtain ⟨c,rfl,hcn,HF,hb⟩:=hrel
  have lG:=HF.out.lt
  rcases Nat.lt_or_ge c n with hcl|hcl
  ·obtain ⟨⟨z1,cz1⟩,⟨z2,cz2⟩,fz⟩:=HF.out.cells hcl
   have hcl2:(c:Int)<(n:Int):=by omega
   go_wp2_with fail
   go_roundw
   case rel=>exact ⟨c+1,by go_num,by omega,zh (HF.out.step hcl (fun _ _ _ h=>h) ⟨rfl,rfl⟩),(hb.setCell zi _).setCell zi _⟩
   case measure=>exact zM
  ·obtain rfl:c=n:=by omega
   have hfr:Frs wr 59 (.slice (some ⟨w.heap.size,0,none⟩) c c) (List.replicate c Fr.one):=by
    refine Fill.frs (HF.out.congrF fun i hi=>?_) zi zo
    simp [hi]
   have HFR:=zh hfr
   clear hfr
   go_wp2_with fail
   refine (HDG.out _ _ HFR.out).mono ?_
   rintro e w5 ⟨hb5,v,rfl,hy, -⟩
   have HV:=zh (hy rfl)
   clear hy
   go_wp2_with fail
   go_ret2
   exact MatPost.yes (Bt hb hb5) HV.out
theorem Identity_ok (n:Int) (w:World):Calls Tryz.prog 13 #[.int .i64 n] w (MatPost w (idE n) (diagM (List.replicate n.toNat Fr.one))):=by
 unfold idE
 by_cases h:n<1∨4<n
 ·rw [if_pos h]
  exact Identity_arg n _ w h
 ·rw [if_neg h]
  have e:n=((n.toNat:Nat):Int):=by omega
  have:=Identity_main n.toNat w zo zo
  rw [← e] at this
  exact this
end Go.Proofs.matrix
namespace Go.Proofs.matrix
open Go Go.RowKit Go.SW Go.Num Go.Mem Go.Proofs Go.Dec
theorem signed_ok (m:Value) (n:Nat) (b:Bool) (w:World) (h:Mag w m n) :
  Calls Tryz.prog 66 #[m,.bool b] w (fun e w'=>∃ v,e= .returned v∧Below w.heap.size w w'∧IntV w' v (sgd n b)):=zs30
theorem number_ok (z:Int) (hz:(Lib.decDigits z.natAbs).length≤600) (w:World) :
  Calls Tryz.prog 131 #[itxt z] w (fun e w'=>∃ v,e= .returned v∧Below w.heap.size w w'∧IntV w' v z):=zs31
theorem opposite_ok (v:Value) (z:Int) (w:World) (h:IntV w v z) :
  Calls Tryz.prog 74 #[v] w (fun e w'=>∃ v,e= .returned v∧Below w.heap.size w w'∧IntV w' v (-z)):=zs32
theorem scaled_ok (v u:Value) (z:Int) (n:Nat) (w:World) (h:IntV w v z) (hu:Mag w u n) (hz:sz 1000000000 z.natAbs≤549755813888) (hn:sz 1000000000 n≤549755813888) :
  Calls Tryz.prog 79 #[v,u] w (fun e w'=>∃ v,e= .returned v∧Below w.heap.size w w'∧IntV w' v (z*n)):=zs33
theorem sum_same (pa pb:Option Addr) (l m ca cb:Nat) (z y:Int) (b:Bool) (w:World) (h:Mag w (.slice pa l ca) z.natAbs) (h2:Mag w (.slice pb m cb) y.natAbs) (hz:decide (z<0)=b) (hy:decide (y<0)=b) (kz:sz 1000000000 z.natAbs≤549755813888) (ky:sz 1000000000 y.natAbs≤549755813888) :
  Calls Tryz.prog 126 #[.agg #[.slice pa l ca,.bool b],.agg #[.slice pb m cb,.bool b]] w (fun e w'=>∃ v,e= .returned v∧Below w.heap.size w w'∧IntV w' v (z+y)):=zs34
theorem sum_diff (pa pb:Option Addr) (l m ca cb:Nat) (z y:Int) (b:Bool) (w:World) (h:Mag w (.slice pa l ca) z.natAbs) (h2:Mag w (.slice pb m cb) y.natAbs) (hz:decide (z<0)=b) (hy:decide (y<0)= !b) (kz:sz 1000000000 z.natAbs≤549755813888) (ky:sz 1000000000 y.natAbs≤549755813888) :
  Calls Tryz.prog 126 #[.agg #[.slice pa l ca,.bool b],.agg #[.slice pb m cb,.bool !b]] w (fun e w'=>∃ v,e= .returned v∧Below w.heap.size w w'∧IntV w' v (z+y)):=zs35
theorem sum_ok (v u:Value) (z y:Int) (w:World) (h:IntV w v z) (h2:IntV w u y) (kz:sz 1000000000 z.natAbs≤549755813888) (ky:sz 1000000000 y.natAbs≤549755813888) :
  Calls Tryz.prog 126 #[v,u] w (fun e w'=>∃ v,e= .returned v∧Below w.heap.size w w'∧IntV w' v (z+y)):=zs36
theorem text_ok (v:Value) (z:Int) (w:World) (h:IntV w v z) (kz:sz 1000000000 z.natAbs≤1099511627776) (ht:Bld.Pow w) :
  Calls Tryz.prog 120 #[v] w (fun e w'=>e= .returned (itxt z)∧Below w.heap.size w w'):=zs37
theorem product_ok (v u:Value) (z y:Int) (w:World) (h:IntV w v z) (h2:IntV w u y) (kz:sz 1000000000 z.natAbs≤549755813888) (ky:sz 1000000000 y.natAbs≤549755813888) :
  Calls Tryz.prog 124 #[v,u] w (fun e w'=>∃ v,e= .returned v∧Below w.heap.size w w'∧IntV w' v (z*y)):=by
 obtain ⟨paH,lH,caH,rfl,H⟩:=h;replace H:=zh H
 obtain ⟨paH2,lH2,caH2,rfl,H2⟩:=h2;replace H2:=zh H2
 have KZ:=zh kz
 have KY:=zh ky
 clear kz ky
 go_enter Tryz.func124,Tryz.ntmps124
 go_wp2_with fail
 refine wp_region_walk [(.pure,0),(.read,1),(.pure,2),(.read,3),(.pure,5),(.read,6),(.pure,7),(.read,8),(.pure,9),(.ext,4),(.ext,10),(.fin,11)] zk zk zR zP ?_
 repeat (first|(refine walk_pure0 rfl rfl fun J h=>?_;go_simp;refine h _ ?_;clear h J)|(refine walk_load rfl rfl rfl rfl fun J h=>?_;go_simp;refine h _ ?_;clear h J;try go_simp))
 refine walk_ext rfl rfl (fun w1 hb1 J hJ=>?_);go_simp
 have BR:=Box.later (Box.drew (Box.at2 _ _ _ _ _)) hb1;have cBR:=BR.cell;have fBR:=BR.free
 refine (times_ok _ _ z.natAbs y.natAbs _ magA magA (Nat.le_trans KZ.out zo) (Nat.le_trans KY.out zo)).mono ?_
 rintro e v1 ⟨v,rfl,hc1,hv⟩
 obtain ⟨paHS,lHS,caHS,rfl⟩:=hv.slice;have HS:=zh hv;clear hv
 replace BR:=Box.later (BR) hc1;replace cBR:=BR.cell;replace fBR:=BR.free
 refine hJ _ _ hc1 ?_
 clear hJ J
 refine walk_ext rfl rfl (fun w2 hb2 J hJ=>?_);go_simp
 replace BR:=Box.later (BR) hb2;replace cBR:=BR.cell;replace fBR:=BR.free
 refine (signed_ok _ (z.natAbs*y.natAbs) _ _ magA).mono ?_
 rintro e v2 ⟨v,rfl,hc2,hv⟩
 obtain ⟨paHT,lHT,caHT,rfl,HT⟩:=hv;replace HT:=zh HT
 replace BR:=Box.later (BR) hc2;replace cBR:=BR.cell;replace fBR:=BR.free
 refine hJ _ _ hc2 ?_
 clear hJ J
 refine walk_fin [_] rfl (fun w5 hb5=>?_)
 replace BR:=Box.later (BR) hb5;replace cBR:=BR.cell;replace fBR:=BR.free
 go_wp2_with fail
 refine ret_c rfl rfl boxA Tryz.underlying112 rfl zk ?_
 exact ⟨_,rfl,belA,(IntV.of_neg magA).cast (sgd_prod z y)⟩
theorem quotient_ok (v u:Value) (z y:Int) (w:World) (h:IntV w v z) (h2:IntV w u y) (hy:y≠0) (hd:y ∣ z) (kz:sz 1000000000 z.natAbs≤549755813888) :
  Calls Tryz.prog 184 #[v,u] w (fun e w'=>∃ v,e= .returned v∧Below w.heap.size w w'∧IntV w' v (z / y)):=by
 obtain ⟨paH,lH,caH,rfl,H⟩:=h;replace H:=zh H
 obtain ⟨paH2,lH2,caH2,rfl,H2⟩:=h2;replace H2:=zh H2
 have KZ:=zh kz
 have HY:=zh hy
 have HE:Hid (sgd (z.natAbs / y.natAbs) (decide (z<0) != decide (y<0))=z / y):=sgd_quot hd
 clear kz hy hd
 go_enter Tryz.func184,Tryz.ntmps184
 go_wp2_with fail
 refine (divide_ok _ _ z.natAbs y.natAbs _ magA magA (Int.natAbs_pos.mpr HY.out) KZ.out).mono ?_
 rintro e v1 ⟨v,vr,rfl,hc1,hv,hvr⟩
 obtain ⟨paHQ,lHQ,caHQ,rfl⟩:=hv.slice;have HQ:=zh hv;clear hv;obtain ⟨paHQr,lHQr,caHQr,rfl⟩:=hvr.slice;have HQr:=zh hvr;clear hvr
 have BR:=Box.later (Box.at2 _ _ _ _ _) hc1;have cBR:=BR.cell;have fBR:=BR.free
 have B1:=Box.later (Box.alloc (Box.at1 _ _ _ _) _) hc1;have cB1:=B1.cell;have fB1:=B1.free
 have B0:=Box.later (Box.alloc (Box.alloc (Box.new _ _ _) _) _) hc1;have cB0:=B0.cell;have fB0:=B0.free
 go_wp2_with fail
 refine (signed_ok _ (z.natAbs / y.natAbs) _ _ magA).mono ?_
 rintro e v2 ⟨v,rfl,hc2,hv⟩
 obtain ⟨paHT,lHT,caHT,rfl,HT⟩:=hv;replace HT:=zh HT
 replace BR:=Box.later (BR) hc2;replace cBR:=BR.cell;replace fBR:=BR.free
 go_wp2_with fail
 refine ret_c rfl rfl boxA Tryz.underlying112 rfl zk ?_
 exact ⟨_,rfl,belA,(IntV.of_neg magA).cast HE.out⟩
end Go.Proofs.matrix
namespace Go.Proofs.matrix
open Go Go.RowKit Go.SW Go.Num Go.Mem Go.Proofs Go.Dec Go.Fra
theorem multiple_ok (x y:Value) (a b:Nat) (w:World) (hx:Mag w x a) (hy:Mag w y b) (ha:0<a) (ka:sz 1000000000 a≤549755813888) (kb:sz 1000000000 b≤549755813888) :
  Calls Tryz.prog 130 #[x,y] w (fun e w'=>∃ v,e= .returned v∧Below w.heap.size w w'∧Mag w' v (a*(b / a.gcd b))):=by
 obtain ⟨paH,lH,caH,rfl⟩:=hx.slice;have H:=zh hx;clear hx
 obtain ⟨paG,lG,caG,rfl⟩:=hy.slice;have G:=zh hy;clear hy
 have hg:0<a.gcd b:=Nat.gcd_pos_of_pos_left _ ha
 have kc:= @sz_div b (a.gcd b)
 obtain ⟨g,Eg⟩:∃ y:Nat,Hid (a.gcd b=y):=⟨_,zh rfl⟩
 rw [Eg.out] at hg kc ⊢
 obtain ⟨c,Ec⟩:∃ y:Nat,Hid (b / g=y):=⟨_,zh rfl⟩
 rw [Ec.out] at kc ⊢
 obtain ⟨d,Ed⟩:∃ y:Nat,Hid (a*c=y):=⟨_,zh rfl⟩
 rw [Ed.out]
 have HG:=zh hg
 have KC:=zh (Nat.le_trans kc kb)
 have KA:=zh ka
 have KB:=zh kb
 clear hg ha kc ka kb
 go_enter Tryz.func130,Tryz.ntmps130
 go_wp2_with fail
 refine ((gcd_ok _ _ a b _ magA magA KA.out KB.out).mono (by rw [Eg.out];exact fun _ _ h=>h)).mono ?_
 rintro e v1 ⟨v,rfl,hc1,hv⟩
 obtain ⟨paHg,lHg,caHg,rfl⟩:=hv.slice;have Hg:=zh hv;clear hv
 replace H:=zh (Mag.carry H.out magA hc1)
 replace G:=zh (Mag.carry G.out magA hc1)
 go_wp2_with fail
 refine ((divide_ok _ _ b g _ magA magA HG.out KB.out).mono (by rw [Ec.out];exact fun _ _ h=>h)).mono ?_
 rintro e v2 ⟨v,vr,rfl,hc2,hv,hvr⟩
 obtain ⟨paHc,lHc,caHc,rfl⟩:=hv.slice;have Hc:=zh hv;clear hv;obtain ⟨paHcr,lHcr,caHcr,rfl⟩:=hvr.slice;have Hcr:=zh hvr;clear hvr
 replace H:=zh (Mag.later H.out hc2)
 replace G:=zh (Mag.later G.out hc2)
 replace Hg:=zh (Mag.later Hg.out hc2)
 go_wp2_with fail
 refine ((times_ok _ _ a c _ magA magA (Nat.le_trans KA.out zo) (Nat.le_trans KC.out zo)).mono (by rw [Ed.out];exact fun _ _ h=>h)).mono ?_
 rintro e v3 ⟨v,rfl,hc3,hv⟩
 obtain ⟨paHd,lHd,caHd,rfl⟩:=hv.slice;have Hd:=zh hv;clear hv
 replace H:=zh (Mag.later H.out hc3)
 go_wp2_with fail
 go_ret
 exact ⟨_,rfl,belA,Hd.out⟩
theorem write_ok (x y:Value) (n d:Int) (w:World) (hx:IntV w x n) (hy:IntV w y d) (hd:d≠0) (kn:sz 1000000000 n.natAbs≤549755813888) (kd:sz 1000000000 d.natAbs≤549755813888) (ht:Bld.Pow w) :
  Calls Tryz.prog 64 #[x,y] w (fun e w'=>e= .returned (Fr.res (wr ((n:Rat) / (d:Rat))))∧Below w.heap.size w w'):=by
 obtain ⟨paH,lH,caH,rfl,H⟩:=hx;replace H:=zh H
 obtain ⟨paG,lG,caG,rfl,G⟩:=hy;replace G:=zh G
 have hdp:0<d.natAbs:=by omega
 rw [← make_eq n d hd]
 have hp:=mk_parts (sgd n.natAbs (!(decide (n<0) == decide (d<0)))) hdp
 rw [sgd_natAbs] at hp
 have hg:0<n.natAbs.gcd d.natAbs:=Nat.gcd_pos_of_pos_right _ hdp
 have kt:= @sz_div n.natAbs (n.natAbs.gcd d.natAbs)
 have kb:= @sz_div d.natAbs (n.natAbs.gcd d.natAbs)
 obtain ⟨q,Eq⟩:∃ y:Rat,Hid (mkRat (sgd n.natAbs (Bool.not (decide (n<0) == decide (d<0)))) d.natAbs=y):=⟨_,zh rfl⟩
 rw [show mkRat (sgd n.natAbs (!(decide (n<0) == decide (d<0)))) d.natAbs=q from Eq.out] at hp ⊢
 obtain ⟨g,Eg⟩:∃ y:Nat,Hid (n.natAbs.gcd d.natAbs=y):=⟨_,zh rfl⟩
 rw [Eg.out] at hg kt kb hp
 obtain ⟨t,Et⟩:∃ y:Nat,Hid (n.natAbs / g=y):=⟨_,zh rfl⟩
 rw [Et.out] at kt hp
 obtain ⟨b,Eb⟩:∃ y:Nat,Hid (d.natAbs / g=y):=⟨_,zh rfl⟩
 rw [Eb.out] at kb hp
 have hnum:q.num.natAbs=t:=by rw [hp.1,sgd_natAbs]
 have hden:q.den=b:=hp.2
 have htxt:q.num=sgd t (!(decide (n<0) == decide (d<0))):=by
  rw [hp.1]
  unfold sgd
  by_cases h0:t=0
  ·simp [h0]
  ·have hn0:n.natAbs≠0:=fun e=>h0 (by rw [← Et.out,e];simp)
   by_cases h1:n<0<;>by_cases h2:d<0<;>simp [h1,h2]<;>omega
 have HG:=zh hg
 have KT:=zh (Nat.le_trans kt kn)
 have KB:=zh (Nat.le_trans kb kd)
 have KN:=zh kn
 have KD:=zh kd
 have HT:=zh ht
 clear hg kt kb kn kd ht hp hd hdp
 rcases Nat.lt_or_ge 600 (Lib.decDigits t).length with h1|h1
 ·rw [wr_big (by unfold okq;rw [hnum,okn_no h1];rfl)]
  clear hnum hden htxt
  go_enter Tryz.func64,Tryz.ntmps64
  go_wp2_with fail
  refine ((gcd_ok _ _ n.natAbs d.natAbs _ magA magA KN.out KD.out).mono (by rw [Eg.out];exact fun _ _ h=>h)).mono ?_
  rintro e v1 ⟨v,rfl,hc1,hv⟩
  obtain ⟨paHg,lHg,caHg,rfl⟩:=hv.slice;have Hg:=zh hv;clear hv
  replace H:=zh (Mag.carry H.out magA hc1)
  replace G:=zh (Mag.carry G.out magA hc1)
  have BR:=Box.later (Box.at2 _ _ _ _ _) hc1;have cBR:=BR.cell;have fBR:=BR.free;have lBR:=BR.lt
  have B1:=Box.later (Box.alloc (Box.at1 _ _ _ _) _) hc1;have cB1:=B1.cell;have fB1:=B1.free;have lB1:=B1.lt
  have B0:=Box.later (Box.alloc (Box.alloc (Box.new _ _ _) _) _) hc1;have cB0:=B0.cell;have fB0:=B0.free;have lB0:=B0.lt
  go_wp2_with fail
  refine ((divide_ok _ _ n.natAbs g _ magA magA HG.out KN.out).mono (by rw [Et.out];exact fun _ _ h=>h)).mono ?_
  rintro e v2 ⟨v,vr,rfl,hc2,hv,hvr⟩
  obtain ⟨paHt,lHt,caHt,rfl⟩:=hv.slice;have Ht:=zh hv;clear hv;obtain ⟨paHtr,lHtr,caHtr,rfl⟩:=hvr.slice;have Htr:=zh hvr;clear hvr
  replace H:=zh (Mag.later H.out hc2)
  replace G:=zh (Mag.later G.out hc2)
  replace Hg:=zh (Mag.later Hg.out hc2)
  replace BR:=Box.later (BR) hc2;replace cBR:=BR.cell;replace fBR:=BR.free;replace lBR:=BR.lt
  replace B1:=Box.later (B1) hc2;replace cB1:=B1.cell;replace fB1:=B1.free;replace lB1:=B1.lt
  replace B0:=Box.later (B0) hc2;replace cB0:=B0.cell;replace fB0:=B0.free;replace lB0:=B0.lt
  go_wp2_with fail
  refine ((divide_ok _ _ d.natAbs g _ magA magA HG.out KD.out).mono (by rw [Eb.out];exact fun _ _ h=>h)).mono ?_
  rintro e v3 ⟨v,vr,rfl,hc3,hv,hvr⟩
  obtain ⟨paHb,lHb,caHb,rfl⟩:=hv.slice;have Hb:=zh hv;clear hv;obtain ⟨paHbr,lHbr,caHbr,rfl⟩:=hvr.slice;have Hbr:=zh hvr;clear hvr
  replace Ht:=zh (Mag.later Ht.out hc3)
  replace BR:=Box.later (BR) hc3;replace cBR:=BR.cell;replace fBR:=BR.free;replace lBR:=BR.lt
  replace B1:=Box.later (B1) hc3;replace cB1:=B1.cell;replace fB1:=B1.free;replace lB1:=B1.lt
  replace B0:=Box.later (B0) hc3;replace cB0:=B0.cell;replace fB0:=B0.free;replace lB0:=B0.lt
  go_wp2_with fail
  refine (length_ok _ t _ magA (Nat.le_trans KT.out zo) (HT.out.later belA)).mono ?_
  rintro e v4 ⟨rfl,hc4⟩
  replace BR:=Box.later (BR) hc4;replace cBR:=BR.cell;replace fBR:=BR.free;replace lBR:=BR.lt
  go_wp2_with fail
  refine ret_ct rfl rfl boxA Tryz.underlying59 rfl zk ?_
  exact ⟨rfl,belA⟩
 ·rcases Nat.lt_or_ge 600 (Lib.decDigits b).length with h2|h2
  ·rw [wr_big (by unfold okq;rw [hden,okn_no h2,Bool.and_false])]
   clear hnum hden htxt
   go_enter Tryz.func64,Tryz.ntmps64
   go_wp2_with fail
   refine ((gcd_ok _ _ n.natAbs d.natAbs _ magA magA KN.out KD.out).mono (by rw [Eg.out];exact fun _ _ h=>h)).mono ?_
   rintro e v1 ⟨v,rfl,hc1,hv⟩
   obtain ⟨paHg,lHg,caHg,rfl⟩:=hv.slice;have Hg:=zh hv;clear hv
   replace H:=zh (Mag.carry H.out magA hc1)
   replace G:=zh (Mag.carry G.out magA hc1)
   have BR:=Box.later (Box.at2 _ _ _ _ _) hc1;have cBR:=BR.cell;have fBR:=BR.free;have lBR:=BR.lt
   have B1:=Box.later (Box.alloc (Box.at1 _ _ _ _) _) hc1;have cB1:=B1.cell;have fB1:=B1.free;have lB1:=B1.lt
   have B0:=Box.later (Box.alloc (Box.alloc (Box.new _ _ _) _) _) hc1;have cB0:=B0.cell;have fB0:=B0.free;have lB0:=B0.lt
   go_wp2_with fail
   refine ((divide_ok _ _ n.natAbs g _ magA magA HG.out KN.out).mono (by rw [Et.out];exact fun _ _ h=>h)).mono ?_
   rintro e v2 ⟨v,vr,rfl,hc2,hv,hvr⟩
   obtain ⟨paHt,lHt,caHt,rfl⟩:=hv.slice;have Ht:=zh hv;clear hv;obtain ⟨paHtr,lHtr,caHtr,rfl⟩:=hvr.slice;have Htr:=zh hvr;clear hvr
   replace H:=zh (Mag.later H.out hc2)
   replace G:=zh (Mag.later G.out hc2)
   replace Hg:=zh (Mag.later Hg.out hc2)
   replace BR:=Box.later (BR) hc2;replace cBR:=BR.cell;replace fBR:=BR.free;replace lBR:=BR.lt
   replace B1:=Box.later (B1) hc2;replace cB1:=B1.cell;replace fB1:=B1.free;replace lB1:=B1.lt
   replace B0:=Box.later (B0) hc2;replace cB0:=B0.cell;replace fB0:=B0.free;replace lB0:=B0.lt
   go_wp2_with fail
   refine ((divide_ok _ _ d.natAbs g _ magA magA HG.out KD.out).mono (by rw [Eb.out];exact fun _ _ h=>h)).mono ?_
   rintro e v3 ⟨v,vr,rfl,hc3,hv,hvr⟩
   obtain ⟨paHb,lHb,caHb,rfl⟩:=hv.slice;have Hb:=zh hv;clear hv;obtain ⟨paHbr,lHbr,caHbr,rfl⟩:=hvr.slice;have Hbr:=zh hvr;clear hvr
   replace Ht:=zh (Mag.later Ht.out hc3)
   replace BR:=Box.later (BR) hc3;replace cBR:=BR.cell;replace fBR:=BR.free;replace lBR:=BR.lt
   replace B1:=Box.later (B1) hc3;replace cB1:=B1.cell;replace fB1:=B1.free;replace lB1:=B1.lt
   replace B0:=Box.later (B0) hc3;replace cB0:=B0.cell;replace fB0:=B0.free;replace lB0:=B0.lt
   go_wp2_with fail
   refine (length_ok _ t _ magA (Nat.le_trans KT.out zo) (HT.out.later belA)).mono ?_
   rintro e v4 ⟨rfl,hc4⟩
   replace Ht:=zh (Mag.later Ht.out hc4)
   replace Hb:=zh (Mag.later Hb.out hc4)
   replace BR:=Box.later (BR) hc4;replace cBR:=BR.cell;replace fBR:=BR.free;replace lBR:=BR.lt
   go_wp2_with fail
   refine (length_ok _ b _ magA (Nat.le_trans KB.out zo) (HT.out.later belA)).mono ?_
   rintro e v5 ⟨rfl,hc5⟩
   replace BR:=Box.later (BR) hc5;replace cBR:=BR.cell;replace fBR:=BR.free;replace lBR:=BR.lt
   go_wp2_with fail
   refine ret_ct rfl rfl boxA Tryz.underlying59 rfl zk ?_
   exact ⟨rfl,belA⟩
  ·rw [wr_ok (by unfold okq;rw [hnum,hden,okn_len.2 h1,okn_len.2 h2];rfl),htxt,hden]
   obtain ⟨s,Es⟩:∃ y:Int,Hid (sgd t (Bool.not (decide (n<0) == decide (d<0)))=y):=⟨_,zh rfl⟩
   rw [show sgd t (!(decide (n<0) == decide (d<0)))=s from Es.out]
   have KS:Hid (sz 1000000000 s.natAbs≤549755813888):=by unfold Hid;rw [← Es.out,sgd_natAbs];exact KT.out
   clear hnum hden htxt
   go_enter Tryz.func64,Tryz.ntmps64
   go_wp2_with fail
   refine ((gcd_ok _ _ n.natAbs d.natAbs _ magA magA KN.out KD.out).mono (by rw [Eg.out];exact fun _ _ h=>h)).mono ?_
   rintro e v1 ⟨v,rfl,hc1,hv⟩
   obtain ⟨paHg,lHg,caHg,rfl⟩:=hv.slice;have Hg:=zh hv;clear hv
   replace H:=zh (Mag.carry H.out magA hc1)
   replace G:=zh (Mag.carry G.out magA hc1)
   have BR:=Box.later (Box.at2 _ _ _ _ _) hc1;have cBR:=BR.cell;have fBR:=BR.free;have lBR:=BR.lt
   have B1:=Box.later (Box.alloc (Box.at1 _ _ _ _) _) hc1;have cB1:=B1.cell;have fB1:=B1.free;have lB1:=B1.lt
   have B0:=Box.later (Box.alloc (Box.alloc (Box.new _ _ _) _) _) hc1;have cB0:=B0.cell;have fB0:=B0.free;have lB0:=B0.lt
   go_wp2_with fail
   refine ((divide_ok _ _ n.natAbs g _ magA magA HG.out KN.out).mono (by rw [Et.out];exact fun _ _ h=>h)).mono ?_
   rintro e v2 ⟨v,vr,rfl,hc2,hv,hvr⟩
   obtain ⟨paHt,lHt,caHt,rfl⟩:=hv.slice;have Ht:=zh hv;clear hv;obtain ⟨paHtr,lHtr,caHtr,rfl⟩:=hvr.slice;have Htr:=zh hvr;clear hvr
   replace H:=zh (Mag.later H.out hc2)
   replace G:=zh (Mag.later G.out hc2)
   replace Hg:=zh (Mag.later Hg.out hc2)
   replace BR:=Box.later (BR) hc2;replace cBR:=BR.cell;replace fBR:=BR.free;replace lBR:=BR.lt
   replace B1:=Box.later (B1) hc2;replace cB1:=B1.cell;replace fB1:=B1.free;replace lB1:=B1.lt
   replace B0:=Box.later (B0) hc2;replace cB0:=B0.cell;replace fB0:=B0.free;replace lB0:=B0.lt
   go_wp2_with fail
   refine ((divide_ok _ _ d.natAbs g _ magA magA HG.out KD.out).mono (by rw [Eb.out];exact fun _ _ h=>h)).mono ?_
   rintro e v3 ⟨v,vr,rfl,hc3,hv,hvr⟩
   obtain ⟨paHb,lHb,caHb,rfl⟩:=hv.slice;have Hb:=zh hv;clear hv;obtain ⟨paHbr,lHbr,caHbr,rfl⟩:=hvr.slice;have Hbr:=zh hvr;clear hvr
   replace Ht:=zh (Mag.later Ht.out hc3)
   replace BR:=Box.later (BR) hc3;replace cBR:=BR.cell;replace fBR:=BR.free;replace lBR:=BR.lt
   replace B1:=Box.later (B1) hc3;replace cB1:=B1.cell;replace fB1:=B1.free;replace lB1:=B1.lt
   replace B0:=Box.later (B0) hc3;replace cB0:=B0.cell;replace fB0:=B0.free;replace lB0:=B0.lt
   go_wp2_with fail
   refine (length_ok _ t _ magA (Nat.le_trans KT.out zo) (HT.out.later belA)).mono ?_
   rintro e v4 ⟨rfl,hc4⟩
   replace Ht:=zh (Mag.later Ht.out hc4)
   replace Hb:=zh (Mag.later Hb.out hc4)
   replace BR:=Box.later (BR) hc4;replace cBR:=BR.cell;replace fBR:=BR.free;replace lBR:=BR.lt
   replace B1:=Box.later (B1) hc4;replace cB1:=B1.cell;replace fB1:=B1.free;replace lB1:=B1.lt
   replace B0:=Box.later (B0) hc4;replace cB0:=B0.cell;replace fB0:=B0.free;replace lB0:=B0.lt
   go_wp2_with fail
   refine (length_ok _ b _ magA (Nat.le_trans KB.out zo) (HT.out.later belA)).mono ?_
   rintro e v5 ⟨rfl,hc5⟩
   replace Ht:=zh (Mag.later Ht.out hc5)
   replace Hb:=zh (Mag.later Hb.out hc5)
   replace BR:=Box.later (BR) hc5;replace cBR:=BR.cell;replace fBR:=BR.free;replace lBR:=BR.lt
   replace B1:=Box.later (B1) hc5;replace cB1:=B1.cell;replace fB1:=B1.free;replace lB1:=B1.lt
   replace B0:=Box.later (B0) hc5;replace cB0:=B0.cell;replace fB0:=B0.free;replace lB0:=B0.lt
   go_wp2_with fail
   refine ((signed_ok _ t _ _ magA).mono (by rw [show sgd t (!(decide (n<0) == decide (d<0)))=s from Es.out];exact fun _ _ h=>h)).mono ?_
   rintro e v6 ⟨v,rfl,hc6,hv⟩
   obtain ⟨paHs,lHs,caHs,rfl,Hs⟩:=hv;replace Hs:=zh Hs
   replace Hb:=zh (Mag.later Hb.out hc6)
   replace BR:=Box.later (BR) hc6;replace cBR:=BR.cell;replace fBR:=BR.free;replace lBR:=BR.lt
   go_wp2_with fail
   refine ((text_ok _ s _ (IntV.of_neg magA) (Nat.le_trans KS.out zo) (HT.out.later belA)).mono (fun _ _ h=>by unfold itxt at h;exact h)).mono ?_
   rintro e v7 ⟨rfl,hc7⟩
   replace Hb:=zh (Mag.later Hb.out hc7)
   replace BR:=Box.later (BR) hc7;replace cBR:=BR.cell;replace fBR:=BR.free;replace lBR:=BR.lt
   go_wp2_with fail
   refine (digits_ok _ b _ magA (Nat.le_trans KB.out zo) (HT.out.later belA)).mono ?_
   rintro e v8 ⟨rfl,hc8⟩
   replace BR:=Box.later (BR) hc8;replace cBR:=BR.cell;replace fBR:=BR.free;replace lBR:=BR.lt
   go_wp2_with fail
   refine ret_ct rfl rfl boxA Tryz.underlying59 rfl zk ?_
   exact ⟨rfl,belA⟩
theorem infoI:(Tryz.prog.info? 112).map (fun i=>(i.zero,i.size,i.bytes))=some (some (.agg #[.slice none 0 0,.bool false]),2,32):=by kernel_rfl
theorem field_int (pa:Option Addr) (l ca:Nat) (b:Bool) (w:World):(Instr.field 112 (.agg #[.slice pa l ca,.bool b]) 0).run Tryz.prog w= .ok (.slice pa l ca) w:=by kernel_rfl
def CommonPost (w:World) (qs:List Rat) (e:Ending) (w':World):Prop:=∃ vt vb,e= .returned (.tuple #[vt,vb])∧Below w.heap.size w w'∧IntsV w' vt (qs.map (ctop (cden qs)))∧Mag w' vb (cden qs)
theorem common_ok (v:Value) (qs:List Rat) (T:TypeId) (w:World) (h:Frs w T v (qs.map Fr.of)) (hq:∀ q∈qs,okq q=true) (hl:qs.length≤1000) :
  Calls Tryz.prog 70 #[v] w (CommonPost w qs):=by
 obtain ⟨i0,hi,hz0,hz1,hz2⟩:=info_parts infoI
 obtain ⟨a,cap,rfl,hc1,hc2,hread⟩:=h.read
 have hln:(qs.map Fr.of).length=qs.length:=List.length_map _
 have hread2:∀ k (h:k<qs.length),∃ b off,a=some ⟨b,off,none⟩∧b<w.heap.size∧w.cell? ⟨b,off+k*2,none⟩=some (.string ⟨(Lib.itoa qs[k].num).toArray⟩)∧w.cell? ⟨b,off+k*2+1,none⟩=some (.string ⟨(Lib.itoa (qs[k].den:Int)).toArray⟩):=fun k hk=>by
  obtain ⟨b,off,e1,e2,e3,e4⟩:=hread k zo
  simp only [List.getElem_map] at e3 e4
  exact ⟨b,off,e1,e2,e3,e4⟩
 rw [hln] at hc1 ⊢
 have HRD:=zh hread2
 have hlen:∀ k (h:k<qs.length),(Lib.decDigits qs[k].num.natAbs).length≤600∧(Lib.decDigits ((qs[k].den:Nat):Int).natAbs).length≤600:=fun k h=>by
  have hq1:=hq _ (List.getElem_mem h)
  unfold okq at hq1
  rw [Bool.and_eq_true,okn_len,okn_len] at hq1
  exact ⟨hq1.1,(Int.natAbs_natCast qs[k].den).symm ▸ hq1.2⟩
 have HLEN:=zh hlen
 have HSZ:Hid (∀ k,k≤qs.length→sz 1000000000 (cden (qs.take k))≤549755813888):=zh fun k hk=>by
  have:=cden_sz (qs.take k) (fun q h=>hq q (List.mem_of_mem_take h))
  rw [List.length_take] at this
  omega
 have HPOS:Hid (∀ k,0<cden (qs.take k)):=zh fun k=>(cden_facts _).1
 have HDEN:Hid (∀ k (h:k<qs.length),sz 1000000000 qs[k].den≤549755813888∧sz 1000000000 qs[k].num.natAbs≤549755813888):=zh fun k h=>by
  have:=okq_sz (hq _ (List.getElem_mem h))
  exact ⟨Nat.le_trans this.2 zo,Nat.le_trans this.1 zo⟩
 have HDP:Hid (∀ k (h:k<qs.length),0<qs[k].den):=zh fun k h=>qs[k].den_pos
 clear hread hread2 hlen hq h hln
 have hfd:=field_int
 go_enter Tryz.func70,Tryz.ntmps70
 go_wp2_with fail
 go_loopw [13,3] (fun iv bv wr=>∃ k:Nat,iv= .int .i64 (k:Int)∧k≤qs.length∧Hid (Mag wr bv (cden (qs.take k)))∧Below w.heap.size w wr) (fun iv _ _=>qs.length - (intOf iv).toNat)
 case atStart=>exact ⟨0,rfl,by omega,zh (show Mag _ _ 1 from Mag.lit (d:=1) zo zo),belA⟩
 case round =>
  obtain ⟨k,rfl,hk,HB,hb⟩:=hrel
  have hbm:=HB.out
  obtain ⟨pb,lb,cb,rfl⟩:=hbm.slice
  clear hbm
  rcases Nat.lt_or_ge k qs.length with hlt|hge
  ·obtain ⟨b,off,rfl,hbl,hx1,hx2⟩:=HRD.out k hlt
   have cx1:=(hb.cell (p:=⟨b,off+k*2,none⟩) hbl).trans hx1
   have cx2:=(hb.cell (p:=⟨b,off+k*2+1,none⟩) hbl).trans hx2
   have HL2:=zh (HLEN.out k hlt).2
   have HS:=zh (HSZ.out k zo)
   have HP:=zh (HPOS.out k)
   have HD:=zh (HDEN.out k hlt).1
   have HT:=zh (cden_take hlt)
   clear hx1 hx2
   generalize cden (qs.take k)=ck at *
   generalize qs[k]=q at *
   go_wp2_with fail
   refine (number_ok (q.den:Int) HL2.out _).mono ?_
   rintro e v1 ⟨v,rfl,hc1,hv⟩
   obtain ⟨paHN,lHN,caHN,rfl,HN⟩:=hv;replace HN:=zh HN
   rw [Int.natAbs_natCast] at HN
   replace HB:=zh (Mag.carry HB.out magA hc1)
   go_wp2_with fail
   refine ((multiple_ok _ _ ck q.den _ magA magA HP.out HS.out HD.out).mono (by rw [← HT.out];exact fun _ _ h=>h)).mono ?_
   rintro e v2 ⟨v,rfl,hc2,hv⟩
   obtain ⟨paHM,lHM,caHM,rfl⟩:=hv.slice;have HM:=zh hv;clear hv
   go_wp2_with fail
   go_roundw
   case rel=>exact ⟨k+1,by go_num,by omega,HM,Bt hb belA⟩
   case measure=>exact zM
  ·obtain rfl:k=qs.length:=by omega
   rw [List.take_length] at HB
   have HDV:=zh (cden_facts qs).2
   have HP:=zh (HPOS.out qs.length)
   have HS:=zh (HSZ.out qs.length (Nat.le_refl _))
   rw [List.take_length] at HP HS
   have HX:Hid (∀ (k:Nat) (h:k<qs.length),ctop (cden qs) qs[k]=(qs.map (ctop (cden qs))).getD k 0):=zh fun k h=>by simp [h]
   have HXL:Hid ((qs.map (ctop (cden qs))).length=qs.length):=zh (List.length_map _)
   obtain ⟨xs,EXS⟩:∃ y:List Int,Hid (qs.map (ctop (cden qs))=y):=⟨_,zh rfl⟩
   obtain ⟨D,HDD⟩:∃ y:Nat,Hid (cden qs=y):=⟨_,zh rfl⟩
   rw [EXS.out] at HX HXL
   rw [HDD.out] at HX HB HDV HP HS
   go_wp2_with (at_make;refine wpList_make_full _ rfl _ _ 114 rfl w.heap.size 112 i0 (.agg #[.slice none 0 0,.bool false]) 2 Tryz.underlying114 hi hz0 hz1 _ _ _ _ qs.length rfl rfl zo zo (by rw [hz2];omega) (by unfold maxLen;omega) hb.size ?_)
   intro w1 hown hgrow
   have hbg:Below wr.heap.size wr w1:=(Below.refl _ _).grown hgrow (Nat.le_refl _) (fun k hk=>by cases hk)
   have HF:=zh (Fill.start (ok:=IntC (fun i=>xs.getD i 0)) hown)
   replace HB:=zh (HB.out.later hbg)
   have hb1:Below w.heap.size w w1:=Bt hb hbg
   have hgb:w.heap.size≤wr.heap.size:=hb.size
   generalize wr.heap.size=G at *
   clear hown hgrow hbg hb
   go_wp2_with fail
   go_loopw [29] (fun iv wr2=>∃ k:Nat,iv= .int .i64 (k:Int)∧k≤qs.length∧Hid (Fill wr2 G 112 qs.length k (IntC (fun i=>xs.getD i 0)))∧Hid (Mag wr2 (.slice pb lb cb) D)∧Below w.heap.size w wr2) (fun iv _=>qs.length - (intOf iv).toNat)
   case atStart=>exact ⟨0,rfl,by omega,HF,HB,hb1⟩
   case round =>
    obtain ⟨k,rfl,hk,HF,HB,hb⟩:=hrel
    rcases Nat.lt_or_ge k qs.length with hlt|hge
    ·obtain ⟨b,off,rfl,hbl,hx1,hx2⟩:=HRD.out k hlt
     have cx1:=(hb.cell (p:=⟨b,off+k*2,none⟩) hbl).trans hx1
     have cx2:=(hb.cell (p:=⟨b,off+k*2+1,none⟩) hbl).trans hx2
     have HL1:=zh (HLEN.out k hlt).1
     have HL2:=zh (HLEN.out k hlt).2
     have HD1:=zh (HDEN.out k hlt).1
     have HD2:=zh (HDEN.out k hlt).2
     have HQ:=zh (HDP.out k hlt)
     have HX2:=zh (HX.out k hlt)
     have lG:=HF.out.lt
     clear hx1 hx2
     generalize qs[k]=q at *
     have hks:= @sz_div D q.den
     have HKS:=zh (Nat.le_trans hks HS.out)
     clear hks
     obtain ⟨c,Ec⟩:∃ y:Nat,Hid (D / q.den=y):=⟨_,zh rfl⟩
     have HX3:Hid (q.num*(c:Int)=xs.getD k 0):=zh (by rw [← HX2.out,← Ec.out];rfl)
     rw [Ec.out] at HKS
     go_wp2_with fail
     refine (number_ok (q.den:Int) HL2.out _).mono ?_
     rintro e v1 ⟨v,rfl,hc1,hv⟩
     obtain ⟨paHN,lHN,caHN,rfl,HN⟩:=hv;replace HN:=zh HN
     rw [Int.natAbs_natCast] at HN
     replace HB:=zh (Mag.carry HB.out magA hc1)
     have hbx:=Box.later (Box.new _ _ _) hc1
     have cbx:=hbx.cell
     have lbx:=hbx.lt
     replace HF:=zh (HF.out.later (Bt belA hc1) (IntC.later (Bt belA hc1)))
     go_wp2_with fail
     refine ((divide_ok _ _ D q.den _ magA magA HQ.out HS.out).mono (by rw [Ec.out];exact fun _ _ h=>h)).mono ?_
     rintro e v2 ⟨v,vr,rfl,hc2,hv,hvr⟩
     obtain ⟨paHC,lHC,caHC,rfl⟩:=hv.slice;have HC:=zh hv;clear hv
     obtain ⟨paHCr,lHCr,caHCr,rfl⟩:=hvr.slice;have HCr:=zh hvr;clear hvr
     clear HCr
     replace HB:=zh (HB.out.later hc2)
     replace hbx:=hbx.later hc2
     replace cbx:=hbx.cell
     replace lbx:=hbx.lt
     replace HF:=zh (HF.out.later hc2 (IntC.later hc2))
     go_wp2_with fail
     refine (number_ok q.num HL1.out _).mono ?_
     rintro e v3 ⟨v,rfl,hc3,hv⟩
     obtain ⟨paHM,lHM,caHM,rfl,HM⟩:=hv;replace HM:=zh HM
     replace HB:=zh (HB.out.later hc3)
     replace HC:=zh (HC.out.later hc3)
     replace HF:=zh (HF.out.later hc3 (IntC.later hc3))
     go_wp2_with fail
     refine ((scaled_ok _ _ q.num c _ (IntV.of_neg magA) magA HD2.out HKS.out).mono (by rw [HX3.out];exact fun _ _ h=>h)).mono ?_
     rintro e v4 ⟨v,rfl,hc4,hv⟩
     obtain ⟨paHV,lHV,caHV,rfl,HV⟩:=hv;replace HV:=zh HV
     replace HB:=zh (HB.out.later hc4)
     replace HF:=zh (HF.out.later hc4 (IntC.later hc4))
     obtain ⟨⟨y1,cy1⟩,⟨y2,cy2⟩,fy⟩:=HF.out.cells hlt
     go_wp2_with fail
     have isG:=HF.out.isT
     go_roundw
     case rel =>
      exact ⟨k+1,by go_num,by omega,zh (HF.out.step hlt (fun i x y h=>IntC.setT isG.setCell zd _ _ _ (IntC.setT isG zd _ _ _ h)) ⟨_,_,_,rfl,rfl,(HV.out.setT isG zd).setT isG.setCell zd⟩),
       zh ((HB.out.setT isG zd).setT isG.setCell zd),(by have hG:wr.heap.size≥0:=Nat.zero_le _;exact ((Bt (Bt (Bt (Bt (Below_alloc hb _) hc1) hc2) hc3) hc4).setCell hgb _).setCell hgb _)⟩
     case measure=>exact zM
    ·obtain rfl:k=qs.length:=by omega
     have hxl:=HXL.out
     have hfin:IntsV wr (.slice (some ⟨G,0,none⟩) qs.length qs.length) xs:=by
      have:=HF.out
      rw [← hxl] at this ⊢
      exact IntsV.of_fill this zo
     have HFIN:=zh hfin
     clear hfin hxl
     go_wp2_with fail
     go_ret2
     exact ⟨_,_,rfl,hb,by rw [EXS.out];exact HFIN.out,by rw [HDD.out];exact HB.out⟩
def PairPost (w:World) (z:Int) (e:Ending) (w':World):Prop:=∃ v,e= .returned (.tuple #[v,.int .i64 0])∧Below w.heap.size w w'∧IntV w' v z
theorem dot1_ok (bx by':Nat) (vx vy:Value) (xs ys:List Int) (i:Nat) (w:World) (hx:IntsV w vx xs) (hy:IntsV w vy ys) (hbx:Box w bx #[vx] 114) (hby:Box w by' #[vy] 114)
  (h1:i<xs.length) (h2:i<ys.length) (k1:sz 1000000000 (xs.getD i 0).natAbs≤549755813888) (k2:sz 1000000000 (ys.getD i 0).natAbs≤549755813888) :
  Calls Tryz.prog 123 #[.int .i64 (i:Int),.pointer (some ⟨bx,0,none⟩),.pointer (some ⟨by',0,none⟩)] w (PairPost w (xs.getD i 0*ys.getD i 0)):=by
 obtain ⟨a,cap,rfl,hc1,hc2,hread⟩:=hx.read
 obtain ⟨a',cap',rfl,hc1',hc2',hread'⟩:=hy.read
 obtain ⟨b,off,pa,n,ca,rfl,hbl,cx1,cx2,hm⟩:=hread i h1
 obtain ⟨b',off',pa',n',ca',rfl,hbl',cy1,cy2,hm'⟩:=hread' i h2
 have H:=zh hm
 have H':=zh hm'
 have cbx:=hbx.cell
 have cby:=hby.cell
 have lx:=hbx.lt
 have ly:=hby.lt
 generalize xs.getD i 0=x at *
 generalize ys.getD i 0=u at *
 have K1:=zh k1
 have K2:=zh k2
 obtain ⟨z,Ez⟩:∃ y:Int,Hid (x*u=y):=⟨_,zh rfl⟩
 rw [Ez.out]
 clear hm hm' hread hread' hx hy k1 k2 hbx hby
 go_enter Tryz.func123,Tryz.ntmps123
 go_wp2_with fail
 refine wp_region_walk [(.read,0),(.pure,1),(.pure,2),(.read,3),(.read,4),(.pure,5),(.pure,6),(.read,7),(.ext,8),(.fin,9),(.fin,10)] zk zk zR zP ?_
 repeat (first|(refine walk_pure0 rfl rfl fun J h=>?_;go_simp;refine h _ ?_;clear h J)|(refine walk_load rfl rfl rfl rfl fun J h=>?_;go_simp;refine h _ ?_;clear h J;try go_simp))
 refine walk_ext rfl rfl (fun w1 hb1 J hJ=>?_);go_simp
 have BR:=Box.later (Box.drew (Box.new _ _ _)) hb1;have cBR:=BR.cell;have fBR:=BR.free;have lBR:=BR.lt
 refine ((product_ok _ _ x u _ (IntV.of_neg magA) (IntV.of_neg magA) K1.out K2.out).mono (by rw [Ez.out];exact fun _ _ h=>h)).mono ?_
 rintro e v1 ⟨v,rfl,hc1,hv⟩
 obtain ⟨paHV,lHV,caHV,rfl,HV⟩:=hv;replace HV:=zh HV
 replace BR:=Box.later (BR) hc1;replace cBR:=BR.cell;replace fBR:=BR.free;replace lBR:=BR.lt
 refine hJ _ _ hc1 ?_
 clear hJ J
 refine walk_fin [_,_] rfl (fun w5 hb5=>?_)
 replace BR:=Box.later (BR) hb5;replace cBR:=BR.cell;replace fBR:=BR.free;replace lBR:=BR.lt
 go_wp2_with fail
 refine ret_ct rfl rfl boxA Tryz.underlying112 rfl zk ?_
 exact ⟨_,rfl,belA,IntV.of_neg magA⟩
theorem dot2_ok (vx vy:Value) (x y:Int) (w:World) (hx:IntV w vx x) (hy:IntV w vy y) (k1:sz 1000000000 x.natAbs≤549755813888) (k2:sz 1000000000 y.natAbs≤549755813888) :
  Calls Tryz.prog 125 #[vx,vy] w (PairPost w (x+y)):=by
 obtain ⟨paH,lH,caH,rfl,H⟩:=hx;replace H:=zh H
 obtain ⟨paG,lG,caG,rfl,G⟩:=hy;replace G:=zh G
 have K1:=zh k1
 have K2:=zh k2
 obtain ⟨z,Ez⟩:∃ z:Int,Hid (x+y=z):=⟨_,zh rfl⟩
 rw [Ez.out]
 clear k1 k2
 go_enter Tryz.func125,Tryz.ntmps125
 go_wp2_with fail
 refine ((sum_ok _ _ x y _ (IntV.of_neg magA) (IntV.of_neg magA) K1.out K2.out).mono (by rw [Ez.out];exact fun _ _ h=>h)).mono ?_
 rintro e v1 ⟨v,rfl,hc1,hv⟩
 obtain ⟨paHV,lHV,caHV,rfl,HV⟩:=hv;replace HV:=zh HV
 have BR:=Box.later (Box.at2 _ _ _ _ _) hc1;have cBR:=BR.cell;have fBR:=BR.free;have lBR:=BR.lt
 go_wp2_with fail
 refine ret_ct rfl rfl boxA Tryz.underlying112 rfl zk ?_
 exact ⟨_,rfl,belA,IntV.of_neg magA⟩
def psum (f:Nat→Int):Nat→Int
 | 0=>0
 | k+1=>psum f k+f k
theorem psum_sz (f:Nat→Int) (K:Nat) (h:∀ j,sz 1000000000 (f j).natAbs≤K):∀ k,sz 1000000000 (psum f k).natAbs≤K+k
 | 0=>by simp [psum,sz_zero]
 | k+1=>by
  have h1:=psum_sz f K h k
  have h2:=h k
  have h3:=sz_absadd (psum f k) (f k)
  simp only [psum]
  omega
def SumPost (w:World) (z:Int) (e:Ending) (w':World):Prop:=∃ v,e= .returned (.tuple #[v,.int .i64 0])∧Below w.heap.size w w'∧IntV w' v z
theorem sum_dot (bx by':Nat) (vx vy:Value) (xs ys:List Int) (n:Nat) (w:World) (hx:IntsV w vx xs) (hy:IntsV w vy ys) (hbx:Box w bx #[vx] 114) (hby:Box w by' #[vy] 114)
  (h1:xs.length=n) (h2:ys.length=n) (h0:0<n) (hn:n≤1000) (k1:∀ i,sz 1000000000 (xs.getD i 0).natAbs≤1000000) (k2:∀ i,sz 1000000000 (ys.getD i 0).natAbs≤1000000) :
  Calls Tryz.prog 122 #[.int .i64 (n:Int),.func (.func 123) #[] #[.pointer (some ⟨bx,0,none⟩),.pointer (some ⟨by',0,none⟩)],.func (.func 125) #[] #[]] w (SumPost w (psum (fun i=>xs.getD i 0*ys.getD i 0) n)):=by
 have HD:Hid (∀ i,i<n→∀ w',Below w.heap.size w w'→Calls Tryz.prog 123 #[.int .i64 (i:Int),.pointer (some ⟨bx,0,none⟩),.pointer (some ⟨by',0,none⟩)] w' (PairPost w' (xs.getD i 0*ys.getD i 0))) :=
  zh fun i hi w' hb=>dot1_ok bx by' vx vy xs ys i w' (hx.later hb) (hy.later hb) (hbx.later hb) (hby.later hb) zo zo (Nat.le_trans (k1 i) zo) (Nat.le_trans (k2 i) zo)
 obtain ⟨f,hf⟩:∃ f:Nat→Int,f=fun i=>xs.getD i 0*ys.getD i 0:=⟨_,rfl⟩
 have hfz:∀ i,sz 1000000000 (f i).natAbs≤2000000:=fun i=>by
  rw [hf]
  have:=sz_absmul2 (xs.getD i 0) (ys.getD i 0)
  have:=k1 i
  have:=k2 i
  simp only
  omega
 have HFZ:Hid (∀ i,sz 1000000000 (f i).natAbs≤549755813888):=zh fun i=>Nat.le_trans (hfz i) zo
 have HPZ:Hid (∀ i,i≤n→sz 1000000000 (psum f i).natAbs≤549755813888):=zh fun i hi=>by
  have:=psum_sz f _ hfz i
  omega
 have HD2:Hid (∀ i,i<n→∀ w',Below w.heap.size w w'→Calls Tryz.prog 123 #[.int .i64 (i:Int),.pointer (some ⟨bx,0,none⟩),.pointer (some ⟨by',0,none⟩)] w' (PairPost w' (f i))):=by
  rw [hf]
  exact HD
 rw [← hf]
 clear hf hfz HD hx hy hbx hby h1 h2 k1 k2
 have hP0:f 0=psum f (0+1):=by simp [psum]
 have HP0:=zh hP0
 clear hP0
 go_enter Tryz.func122,Tryz.ntmps122
 go_wp2_with fail
 refine (HD2.out 0 h0 _ belA).mono ?_
 rintro e v1 ⟨v,rfl,hc1,hv⟩
 obtain ⟨paHV,lHV,caHV,rfl,HV⟩:=hv;replace HV:=zh HV
 rw [HP0.out] at HV ⊢
 have BR:=Box.later (Box.alloc (Box.new _ _ _) _) hc1;have cBR:=BR.cell;have fBR:=BR.free;have lBR:=BR.lt
 go_wp2_with fail
 have hbt:=Box.new v1 #[.slice paHV lHV caHV,.bool (decide (psum f (0+1)<0))] 112
 have hbr:=BR.alloc (.cells #[.slice paHV lHV caHV,.bool (decide (psum f (0+1)<0))] 112 (0,0))
 have hbw:Below w.heap.size w v1:=Bt belA hc1
 have hnd:=lBR
 clear BR cBR fBR lBR
 obtain ⟨B9,hB9⟩:∃ b,v1.heap.size=b:=⟨_,rfl⟩
 rw [hB9] at hbt hnd ⊢
 have HB9:=zh hB9
 clear hB9
 go_loopw [11] (fun iv wr=>∃ (k:Nat) (pa:Option Addr) (l ca:Nat),iv= .int .i64 (k:Int)∧1≤k∧k≤n∧Hid (Box wr B9 #[.slice pa l ca,.bool (decide (psum f k<0))] 112)∧Hid (Mag wr (.slice pa l ca) (psum f k).natAbs)∧Hid (Box wr w.heap.size #[.slice none 0 0,.bool false] 112)∧Below w.heap.size w wr) (fun iv _=>n - (intOf iv).toNat)
 case atStart=>exact ⟨1,_,_,_,rfl,by omega,by omega,zh hbt,zh magA,zh hbr,Below_alloc hbw _⟩
 case round =>
  obtain ⟨k,pa,l,ca,rfl,hk1,hk2,HT,HM,HR,hb⟩:=hrel
  have ct:=HT.out.cell
  have ft:=HT.out.free
  have lt:=HT.out.lt
  have cr:=HR.out.cell
  have fr:=HR.out.free
  have lr:=HR.out.lt
  have hne:w.heap.size≠B9:=by omega
  have hne2:B9≠w.heap.size:=by omega
  rcases Nat.lt_or_ge k n with hlt|hge
  ·have HF:=zh (HFZ.out k)
   have HP:=zh (HPZ.out k zo)
   have HS:Hid (psum f k+f k=psum f (k+1)):=zh rfl
   go_wp2_with fail
   refine (HD2.out k hlt _ hb).mono ?_
   rintro e v2 ⟨v,rfl,hc2,hv⟩
   obtain ⟨paHX,lHX,caHX,rfl,HX⟩:=hv;replace HX:=zh HX
   have ht2:=HT.out.later hc2
   replace ct:=ht2.cell
   replace ft:=ht2.free
   replace lt:=ht2.lt
   have hr2:=HR.out.later hc2
   replace HM:=zh (HM.out.later hc2)
   go_wp2_with fail
   refine ((dot2_ok _ _ (psum f k) (f k) _ (IntV.of_neg magA) (IntV.of_neg magA) HP.out HF.out).mono (by rw [HS.out];exact fun _ _ h=>h)).mono ?_
   rintro e v3 ⟨v,rfl,hc3,hv⟩
   obtain ⟨paHY,lHY,caHY,rfl,HY⟩:=hv;replace HY:=zh HY
   have ht3:=(ht2.alloc _).later hc3
   replace ct:=ht3.cell
   replace ft:=ht3.free
   replace lt:=ht3.lt
   have hr3:=(hr2.alloc _).later hc3
   have is3:=ht3.isT
   clear ht2 hr2 cr fr lr
   go_wp2_with fail
   go_roundw
   case rel =>
    refine ⟨k+1,_,_,_,by go_num,by omega,by omega,zh ((ht3.set 0 _).set 1 _),zh ((HY.out.setT is3 zd).setT is3.setCell zd),zh ((hr3.setOther _ hne).setOther _ hne),?_⟩
    exact ((Bt (Below_alloc (Bt hb hc2) _) hc3).setCell (by simp;omega) _).setCell (by simp;omega) _
   case measure=>exact zM
  ·obtain rfl:k=n:=by omega
   have isr:=HR.out.isT
   go_wp2_with fail
   refine ret_ct rfl rfl ((HR.out.set 0 _).set 1 _) Tryz.underlying112 rfl zk ?_
   exact ⟨_,rfl,(hb.setCell zi _).setCell zi _,IntV.of_neg ((HM.out.setT isr zd).setT isr.setCell zd)⟩
def dotp (xs ys:List Int):Int:=psum (fun i=>xs.getD i 0*ys.getD i 0) xs.length
theorem dot_ok (vx vy:Value) (xs ys:List Int) (w:World) (hx:IntsV w vx xs) (hy:IntsV w vy ys)
  (h2:ys.length=xs.length) (h0:0<xs.length) (hn:xs.length≤1000) (k1:∀ i,sz 1000000000 (xs.getD i 0).natAbs≤1000000) (k2:∀ i,sz 1000000000 (ys.getD i 0).natAbs≤1000000) :
  Calls Tryz.prog 65 #[vx,vy] w (fun e w'=>∃ v,e= .returned v∧Below w.heap.size w w'∧IntV w' v (dotp xs ys)):=by
 obtain ⟨a,cap,rfl,hc1,hc2, -⟩:=hx.read
 obtain ⟨a',cap',rfl,hc1',hc2', -⟩:=hy.read
 have HS:Hid (∀ bx by' w',Below w.heap.size w w'→Box w' bx #[.slice a xs.length cap] 114→Box w' by' #[.slice a' ys.length cap'] 114→Calls Tryz.prog 122 #[.int .i64 (xs.length:Int),.func (.func 123) #[] #[.pointer (some ⟨bx,0,none⟩),.pointer (some ⟨by',0,none⟩)],.func (.func 125) #[] #[]] w' (SumPost w' (dotp xs ys))) :=
  zh fun bx by' w' hb h3 h4=>sum_dot bx by' _ _ xs ys xs.length w' (hx.later hb) (hy.later hb) h3 h4 rfl h2 h0 hn k1 k2
 obtain ⟨z,Ez⟩:∃ z:Int,Hid (dotp xs ys=z):=⟨_,zh rfl⟩
 rw [Ez.out] at HS ⊢
 clear hx hy k1 k2 h0 h2
 have hmf:∀ (fn:Fn) (first cap:Array Value) (w:World),(Instr.makeFunc fn first cap).run Tryz.prog w= .ok (.func fn first cap) w:=fun _ _ _ _=>rfl
 go_enter Tryz.func65,Tryz.ntmps65
 go_wp2_with fail
 refine (HS.out _ _ _ belA boxA boxA).mono ?_
 rintro e v1 ⟨v,rfl,hc1,hv⟩
 obtain ⟨paHV,lHV,caHV,rfl,HV⟩:=hv;replace HV:=zh HV
 have BR:=Box.later (Box.at2 _ _ _ _ _) hc1;have cBR:=BR.cell;have fBR:=BR.free;have lBR:=BR.lt
 go_wp2_with fail
 refine ret_c rfl rfl boxA Tryz.underlying112 rfl zk ?_
 exact ⟨_,rfl,belA,IntV.of_neg magA⟩
end Go.Proofs.matrix
namespace Go.Proofs.matrix
open Go Go.RowKit Go.Shelf Go.SW Go.Num Go.Mem Go.Proofs Go.Dec Go.Fra
attribute [local go_sem] Oper.semAt_some
theorem infoRow:(Tryz.prog.info? 114).map (fun i=>(i.zero,i.size,i.bytes))=some (some (.slice none 0 0),1,24):=by kernel_rfl
theorem infoMag:(Tryz.prog.info? 108).map (fun i=>(i.zero,i.size,i.bytes))=some (some (.slice none 0 0),1,24):=by kernel_rfl
abbrev RM:=List (List Rat)
def RM.fr (m:RM):List (List Fr):=m.map fun r=>r.map Fr.of
def rtop (r:List Rat):List Int:=r.map (ctop (cden r))
def TabV (w:World) (v:Value) (m:RM):Prop:=∃ va na ca vb nb cb,v= .agg #[.slice va na ca,.slice vb nb cb]∧RowsI w (.slice va na ca) (m.map rtop)∧MagsV w (.slice vb nb cb) (m.map cden)
theorem Box.keep {l:List TypeId} {w w':World} {b:Nat} {cs:Array Value} {T:TypeId} (h:Box w b cs T) (k:Keep l w w') (hT:T∉l):Box w' b cs T:=k _ _ _ hT h
theorem keeps_grown {w w':World} {base k:Nat} {e:TypeId} {s:Nat} {v:Value} {xs:List Value} (hown:w.ownsRow base e s v k xs) (hg:w.grownBy w' v.ownBlock):KeepsOthers w w' :=
 ⟨hg.size,fun i o hi ho=>by
  rw [hg.block i (Array.getElem?_eq_some_iff.1 hi).1 ?_]
  ·exact hi
  ·intro he
   obtain ⟨-, ⟨rfl, -⟩|⟨g,cap,cur,rfl, -, hgg, -⟩⟩:=hown
   ·cases he
   ·simp only [Value.ownBlock,Option.some.injEq] at he
    subst he
    rw [hi] at hgg
    cases hgg
    cases ho⟩
theorem all2_upto {β γ:Type} {R:γ→β→Prop} (f:List Rat→γ) (m:RM) {n:Nat} (hn:n=m.length) {rs:List β} (h:All2 (fun (i:Fin n) r=>R (f (m.getD i.1 [])) r) (upto n (Nat.le_refl _)) rs):All2 R (m.map f) rs:=by
 obtain ⟨h1,h2⟩:=h
 rw [upto_length] at h1
 refine ⟨by rw [h1,hn,List.length_map],fun i hi hi'=>?_⟩
 have hin:i<n:=by rw [List.length_map] at hi;omega
 have:=h2 i (by rw [upto_length];exact hin) hi'
 have e:((upto n (Nat.le_refl _))[i]'(by rw [upto_length];exact hin))=⟨i,hin⟩:=by simp [upto]
 rw [e] at this
 have him:i<m.length:=by omega
 simpa [him] using this
def ReadI (w:World) (Bt:Nat) (m:RM) (n:Nat) (pre:List (Fin n)) (W:World):Prop :=
 ∃ va na ca vb nb cb rs bs,Box W Bt #[.slice va na ca,.slice vb nb cb] 105∧W.ownsRow w.heap.size 114 1 (.slice va na ca) pre.length rs∧W.ownsRow w.heap.size 108 1 (.slice vb nb cb) pre.length bs ∧
  All2 (fun (i:Fin n) r=>IntsV W r (rtop (m.getD i.1 []))) pre rs∧All2 (fun (i:Fin n) r=>Mag W r (cden (m.getD i.1 []))) pre bs
theorem ReadI.kept {w:World} {Bt:Nat} {m:RM} {n:Nat} {pre:List (Fin n)} {W W':World} (h:ReadI w Bt m n pre W) (k:Keep [] W W'):ReadI w Bt m n pre W':=by
 obtain ⟨va,na,ca,vb,nb,cb,rs,bs,h1,h2,h3,h4,h5⟩:=h
 exact ⟨va,na,ca,vb,nb,cb,rs,bs,k _ _ _ zi h1,owns_kept h2 k zi,owns_kept h3 k zi,h4.mono fun _ _ h=>h.kept k zi zi,h5.mono fun _ _ h=>Fra.Mag.kept h k zi⟩
def FreshT (n:Nat) (v:Value):Prop:=∀ pa k c s,v= .agg #[.slice (some pa) k c,s]→n≤pa.block
theorem freshT_owns {w:World} {base k n c:Nat} {T:TypeId} {va:Option Addr} {s:Value} {xs:List Value} (h:w.ownsRow base T 1 (.slice va n c) k xs):FreshT base (.agg #[.slice va n c,s]):=by
 intro pa k' c' s' e
 simp only [Value.agg.injEq] at e
 have e1:Value.slice va n c= .slice (some pa) k' c':=by
  have:=congrArg (fun a=>a[0]?) e
  simpa using this
 obtain ⟨-, ⟨h2, -⟩|⟨g,cap,cur,h3,h4, -⟩⟩:=h
 ·rw [e1] at h2;cases h2
 ·rw [e1] at h3
  simp only [Value.slice.injEq,Option.some.injEq] at h3
  rw [h3.1]
  exact h4
theorem read_own (v:Value) (m:RM) (w:World) (h:MatV w v m.fr) (hm:m.length≤4) (hq:∀ r∈m,r.length≤4∧∀ q∈r,okq q=true) :
  Calls Tryz.prog 62 #[v] w fun e w'=>∃ v,e= .returned v∧Below w.heap.size w w'∧TabV w' v m∧FreshT w.heap.size v:=by
 obtain ⟨ir,ir1,ir2,ir3,ir4⟩:=info_parts infoRow
 obtain ⟨im,im1,im2,im3,im4⟩:=info_parts infoMag
 obtain ⟨rs,hR,hlen,hF⟩:=h
 have hlm:rs.length=m.length:=hlen.trans (List.length_map _)
 have HFR:Hid (∀ i (h:i<rs.length),Frs w 59 rs[i] ((m.getD i []).map Fr.of)∧(m.getD i []).length≤4∧∀ q∈m.getD i [],okq q=true):=zh fun i hi=>by
  have him:i<m.length:=by omega
  have e:m.getD i []=m[i]:=by simp [him]
  rw [e]
  refine ⟨?_,hq _ (List.getElem_mem _)⟩
  have:=hF i hi (by rw [← hlen];exact hi)
  simpa [RM.fr] using this
 have HR:=zh hR
 have HLM:=zh hlm
 have hR2:=hR
 obtain ⟨a,cap,rfl, -⟩:=hR2
 clear hR hF hlen hlm hq
 refine (callsIn_wide (n:=3)).1 ?_
 refine callsIn_of_wp_marks Tryz.func62 rfl trivial ?_ rfl
 simp only [Tryz.ntmps62,List.size_toArray,List.length_cons,List.length_nil,Nat.reduceAdd,Nat.reduceSub,Array.replicate_succ,Array.replicate_zero,List.push_toArray,List.append_toArray,List.nil_append,List.cons_append]
 gi_wp2_with (refine ⟨trivial,?_⟩;gi_at_call 58;refine (visit_in Fence.wide 2 trivial rfl _ _ _ _).mono ?_;rintro e w' ⟨rfl,rfl⟩)
 obtain ⟨W0,hW0⟩:∃ W0,((w.alloc (.cells #[.slice none 0 0,.slice none 0 0] 105)).alloc (.cells #[.slice none 0 0,.slice none 0 0] 105)).alloc (.cells #[.slice a rs.length cap] 23)=W0:=⟨_,rfl⟩
 have hB0:Below w.heap.size w W0:=by rw [← hW0];exact belA
 have hbx0:Box W0 w.heap.size #[.slice none 0 0,.slice none 0 0] 105:=by rw [← hW0];exact boxA
 have hbx1:Box W0 (w.heap.size+1) #[.slice none 0 0,.slice none 0 0] 105:=by rw [← hW0];exact boxA
 have hbx2:Box W0 (w.heap.size+1+1) #[.slice a rs.length cap] 23:=by rw [← hW0];exact boxA
 rw [hW0]
 refine wpIn_rangeFunc_ownF (α:=Fin rs.length) rfl zo (gf:=115) (lb:=#[.pointer (some ⟨w.heap.size+1+1,0,none⟩)]) rfl trivial (enters_of Tryz.func115 zk rfl)
  (visit_stops Fence.wide 2 trivial rfl zo (w.heap.size+1+1) w.heap.size _ rs w _ hbx2.lt hB0.size ((hbx2.cell 0).trans rfl) HR.out (Nat.le_refl _) hB0) belowK_t (belowK_b hB0.size) (Below.refl _ _) (fun _=>rfl)
  (fun pre W=>(ReadI w (w.heap.size+1) m rs.length pre W∧Box W w.heap.size #[.slice none 0 0,.slice none 0 0] 105)∧Below w.heap.size w W)
  (fun _ _ _=>False)
  (OwnFrom.and (Own.from (fun s A B row hs hg hr=>⟨hs.1.kept (Keep.others hg hr),box_kept hs.2 hg hr⟩) _) (ownFrom_below (Nat.le_refl _) hB0.size))
  (fun _ _ _ _ _ hs _ _=>hs)
  ⟨⟨⟨_,_,_,_,_,_,[],[],hbx1,World.ownsRow_nil _ _ _ _,World.ownsRow_nil _ _ _ _,All2.nil,All2.nil⟩,hbx0⟩,hB0⟩ ?a1 ?assign ?body ?done ?stop
 case assign =>
  intro l x W K hK
  unfold enc
  gi_wp2
  exact hK
 case body =>
  rintro l pre x W ⟨⟨hI,hb0⟩,hB⟩ hpl
  obtain ⟨va,na,ca,vb,nb,cb,xs,bs,hT,ho1,ho2,h4,h5⟩:=hI
  obtain ⟨hfr,hq1,hq2⟩:=HFR.out x.1 x.2
  have hpn:pre.length<4:=by have:=HLM.out;omega
  have hx0:rtop (m.getD x.1 [])=(m.getD x.1 []).map (ctop (cden (m.getD x.1 []))):=rfl
  obtain ⟨a',cap',hre, -⟩:=hfr.read
  have HCM:=zh (common_ok rs[x.1] (m.getD x.1 []) 59 W (hfr.later hB) hq2 zo)
  rw [hre] at HCM
  clear hfr hq1 hq2
  generalize rs[x.1]=rx at *
  subst hre
  unfold CommonPost at HCM
  rw [← hx0] at HCM
  have H4:=zh h4
  have H5:=zh h5
  have HO1:=zh ho1
  have HO2:=zh ho2
  clear h4 h5 ho1 ho2 hx0
  have hlr:((m.getD x.1 []).map Fr.of).length=(m.getD x.1 []).length:=List.length_map _
  rw [hlr] at HCM ⊢
  have HX:Hid (∃ r:List Rat,m.getD x.1 []=r):=zh ⟨_,rfl⟩
  obtain ⟨r,hr⟩:=HX.out
  rw [hr] at HCM ⊢
  have HRR:=zh hr
  clear hr HX hlr
  gi_wp2_with (first
   | (refine ⟨trivial,?_⟩;gi_at_call 70;refine (CallsIn.inRound l (callsIn_wide.2 HCM.out)).mono ?_;rintro e w1 ⟨vt,vd,rfl,hc1,hv1,hv2⟩;obtain ⟨at',ct',rfl, -⟩:=hv1.read;obtain ⟨ad,nd,cd,rfl⟩:=hv2.slice;have HV1:=zh hv1;have HV2:=zh hv2;clear hv1 hv2;have hT1:=hT.later hc1;have cT:=hT1.cell;have fT:=hT1.free;have lT:=hT1.lt)
   | (gi_at_builtin;refine wpListIn_append_own _ rfl (.tmp 18) (.tmp 20) 102 rfl w.heap.size 114 ir (.slice none 0 0) 1 24 Tryz.underlying102 ir1 ir2 ir3 ir4 rfl zd _ _ _ rfl ((owns_later HO1.out hc1).alloc _) ⟨w1.heap.size,0,none⟩ 1 1 [.slice at' (rtop r).length ct'] rfl rfl (by intro t u ht;match t,ht with|0,ht=>simp at ht;subst ht;simp [Addr.add]) (by intro u hu;simp at hu;subst hu;rfl) (by unfold maxLen;omega) zo (by have:=hB.size;have:=hc1.size;simp;omega) ?_))
  intro v2 w2 hown2 hgrow2 _
  obtain ⟨g2,c2,rfl⟩:=ownsRow_succ hown2
  have k2:Keep [114] w1 w2:=Keep.trans (Keep.of_below belA) (Keep.grown ((owns_later HO1.out hc1).alloc _) hgrow2)
  have K2:Hid (Keep [114] W w2):=zh (Keep.trans (Keep.of_below hc1) k2)
  have hT2:=k2 _ _ _ zd hT1
  replace cT:=hT2.cell
  replace fT:=hT2.free
  replace lT:=hT2.lt
  have isT:=hT2.isT
  have hbw1:Below w.heap.size w w1:=hB.trans (hc1.mono hB.size)
  have hbw2:Below w.heap.size w w2:=(Below_alloc hbw1 _).grown hgrow2 (by have:=hbw1.size;simp;omega) (fun k hk=>(HO1.out.lt k hk).1)
  have ko2:KeepsOthers w1 w2:=(KeepsOthers.alloc _ _).trans (keeps_grown ((owns_later HO1.out hc1).alloc _) hgrow2)
  have hWw2:Below w.heap.size W w2:=(Below.alloc (hc1.mono hB.size) hbw1.size _).grown hgrow2 (by have:=hbw1.size;simp;omega) (fun k hk=>(HO1.out.lt k hk).1)
  have HW2:=zh hown2
  have KV:=zh k2
  have HO2':Hid ((w2.setCell ⟨w.heap.size+1,0,none⟩ (.slice (some ⟨g2,0,none⟩) (pre.length+1) c2)).ownsRow w.heap.size 108 1 (.slice vb nb cb) pre.length bs):=zh (owns_kept (owns_kept HO2.out K2.out zd) (Keep.setCell isT) zd)
  have szw2:=hbw2.size
  clear hown2 hgrow2 k2 hT1
  gi_wp2_with (gi_at_builtin;refine wpListIn_append_own _ rfl (.tmp 24) (.tmp 26) 103 rfl w.heap.size 108 im (.slice none 0 0) 1 24 Tryz.underlying103 im1 im2 im3 im4 rfl zd _ _ _ rfl (HO2'.out.alloc _) ⟨w2.heap.size,0,none⟩ 1 1 [.slice ad nd cd] rfl rfl (by intro t u ht;match t,ht with|0,ht=>(simp at ht;subst ht;exact ((Box.new_at (b:=w2.heap.size) zi).cell 0).trans rfl)) (by intro u hu;simp at hu;subst hu;rfl) (by unfold maxLen;omega) zo (by simp;omega) ?_)
  intro v3 w3 hown3 hgrow3 _
  obtain ⟨g3,c3,rfl⟩:=ownsRow_succ hown3
  have k3:Keep [108] (w2.setCell ⟨w.heap.size+1,0,none⟩ (.slice (some ⟨g2,0,none⟩) (pre.length+1) c2)) w3:=Keep.trans (Keep.of_below belA) (Keep.grown (HO2'.out.alloc _) hgrow3)
  have hT3:=k3 _ _ _ zd (hT2.set 0 (.slice (some ⟨g2,0,none⟩) (pre.length+1) c2))
  replace cT:=hT3.cell
  replace fT:=hT3.free
  replace lT:=hT3.lt
  have isT3:=hT3.isT
  have hbw3:Below w.heap.size w w3:=(Below_alloc (hbw2.setCell zi _) _).grown hgrow3 (by simp;omega) (fun k hk=>(HO2'.out.lt k hk).1)
  have ko3:KeepsOthers (w2.setCell ⟨w.heap.size+1,0,none⟩ (.slice (some ⟨g2,0,none⟩) (pre.length+1) c2)) w3:=(KeepsOthers.alloc _ _).trans (keeps_grown (HO2'.out.alloc _) hgrow3)
  have hWw3:Below w.heap.size W w3:=(Below.alloc (hWw2.setCell zi _) (by simp;omega) _).grown hgrow3 (by simp;omega) (fun k hk=>(HO2'.out.lt k hk).1)
  have HW3:=zh hown3
  have K3:Hid (Keep [108] (w2.setCell ⟨w.heap.size+1,0,none⟩ (.slice (some ⟨g2,0,none⟩) (pre.length+1) c2)) w3):=zh k3
  clear hown3 hgrow3 k3
  gi_wp2
  have hbz1:=Box.keep (hb0.later hc1) KV.out zd
  have hbz2:=hbz1.setOther (.slice (some ⟨g2,0,none⟩) (pre.length+1) c2) (a:=⟨w.heap.size+1,0,none⟩) zi
  have hbz3:=Box.keep hbz2 K3.out zd
  have hbz:=hbz3.setOther (.slice (some ⟨g3,0,none⟩) (pre.length+1) c3) (a:=⟨w.heap.size+1,1,none⟩) zi
  refine ⟨((((keeps_of_below hc1).trans ko2).trans (KeepsOthers.setCell _ _ _)).trans ko3).trans (KeepsOthers.setCell _ _ _),hWw3.setCell zi _,⟨⟨_,_,_,_,_,_,xs++[.slice at' (rtop r).length ct'],bs++[.slice ad nd cd],hT3.set 1 _,?_,?_,?_,?_⟩,hbz⟩,hbw3.setCell zi _⟩
  ·rw [List.length_append]
   exact owns_kept (owns_kept (owns_kept HW2.out (Keep.setCell isT) zd) K3.out zd) (Keep.setCell isT3) zd
  ·rw [List.length_append]
   exact owns_kept HW3.out (Keep.setCell isT3) zd
  ·have kk:Keep [114,105,108] w1 (w3.setCell ⟨w.heap.size+1,1,none⟩ (.slice (some ⟨g3,0,none⟩) (pre.length+1) c3)) :=
    (((KV.out.mono zi).trans ((Keep.setCell isT).mono zi)).trans (K3.out.mono zi)).trans ((Keep.setCell isT3).mono zi)
   refine All2.snoc ((H4.out.mono fun _ _ h=>h.later hc1).mono fun _ _ h=>IntsV.kept h kk zd zd) ?_
   rw [HRR.out]
   exact IntsV.kept HV1.out kk zd zd
  ·have kk:Keep [114,105,108] w1 (w3.setCell ⟨w.heap.size+1,1,none⟩ (.slice (some ⟨g3,0,none⟩) (pre.length+1) c3)) :=
    (((KV.out.mono zi).trans ((Keep.setCell isT).mono zi)).trans (K3.out.mono zi)).trans ((Keep.setCell isT3).mono zi)
   refine All2.snoc ((H5.out.mono fun _ _ h=>h.later hc1).mono fun _ _ h=>Fra.Mag.kept h kk zd) ?_
   rw [HRR.out]
   exact Fra.Mag.kept HV2.out kk zd
 case done =>
  rintro D ys W hD rfl ⟨⟨hI,hb0⟩,hB⟩ hK
  obtain ⟨va,na,ca,vb,nb,cb,xs,bs,hT,ho1,ho2,h4,h5⟩:=hI
  have cT:=hT.cell
  have fT:=hT.free
  have c0:=hb0.cell
  have f0:=hb0.free
  have is0:=hb0.isT
  have H4:=zh (all2_upto (R:=fun zs r=>IntsV W r zs) rtop m HLM.out h4)
  have H5:=zh (all2_upto (R:=fun d r=>Mag W r d) cden m HLM.out h5)
  have HO1:=zh (Row.of_owns ho1)
  have HO2:=zh (Row.of_owns ho2)
  have HFT:=zh (freshT_owns (s:=.slice vb nb cb) ho1)
  clear h4 h5 ho1 ho2
  gi_wp2
  have hK':=((KeepsOthers.setCell W ⟨w.heap.size,0,none⟩ (.slice va na ca)).trans (KeepsOthers.setCell _ ⟨w.heap.size,1,none⟩ (.slice vb nb cb))).same D _ hK rfl
  refine ⟨by simp,.inl ⟨_,_,rfl,run_takeDeferred hK',?_⟩⟩
  have hk5:Keep [105] W (((W.setCell ⟨w.heap.size,0,none⟩ (.slice va na ca)).setCell ⟨w.heap.size,1,none⟩ (.slice vb nb cb)).putObj D (.deferred none)) :=
   ((Keep.setCell is0).trans (Keep.setCell is0.setCell)).trans ((Keep.others (grownBy_putObj' _ D (.deferred none)) (fun r e=>by cases e;exact ⟨_,hK',rfl⟩)).mono zi)
  have hb3:=box_kept ((hb0.set 0 (.slice va na ca)).set 1 (.slice vb nb cb)) (grownBy_putObj' _ D (.deferred none)) (fun r e=>by cases e;exact ⟨_,hK',rfl⟩)
  refine ⟨_,results_cell_row rfl _ _ w.heap.size 105 _ (0,0) _ rfl hb3 Tryz.underlying105 rfl zk,⟨_,rfl,?_,⟨_,_,_,_,_,_,rfl,⟨xs,Fra.Row.kept HO1.out hk5 zd,H4.out.mono fun _ _ h=>IntsV.kept h hk5 zd zd⟩,⟨bs,Fra.Row.kept HO2.out hk5 zd,H5.out.mono fun _ _ h=>Fra.Mag.kept h hk5 zd⟩⟩,HFT.out⟩⟩
  exact ((hB.setCell zi _).setCell zi _).trans (belowK_b (w:=w) (Nat.le_refl _) _ D _ _ (by have:=hB0.size;omega) hK' rfl rfl)
 case stop =>
  rintro D c pre W _ _ h _
  exact h.elim
theorem read_ok (v:Value) (m:RM) (w:World) (h:MatV w v m.fr) (hm:m.length≤4) (hq:∀ r∈m,r.length≤4∧∀ q∈r,okq q=true) :
  Calls Tryz.prog 62 #[v] w fun e w'=>∃ v,e= .returned v∧Below w.heap.size w w'∧TabV w' v m :=
 (read_own v m w h hm hq).mono fun _ _ ⟨v,h1,h2,h3,_⟩=>⟨v,h1,h2,h3⟩
end Go.Proofs.matrix
