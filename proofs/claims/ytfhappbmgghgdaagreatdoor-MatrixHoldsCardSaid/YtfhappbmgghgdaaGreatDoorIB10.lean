/- Lemmas for the proof. No condition. -/
import Derived.Test.YtfhappbmgghgdaaGreatDoorIB01
import Derived.Test.YtfhappbmgghgdaaGreatDoorIB02
import Derived.Test.YtfhappbmgghgdaaGreatDoorIB03
import Derived.Test.YtfhappbmgghgdaaGreatDoorIB06
import Derived.Test.YtfhappbmgghgdaaGreatDoorIB07
import Derived.Test.YtfhappbmgghgdaaGreatDoorIB09
import Derived.ChangeKeysEq
import Derived.RangeFuncNested
import Derived.RangeFuncBound
import Derived.RangeFuncCalls
import Derived.RangeFuncFrom
set_option linter.unusedVariables false
set_option linter.unusedSimpArgs false
set_option maxRecDepth 100000
set_option maxHeartbeats 16000000
namespace Go.Proofs.matrix
open Go Go.RowKit Go.SW Go.Num Go.Mem Go.Proofs Go.Dec Go.dF
theorem iP (v:Value) (l:List Fr) (T:TypeId) (w:World) (h:gH w T v l) :
  Calls Tryz.prog 54 #[v] w (fun e w'=>e= .returned (.int .i64 (gN l))∧Below w.heap.size w w'):=by
 obtain ⟨a,cap,rfl,hc1,hc2,hread⟩:=h.read
 have H:=zh hread
 clear h hread
 go_enter Tryz.func54,Tryz.ntmps54
 go_wp2_with fail
 go_loopw [7] (fun iv wr=>∃ k:Nat,iv= .int .i64 (k:Int)∧k≤l.length∧Hid (∀ j (h:j<l.length),j<k→(rd l[j]).isSome=true)∧Below w.heap.size w wr) (fun iv _=>l.length - (intOf iv).toNat)
 case atStart=>exact ⟨0,rfl,by omega,zh (fun j _ h=>by omega),Below.refl _ _⟩
 case round =>
  obtain ⟨k,rfl,hk,HK,hb⟩:=hrel
  rcases Nat.lt_or_ge k l.length with hlt|hge
  ·obtain ⟨b,off,rfl,hbl,hx1,hx2⟩:=H.out k hlt
   have hc1:=(hb.cell (p:=⟨b,off+k*2,none⟩) hbl).trans hx1
   have hc2:=(hb.cell (p:=⟨b,off+k*2+1,none⟩) hbl).trans hx2
   clear hx1 hx2
   have hck:=eX.qL l[k]
   generalize hlk:l[k]=lk at *
   obtain ⟨s,t⟩:=lk
   cases hv:(rd ⟨s,t⟩).isSome with
   | true =>
    rw [Ux hv] at hck
    have Ca:Hid (∀ w,Calls Tryz.prog 112 #[.agg #[.string s,.string t]] w (fun e w'=>e= .returned (.int .i64 0)∧Below w.heap.size w w')):=zh hck
    have Zq:=zh hlk
    have HV:=zh hv
    clear hck hlk hv
    go_wp2_with fail
    refine (Ca.out _).mono ?_
    rintro e v1 ⟨rfl,hc1⟩
    go_wp2_with fail
    go_roundw
    case rel =>
     refine ⟨k+1,by go_num,by omega,zh fun j hj hjk=>?_,Bt hb belA⟩
     rcases Nat.lt_or_ge j k with h|h
     ·exact HK.out j hj h
     ·obtain rfl:j=k:=by omega
      rw [Zq.out]
      exact HV.out
    case measure=>exact zM
   | false =>
    rw [ag9 hv] at hck
    have Ca:Hid (∀ w,Calls Tryz.prog 112 #[.agg #[.string s,.string t]] w (fun e w'=>e= .returned (.int .i64 20)∧Below w.heap.size w w')):=zh hck
    have hno:gN l=20:=by
     unfold gN
     rw [if_neg]
     intro h
     have:=List.all_eq_true.1 h l[k] (List.getElem_mem _)
     rw [hlk,hv] at this
     cases this
    have Zp:=zh hno
    clear hck hlk hv hno
    go_wp2_with fail
    refine (Ca.out _).mono ?_
    rintro e v1 ⟨rfl,hc1⟩
    go_wp2_with fail
    go_ret
    exact ⟨by rw [Zp.out];rfl,Bt hb belA⟩
  ·have hyes:gN l=0:=by
    unfold gN
    rw [if_pos]
    rw [List.all_eq_true]
    intro x hx
    obtain ⟨j,hj,rfl⟩:=List.getElem_of_mem hx
    exact HK.out j hj zo
   have Pm:=zh hyes
   clear hyes
   obtain rfl:k=l.length:=by omega
   go_wp2_with fail
   go_ret
   exact ⟨by rw [Pm.out];rfl,hb⟩
theorem iG (a1 a2:ByteArray) (w:World) :
  (binOp .neq 59 (.agg #[.string a1,.string a2]) (.agg #[.string a1,.string a2])).run Tryz.prog w= .ok (.bool false) w:=by
 go_simp
theorem Iu (v1 v2:Value) (l:List Fr) (w:World) (h1:gH w 59 v1 l) (h2:gH w 59 v2 l) :
  Calls Tryz.prog 61 #[v1,v2] w (fun e w'=>e= .returned (.bool true)∧Below w.heap.size w w'):=by
 obtain ⟨a,cap,rfl,hc1,hc2,hr1⟩:=h1.read
 obtain ⟨a',cap',rfl,hc1',hc2',hr2⟩:=h2.read
 have H1:=zh hr1
 have H2:=zh hr2
 have Qk:= @iG
 clear h1 h2 hr1 hr2
 go_enter Tryz.func61,Tryz.ntmps61
 go_wp2_with fail
 go_loopw [13] (fun iv wr=>∃ k:Nat,iv= .int .i64 (k:Int)∧k≤l.length∧Below w.heap.size w wr) (fun iv _=>l.length - (intOf iv).toNat)
 case atStart=>exact ⟨0,rfl,by omega,Below.refl _ _⟩
 case round =>
  obtain ⟨k,rfl,hk,hb⟩:=hrel
  rcases Nat.lt_or_ge k l.length with hlt|hge
  ·obtain ⟨b,off,rfl,hbl,hx1,hx2⟩:=H1.out k hlt
   obtain ⟨b',off',rfl,kg,hy1,hy2⟩:=H2.out k hlt
   have hc3:=(hb.cell (p:=⟨b,off+k*2,none⟩) hbl).trans hx1
   have hc4:=(hb.cell (p:=⟨b,off+k*2+1,none⟩) hbl).trans hx2
   have kI:=(hb.cell (p:=⟨b',off'+k*2,none⟩) kg).trans hy1
   have hc6:=(hb.cell (p:=⟨b',off'+k*2+1,none⟩) kg).trans hy2
   clear hx1 hx2 hy1 hy2
   generalize hlk:l[k]=lk at *
   obtain ⟨s,t⟩:=lk
   have Zq:=zh hlk
   clear hlk
   go_wp2_with fail
   go_quiet (fail)
   go_wp2_with fail
   go_roundw
   case rel=>exact ⟨k+1,by go_num,by omega,below_drewN hb _⟩
   case measure=>exact zM
  ·obtain rfl:k=l.length:=by omega
   go_wp2_with fail
   go_ret
   exact ⟨rfl,hb⟩
theorem QI (v1 v2:Value) (l:List Fr) (w:World) (h1:gH w 59 v1 l) (h2:gH w 59 v2 l) :
  Calls Tryz.prog 60 #[v1,v2] w (fun e w'=>e= .returned (.bool true)∧Below w.heap.size w w'):=by
 have H:=zh (Iu v1 v2 l w h1 h2)
 obtain ⟨a,cap,rfl, -⟩:=h1.read
 obtain ⟨a',cap',rfl, -⟩:=h2.read
 clear h1 h2
 go_enter Tryz.func60,Tryz.ntmps60
 go_wp2_with fail
 refine H.out.mono ?_
 rintro e w1 ⟨rfl,hb⟩
 go_wp2_with fail
 go_ret
 exact ⟨rfl,hb⟩
theorem DL (v1 v2:Value) (m:List (List Fr)) (w:World) (h1:aP w v1 m) (h2:aP w v2 m) :
  Calls Tryz.prog 59 #[v1,v2,.func (.func 60) #[] #[]] w (fun e w'=>e= .returned (.bool true)∧Below w.heap.size w w'):=by
 obtain ⟨rs,hR,hm,hF⟩:=h1
 obtain ⟨rs',hR',hm',hF'⟩:=h2
 have hll:rs'.length=rs.length:=by omega
 have HS:Hid (∀ k (h:k<rs.length) (h':k<rs'.length) W,Below w.heap.size w W→Calls Tryz.prog 60 #[rs[k],rs'[k]] W (fun e w'=>e= .returned (.bool true)∧Below W.heap.size W w')) :=
  zh fun k h h' W hb=>QI _ _ (m[k]'zo) W ((hF k h zo).later hb) ((hF' k h' zo).later hb)
 have HV:Hid (∀ k (h:k<rs.length),∃ a n c,rs[k]= .slice a n c):=zh fun k h=>by
  obtain ⟨a,c,e, -⟩:=(hF k h zo).read
  exact ⟨_,_,_,e⟩
 have Zn:Hid (∀ k (h:k<rs'.length),∃ a n c,rs'[k]= .slice a n c):=zh fun k h=>by
  obtain ⟨a,c,e, -⟩:=(hF' k h zo).read
  exact ⟨_,_,_,e⟩
 have key:∀ (v:Value) (xs:List Value),Row w 29 v xs→∃ a cap,v= .slice a xs.length cap∧xs.length≤cap∧cap≤9223372036854775807∧∀ k (_:k<xs.length),∃ b off,a=some ⟨b,off,none⟩∧b<w.heap.size∧w.cell? ⟨b,off+k,none⟩=some xs[k]:=fun v xs h=>by
  rcases h.cases with ⟨rfl,rfl⟩|⟨b,off,cap,arr,rfl,k1,k2,k3,k4⟩
  ·exact ⟨none,0,rfl,by simp,by simp,fun k h=>by simp at h⟩
  ·exact ⟨_,_,rfl,k1,k2,fun k hk=>⟨b,off,rfl,k3.lt,(k3.cell _).trans (k4 k hk)⟩⟩
 obtain ⟨a,cap,rfl,hc1,hc2,hr1⟩:=key _ _ hR
 obtain ⟨a',cap',rfl,hc1',hc2',hr2⟩:=key _ _ hR'
 have H1:=zh hr1
 have H2:=zh hr2
 clear key hR hR' hr1 hr2 hF hF' hm hm'
 have HL:=zh hll
 rw [hll]
 rw [hll] at hc1'
 clear hll
 go_enter Tryz.func59,Tryz.ntmps59
 go_wp2_with fail
 go_loopw [17] (fun iv wr=>∃ k:Nat,iv= .int .i64 (k:Int)∧k≤rs.length∧Below w.heap.size w wr) (fun iv _=>rs.length - (intOf iv).toNat)
 case atStart=>exact ⟨0,rfl,by omega,Below.refl _ _⟩
 case round =>
  obtain ⟨k,rfl,hk,hb⟩:=hrel
  rcases Nat.lt_or_ge k rs.length with hlt|hge
  ·have hlt':k<rs'.length:=by rw [HL.out];exact hlt
   obtain ⟨b,off,rfl,hbl,hx⟩:=H1.out k hlt
   obtain ⟨b',off',rfl,kg,hy⟩:=H2.out k hlt'
   have HC:=zh (HS.out k hlt hlt')
   obtain ⟨x1,x2,x3,ex⟩:=HV.out k hlt
   obtain ⟨y1,y2,y3,ey⟩:=Zn.out k hlt'
   rw [ex] at hx HC
   rw [ey] at hy HC
   have hc3:=(hb.cell (p:=⟨b,off+k,none⟩) hbl).trans hx
   have hc4:=(hb.cell (p:=⟨b',off'+k,none⟩) kg).trans hy
   clear hx hy ex ey
   go_wp2_with fail
   refine (HC.out _ hb).mono ?_
   rintro e w2 ⟨rfl,hb2⟩
   go_wp2_with fail
   go_roundw
   case rel=>exact ⟨k+1,by go_num,by omega,Bt hb hb2⟩
   case measure=>exact zM
  ·obtain rfl:k=rs.length:=by omega
   go_wp2_with fail
   go_ret
   exact ⟨rfl,hb⟩
theorem xV (v1 v2:Value) (m:List (List Fr)) (w:World) (h1:aP w v1 m) (h2:aP w v2 m) :
  Calls Tryz.prog 25 #[v1,v2] w (fun e w'=>e= .returned (.bool true)∧Below w.heap.size w w'):=by
 have H:=zh (DL v1 v2 m w h1 h2)
 obtain ⟨rs,hR, -⟩:=h1
 obtain ⟨rs',hR', -⟩:=h2
 obtain ⟨a,cap,rfl, -⟩:=hR
 obtain ⟨a',cap',rfl, -⟩:=hR'
 go_enter Tryz.func25,Tryz.ntmps25
 go_wp2_with fail
 refine H.out.mono ?_
 rintro e w1 ⟨rfl,hb⟩
 go_wp2_with fail
 go_ret
 exact ⟨rfl,hb⟩
end Go.Proofs.matrix
namespace Go.Proofs.matrix
open Go Go.RowKit Go.Shelf Go.SW Go.Num Go.Mem Go.Proofs Go.Dec Go.dF
attribute [local go_sem] Oper.semAt_some
theorem dP {W W':World} (h:Below W.heap.size W W'):KeepsOthers W W' :=
 ⟨h.size,fun k o hk _=>(h.block k (Array.getElem?_eq_some_iff.1 hk).1).trans hk⟩
theorem dK {W W':World} {row:Option Nat} {b:Nat} {cs:Array Value} {T:TypeId} (h:ah W b cs T) (hg:W.grownBy W' row) (hr:∀ r,row=some r→∃ o:Obj,W.heap[r]? =some o∧o.isCells=false):ah W' b cs T:=by
 unfold ah at *
 rw [hg.block b (Array.getElem?_eq_some_iff.1 h).1 ?_]
 ·exact h
 ·intro e
  obtain ⟨o,ho,hc⟩:=hr b e.symm
  rw [h] at ho
  cases ho
  cases hc
theorem JO (b off cap n:Nat) (m:List (List Fr)) (rs:List Value) (a0:Option Addr) (n0 cap0:Nat) (w:World) (hn:rs.length=n) (h1:1≤n) (h4:n≤4) (hm:rs.length=m.length) (hR:Row w 29 (.slice (some ⟨b,off,none⟩) n cap) rs)
  (hc:w.cell? ⟨b,off,none⟩=some (.slice a0 n0 cap0)) (k1:1≤n0) (k4:n0≤4)
  (hF:∀ i (h:i<rs.length) (h':i<m.length),gH w 59 rs[i] m[i]) :
  Calls Tryz.prog 23 #[.slice (some ⟨b,off,none⟩) n cap] w fun e w'=>e= .returned (.int .i64 (if m.all (fun r=>r.length == n0&&gN r == 0) then 0 else 50))∧Below w.heap.size w w':=by
 have lb:b<w.heap.size:=by
  rcases hR.cases with ⟨h,_⟩|⟨b',off',cap',arr,h,_,_,h3,_⟩
  ·cases h
  ·simp only [Value.slice.injEq,Option.some.injEq,Addr.mk.injEq,and_true] at h
   rw [h.1.1];exact h3.lt
 have lb1:b<w.heap.size+1:=by omega
 have q1:decide ((n:Int)<1)=false:=by simp;omega
 have q2:decide ((4:Int)<(n:Int))=false:=by simp;omega
 have q3:decide ((n0:Int)<1)=false:=by simp;omega
 have q4:decide ((4:Int)<(n0:Int))=false:=by simp;omega
 have h0n:0<n:=by omega
 have HR:=zh hR
 have HF:=zh hF
 have HM:=zh hm
 have HN:=zh hn
 clear hR hF hm hn
 obtain ⟨z,Ez⟩:∃ y:Int,Hid ((if m.all (fun r=>r.length == n0&&gN r == 0) then 0 else 50)=y):=⟨_,zh rfl⟩
 rw [Ez.out]
 refine (callsIn_wide (n:=3)).1 ?_
 refine callsIn_of_wp_marks Tryz.func23 rfl trivial ?_ rfl
 simp only [Tryz.ntmps23,List.size_toArray,List.length_cons,List.length_nil,Nat.reduceAdd,Nat.reduceSub,Array.replicate_succ,Array.replicate_zero,List.push_toArray,List.append_toArray,List.nil_append,List.cons_append]
 gi_wp2_with (refine ⟨trivial,?_⟩;gi_at_call 58;refine (tJ Fence.wide 2 trivial rfl _ _ _ _).mono ?_;rintro e w' ⟨rfl,rfl⟩)
 have hB0:Below w.heap.size w (((w.alloc (.cells #[.slice (some ⟨b,off,none⟩) n cap] 23)).alloc (.cells #[.int .i64 0] 33)).alloc (.cells #[.slice (some ⟨b,off,none⟩) n cap] 23)):=belA
 have hbx0:ah (((w.alloc (.cells #[.slice (some ⟨b,off,none⟩) n cap] 23)).alloc (.cells #[.int .i64 0] 33)).alloc (.cells #[.slice (some ⟨b,off,none⟩) n cap] 23)) w.heap.size #[.slice (some ⟨b,off,none⟩) n cap] 23:=boxA
 have xD:ah (((w.alloc (.cells #[.slice (some ⟨b,off,none⟩) n cap] 23)).alloc (.cells #[.int .i64 0] 33)).alloc (.cells #[.slice (some ⟨b,off,none⟩) n cap] 23)) (w.heap.size+1) #[.int .i64 0] 33:=boxA
 have xC:ah (((w.alloc (.cells #[.slice (some ⟨b,off,none⟩) n cap] 23)).alloc (.cells #[.int .i64 0] 33)).alloc (.cells #[.slice (some ⟨b,off,none⟩) n cap] 23)) (w.heap.size+1+1) #[.slice (some ⟨b,off,none⟩) n cap] 23:=boxA
 refine wpIn_rangeFunc_ownF (α:=Fin rs.length) rfl zo (gf:=115) (lb:=#[.pointer (some ⟨w.heap.size+1+1,0,none⟩)]) rfl trivial (enters_of Tryz.func115 zk rfl)
  (mV Fence.wide 2 trivial rfl zo (w.heap.size+1+1) w.heap.size _ rs w _ xC.lt hB0.size ((xC.cell 0).trans rfl) HR.out (Nat.le_refl _) hB0) belowK_t (belowK_b hB0.size) (Below.refl _ _) (fun _=>rfl)
  (fun pre W=>(Hid (∀ x∈pre,((m.getD x.1 []).length == n0&&gN (m.getD x.1 []) == 0)=true)∧ah W w.heap.size #[.slice (some ⟨b,off,none⟩) n cap] 23∧ah W (w.heap.size+1) #[.int .i64 0] 33)∧Below w.heap.size w W)
  (fun c pre W=>(c= .ret∧Hid (∃ x:Fin rs.length,((m.getD x.1 []).length == n0&&gN (m.getD x.1 []) == 0)=false)∧ah W (w.heap.size+1) #[.int .i64 50] 33)∧Below w.heap.size w W)
  (OwnFrom.and (Own.from (fun s A B row hs hg hr=>⟨hs.1,dK hs.2.1 hg hr,dK hs.2.2 hg hr⟩) _) (ownFrom_below (Nat.le_refl _) hB0.size))
  (fun c=>OwnFrom.and (Own.from (fun s A B row hs hg hr=>⟨hs.1,hs.2.1,dK hs.2.2 hg hr⟩) _) (ownFrom_below (Nat.le_refl _) hB0.size))
  ⟨⟨zh zi,hbx0,xD⟩,hB0⟩ ?a1 ?assign ?body ?done ?stop
 case assign =>
  intro l x W K hK
  unfold enc
  gi_wp2
  exact hK
 case body =>
  rintro l pre x W ⟨⟨hp,hb0,hb1⟩,hB⟩ _
  have hxm:x.1<m.length:=HM.out ▸ x.2
  have hgd:m.getD x.1 []=m[x.1]:=by simp [hxm]
  have hfr:=HF.out x.1 x.2 hxm
  obtain ⟨a',cap',hre,k5,k6, -⟩:=hfr.read
  have Ky:=zh (hfr.later hB)
  have cm:=(hB.cell (p:=⟨b,off,none⟩) lb).trans hc
  have c0:=hb0.cell
  have f1:=hb1.free
  have c1:=hb1.cell
  have e5:∀ y,m.getD x.1 []=y→((y.length == n0&&gN y == 0)=((m.getD x.1 []).length == n0&&gN (m.getD x.1 []) == 0)):=fun y h=>by rw [h]
  have HE5:=zh (e5 _ hgd)
  clear hfr e5 hgd hc
  generalize rs[x.1]=rx at *
  subst hre
  generalize hmx:m[x.1]=mx at *
  have HMX:=zh hmx
  clear hmx
  by_cases hl:mx.length=n0
  ·have b1:((mx.length:Int) != (n0:Int))=false:=by simp [hl]
   have hch:gN mx=0∨gN mx=20:=by unfold gN;split<;>simp
   have HL:=zh hl
   have Ca:=zh (fun W h=>iP (.slice a' mx.length cap') mx 59 W h)
   clear hl
   rcases hch with hch|hch
   ·have HCH:=zh hch
    clear hch
    rw [HCH.out] at Ca
    gi_wp2_with (refine ⟨trivial,?_⟩;gi_at_call 54;refine (CallsIn.inRound l (callsIn_wide.2 (Ca.out _ Ky.out))).mono ?_;rintro e w1 ⟨rfl,hc1⟩)
    refine ⟨dP hc1,hc1.mono hB.size,⟨⟨zh fun y hy=>?_,hb0.later hc1,hb1.later hc1⟩,hB.trans (hc1.mono hB.size)⟩⟩
    rcases List.mem_append.1 hy with h|h
    ·exact hp.out y h
    ·rw [List.mem_singleton] at h
     subst h
     rw [← HE5.out,HCH.out,HL.out]
     simp
   ·have HCH:=zh hch
    clear hch
    rw [HCH.out] at Ca
    gi_wp2_with (refine ⟨trivial,?_⟩;gi_at_call 54;refine (CallsIn.inRound l (callsIn_wide.2 (Ca.out _ Ky.out))).mono ?_;rintro e w1 ⟨rfl,hc1⟩;have hb2:=hb1.later hc1;have c2:=hb2.cell;have f2:=hb2.free)
    refine ⟨(dP hc1).trans (KeepsOthers.setCell _ _ _),⟨⟨rfl,zh ⟨x,?_⟩,hb2.set 0 _⟩,(hB.trans (hc1.mono hB.size)).setCell zi _⟩⟩
    rw [← HE5.out,HCH.out,HL.out]
    simp
  ·have b1:((mx.length:Int) != (n0:Int))=true:=by simp;omega
   have HL:=zh hl
   clear hl
   gi_wp2
   refine ⟨trivial,?_⟩
   gi_wp2
   refine ⟨KeepsOthers.setCell _ _ _,⟨⟨rfl,zh ⟨x,?_⟩,hb1.set 0 _⟩,hB.setCell zi _⟩⟩
   rw [← HE5.out]
   have:=HL.out
   simp [this]
 case done =>
  rintro D ys W hD rfl ⟨⟨hp,hb0,hb1⟩,hB⟩ hK
  have c1:=hb1.cell
  have f1:=hb1.free
  have hall:m.all (fun r=>r.length == n0&&gN r == 0)=true:=by
   rw [List.all_eq_true]
   intro r hr
   obtain ⟨i,hi,rfl⟩:=List.getElem_of_mem hr
   have h2:i<rs.length:=by rw [HM.out];exact hi
   have:=hp.out ⟨i,h2⟩ (by unfold upto;rw [List.mem_ofFn];exact ⟨⟨i,h2⟩,rfl⟩)
   simpa [hi] using this
  have hz:z=0:=by rw [← Ez.out,if_pos hall]
  have HZ:=zh hz
  clear hall hz
  gi_wp2
  have hb2:=hb1.set 0 (.int .i64 0)
  have hK':=(KeepsOthers.setCell W ⟨w.heap.size+1,0,none⟩ (.int .i64 0)).same D _ hK rfl
  refine ⟨by simp,.inl ⟨_,_,rfl,run_takeDeferred hK',?_⟩⟩
  have hb3:=dK hb2 (grownBy_putObj' _ D (.deferred none)) (fun r e=>by cases e;exact ⟨_,hK',rfl⟩)
  have kI:=hb3.cell 0
  refine ⟨.int .i64 0,?_,by rw [HZ.out],(hB.setCell (p:=⟨w.heap.size+1,0,none⟩) zi _).trans (belowK_b (w:=w) (Nat.le_refl _) _ D _ _ (by simp at hD;omega) hK' rfl rfl)⟩
  simp [results,Tryz.f23,go_sem,kI]
 case stop =>
  rintro D c pre W hD hpre ⟨⟨rfl,hin,hb1⟩,hB⟩ hK
  have hz:z=50:=by
   rw [← Ez.out,if_neg]
   intro h
   obtain ⟨x,hx⟩:=hin.out
   have hxm:x.1<m.length:=HM.out ▸ x.2
   have h2:=List.all_eq_true.1 h m[x.1] (List.getElem_mem _)
   have hgd:m.getD x.1 []=m[x.1]:=by simp [hxm]
   rw [hgd,h2] at hx
   cases hx
  have HZ:=zh hz
  clear hz
  gi_wp2
  refine ⟨by simp,.inl ⟨_,_,rfl,run_takeDeferred hK,?_⟩⟩
  have hb3:=dK hb1 (grownBy_putObj' _ D (.deferred none)) (fun r e=>by cases e;exact ⟨_,hK,rfl⟩)
  have kI:=hb3.cell 0
  refine ⟨.int .i64 50,?_,by rw [HZ.out],hB.trans (belowK_b (w:=w) (Nat.le_refl _) W D _ _ (by simp at hD;omega) hK rfl rfl)⟩
  simp [results,Tryz.f23,go_sem,kI]
end Go.Proofs.matrix
namespace Go.Proofs.matrix
open Go Go.RowKit Go.SW Go.Num Go.Mem Go.Proofs Go.Dec Go.dF
theorem Ho (a:Option Addr) (n cap:Nat) (w:World) (h:n<1∨4<n) :
  Calls Tryz.prog 23 #[.slice a n cap] w fun e w'=>e= .returned (.int .i64 50)∧Below w.heap.size w w':=by
 rcases h with h|h
 ·have q1:decide ((n:Int)<1)=true:=by simp;omega
  clear h
  go_enter Tryz.func23,Tryz.ntmps23
  go_wp2_with fail
  exact bodyPost_ret (v:=.int .i64 50) (by simp [results,Tryz.results23,go_sem]) rfl ⟨rfl,belA⟩
 ·have q1:decide ((n:Int)<1)=false:=by simp;omega
  have q2:decide ((4:Int)<(n:Int))=true:=by simp;omega
  clear h
  go_enter Tryz.func23,Tryz.ntmps23
  go_wp2_with fail
  exact bodyPost_ret (v:=.int .i64 50) (by simp [results,Tryz.results23,go_sem]) rfl ⟨rfl,belA⟩
theorem Hf (b off cap n:Nat) (a0:Option Addr) (n0 cap0:Nat) (w:World) (h1:1≤n) (h4:n≤4) (lb:b<w.heap.size)
  (hc:w.cell? ⟨b,off,none⟩=some (.slice a0 n0 cap0)) (h:n0<1∨4<n0) :
  Calls Tryz.prog 23 #[.slice (some ⟨b,off,none⟩) n cap] w fun e w'=>e= .returned (.int .i64 50)∧Below w.heap.size w w':=by
 have q1:decide ((n:Int)<1)=false:=by simp;omega
 have q2:decide ((4:Int)<(n:Int))=false:=by simp;omega
 have lb1:b<w.heap.size+1:=by omega
 have h0n:0<n:=by omega
 rcases h with h|h
 ·have q3:decide ((n0:Int)<1)=true:=by simp;omega
  clear h
  go_enter Tryz.func23,Tryz.ntmps23
  go_wp2_with fail
  exact bodyPost_ret (v:=.int .i64 50) (by simp [results,Tryz.results23,go_sem]) rfl ⟨rfl,belA⟩
 ·have q3:decide ((n0:Int)<1)=false:=by simp;omega
  have q4:decide ((4:Int)<(n0:Int))=true:=by simp;omega
  clear h
  go_enter Tryz.func23,Tryz.ntmps23
  go_wp2_with fail
  exact bodyPost_ret (v:=.int .i64 50) (by simp [results,Tryz.results23,go_sem]) rfl ⟨rfl,belA⟩
theorem Check_ok (v:Value) (m:List (List Fr)) (w:World) (h:aP w v m) :
  Calls Tryz.prog 23 #[v] w fun e w'=>e= .returned (.int .i64 (gY m))∧Below w.heap.size w w':=by
 obtain ⟨rs,hR,hm,hF⟩:=h
 have hR':=hR
 obtain ⟨a,cap,rfl, -⟩:=hR
 by_cases hlen:rs.length<1∨4<rs.length
 ·have e:gY m=50:=by
   unfold gY kW
   rw [← hm,if_neg]
   intro h
   simp only [Bool.and_eq_true,decide_eq_true_eq] at h
   omega
  rw [e]
  exact Ho _ _ _ w hlen
 ·have h1:1≤rs.length:=by omega
  have h4:rs.length≤4:=by omega
  have h0:0<m.length:=by omega
  rcases hR'.cases with ⟨_,h⟩|⟨b,off,cap',arr,hv,k1,k2,k3,k4⟩
  ·rw [h] at h1;simp at h1
  ·have h0r:0<rs.length:=by omega
   obtain ⟨a0,cap0,e0, -⟩:=(hF 0 h0r h0).read
   have hc:w.cell? ⟨b,off,none⟩=some (.slice a0 m[0].length cap0):=by
    have:=(k3.cell (off+0)).trans (k4 0 h0r)
    rw [e0] at this
    exact this
   have hhd:m.headD []=m[0]:=by cases m with|nil=>simp at h0|cons x t=>rfl
   rw [hv] at hR' ⊢
   by_cases hw:m[0].length<1∨4<m[0].length
   ·have e:gY m=50:=by
     unfold gY kW
     rw [hhd,if_neg]
     intro h
     simp only [Bool.and_eq_true,decide_eq_true_eq] at h
     omega
    rw [e]
    exact Hf b off cap' _ a0 _ cap0 w h1 h4 k3.lt hc hw
   ·have e:gY m=if m.all (fun r=>r.length == m[0].length&&gN r == 0) then 0 else 50:=by
     unfold gY kW
     rw [hhd]
     have e1:decide (1≤m.length)=true:=by simp;omega
     have e2:decide (m.length≤4)=true:=by simp;omega
     have e3:decide (1≤m[0].length)=true:=by simp;omega
     have e4:decide (m[0].length≤4)=true:=by simp;omega
     rw [e1,e2,e3,e4]
     simp only [Bool.true_and]
    rw [e]
    exact JO b off cap' rs.length m rs a0 m[0].length cap0 w rfl h1 h4 hm hR' hc zo zo hF
theorem Sy:(Tryz.prog.info? 29).map (fun i=>(i.zero,i.size,i.bytes))=some (some (.slice none 0 0),1,24):=by kernel_rfl
theorem qE:(Tryz.prog.info? 59).map (fun i=>(i.zero,i.size,i.bytes))=some (some (.agg #[.string ⟨#[]⟩,.string ⟨#[]⟩]),2,32):=by kernel_rfl
theorem Bc (vl:Value) (l:List Fr) (T:TypeId) (w:World) (hl:gH w T vl l) (h1:1≤l.length) (h4:l.length≤4) (hc:gN l=0) :
  Calls Tryz.prog 18 #[vl] w (MatPost w 0 (kE l)):=by
 obtain ⟨im,im1,im2,im3,im4⟩:=info_parts Sy
 obtain ⟨i0,hi,hz0,hz1,hz2⟩:=info_parts qE
 have Ca:=zh (fun w' hb=>iP vl l T w' (hl.later hb))
 rw [hc] at Ca
 obtain ⟨al,ah0,rfl,Tw,Oq,hread⟩:=hl.read
 have Kk:Hid (∀ r,r<l.length→∃ b off,al=some ⟨b,off,none⟩∧b<w.heap.size∧w.cell? ⟨b,off+r*2,none⟩=some (.string (l.getD r Fr.no).n)∧w.cell? ⟨b,off+r*2+1,none⟩=some (.string (l.getD r Fr.no).d)):=zh fun r hr=>by
  obtain ⟨b,off,k1,k2,k3,k4⟩:=hread r hr
  have e:l.getD r Fr.no=l[r]:=by simp [hr]
  rw [e]
  exact ⟨b,off,k1,k2,k3,k4⟩
 obtain ⟨n,hn⟩:∃ n,l.length=n:=⟨_,rfl⟩
 have HDR:Hid (∀ r c,c<n→(kM l r).getD c Fr.no=if c=r then l.getD r Fr.no else Fr.zero):=zh fun r c hc=>by
  unfold kM
  simp [hn,hc]
 have Aj:Hid (∀ r,(kM l r).length=n):=zh fun r=>by simp [kM,hn]
 have HDM:Hid ((kE l).length=n∧∀ r,r<n→(kE l).getD r []=kM l r):=zh ⟨by simp [kE,hn],fun r hr=>by simp [kE,hn,hr]⟩
 rw [hn] at h1 h4 Kk Tw Ca ⊢
 have q1:decide ((n:Int)<1)=false:=by simp;omega
 have q2:decide ((4:Int)<(n:Int))=false:=by simp;omega
 clear hl hc hread hn
 go_enter Tryz.func18,Tryz.ntmps18
 go_wp2_with fail
 refine (Ca.out _ (Below.refl _ _)).mono ?_
 rintro e v1 ⟨rfl,hc1⟩
 go_wp2_with (at_make;refine wpList_make_full _ rfl _ _ 23 rfl w.heap.size 29 im (.slice none 0 0) 1 Tryz.underlying23 im1 im2 im3 _ _ _ _ n rfl rfl zo zo (by rw [im4];omega) (by unfold maxLen;omega) hc1.size ?_)
 intro w2 hown hgrow
 have hb2:Below w.heap.size w w2:=Bt hc1 ((Below.refl _ _).grown hgrow (Nat.le_refl _) (fun k hk=>by cases hk))
 have HM:=zh (fK.start (f:=kM l) hown)
 obtain ⟨M,EM⟩:∃ y:Nat,Hid (v1.heap.size=y):=⟨_,zh rfl⟩
 rw [EM.out] at HM ⊢
 have hMw:w.heap.size≤M:=by rw [← EM.out];exact hc1.size
 clear hown hgrow hc1 EM
 go_wp2_with fail
 go_loopw [26] (fun iv wr=>∃ r:Nat,iv= .int .i64 (r:Int)∧r≤n∧Hid (fK wr M n r (kM l))∧Below w.heap.size w wr) (fun iv _=>n - (intOf iv).toNat)
 case atStart=>exact ⟨0,rfl,by omega,HM,hb2⟩
 case round =>
  clear HM hb2
  obtain ⟨r,rfl,hr,HM,hb⟩:=hrel
  rcases Nat.lt_or_ge r n with hlt|hge
  ·obtain ⟨wo,hwo⟩:∃ y,y=wr:=⟨_,rfl⟩
   subst hwo
   have hlt2:(r:Int)<(n:Int):=by omega
   have lM:=HM.out.lt
   go_wp2_with (at_make;refine wpList_make_full _ rfl _ _ 29 rfl wo.heap.size 59 i0 (.agg #[.string ⟨#[]⟩,.string ⟨#[]⟩]) 2 Tryz.underlying29 hi hz0 hz1 _ _ _ _ n rfl rfl zo zo (by rw [hz2];omega) (by unfold maxLen;omega) (Nat.le_refl _) ?_)
   intro w3 hown hgrow
   have hb3:Below wo.heap.size wo w3:=(Below.refl _ _).grown hgrow (Nat.le_refl _) (fun k hk=>by cases hk)
   have HF:=zh (Fill.start (ok:=vB (fun c=>(kM l r).getD c Fr.no)) hown)
   obtain ⟨G,EG⟩:∃ y:Nat,Hid (wo.heap.size=y):=⟨_,zh rfl⟩
   rw [EG.out] at HF ⊢
   have hGw:wo.heap.size≤G:=by rw [EG.out];exact Nat.le_refl _
   have Yy:=HM.out.later hb3
   obtain ⟨⟨y1,AQ⟩,fy⟩:=Yy.cell hlt
   have lM3:=Yy.lt
   have isM:=Yy.rM
   obtain ⟨rP,bM,hsz, -⟩:=Yy
   have hrs:r<rP.size:=by omega
   have Vy:=zh bM
   have lG:=HF.out.lt
   clear hown hgrow
   have hGM:G≠M:=by omega
   have Vs:M≠G:=by omega
   have Vr:fQ wo (w3.setCell ⟨M,r,none⟩ (.slice (some ⟨G,0,none⟩) n n)) M:=((fQ.refl wo M).below hb3).set _ _
   have HF4:=zh (((HF.out.zU (f':=fun _=>Fr.zero) (fun i hi=>by omega)).other (a:=⟨M,r,none⟩) (.slice (some ⟨G,0,none⟩) n n) hGM))
   have HB4:=zh (bM.set r (.slice (some ⟨G,0,none⟩) n n))
   go_wp2_with fail
   clear AQ fy lM3 isM lG HF hGw
   go_loopw [37] (fun iv wi=>∃ c:Nat,iv= .int .i64 (c:Int)∧c≤n∧Hid (Fill wi G 59 n c (vB fun _=>Fr.zero))∧Hid (ah wi M (rP.setIfInBounds r (.slice (some ⟨G,0,none⟩) n n)) 29)∧Hid (fQ wo wi M)) (fun iv _=>n - (intOf iv).toNat)
   case atStart=>exact ⟨0,rfl,by omega,HF4,HB4,zh Vr⟩
   case round =>
    clear HF4 HB4 Vr bM
    obtain ⟨c,rfl,hcn,HF,HB,HN⟩:=hrel
    have cM:=HB.out.cell r
    rw [Array.getElem?_setIfInBounds,if_pos rfl,if_pos hrs] at cM
    have lMi:=HB.out.lt
    have lGi:=HF.out.lt
    rcases Nat.lt_or_ge c n with hcl|hcl
    ·obtain ⟨⟨z1,cz1⟩,⟨z2,cz2⟩,fz⟩:=HF.out.cells hcl
     have Oq:(c:Int)<(n:Int):=by omega
     go_wp2_with fail
     go_roundw
     case rel=>exact ⟨c+1,by go_num,by omega,zh (HF.out.step hcl (fun _ _ _ h=>h) ⟨rfl,rfl⟩),zh ((HB.out.setOther _ Vs).setOther _ Vs),zh ((HN.out.gI (by rw [EG.out];exact Nat.le_refl _) _ _).gI (by rw [EG.out];exact Nat.le_refl _) _ _)⟩
     case measure=>exact zM
    ·obtain rfl:c=n:=by omega
     obtain ⟨b,off,rfl,lb,cl1,cl2⟩:=Kk.out r hlt
     have hbi:Below w.heap.size w wr:=HN.out.toBelow hb hMw
     have ci1:=(hbi.cell (p:=⟨b,off+r*2,none⟩) lb).trans cl1
     have ci2:=(hbi.cell (p:=⟨b,off+r*2+1,none⟩) lb).trans cl2
     clear cl1 cl2
     go_wp2_with fail
     refine aD [(.pure,0),(.pure,1),(.pure,2),(.read,3),(.pure,4),(.pure,5),(.pure,6),(.pure,7),(.read,8),(.pure,9),(.fin,10)] zk zk zR zP ?_
     repeat (first|(refine au rfl rfl fun J h=>?_;go_simp;refine h _ ?_;clear h J)|(refine aF rfl rfl rfl rfl fun J h=>?_;go_simp;refine h _ ?_;clear h J;try go_simp))
     refine aN [_] rfl (fun w9 ou=>?_)
     have af3:Below wr.heap.size wr w9:=belA
     replace HF:=zh (HF.out.yY af3)
     replace HB:=zh (HB.out.later af3)
     replace HN:=zh (HN.out.below af3)
     obtain ⟨⟨z1,cz1⟩,⟨z2,cz2⟩,fz⟩:=HF.out.cells hlt
     go_wp2_with fail
     go_roundw
     case rel =>
      have hN2:=(HN.out.gI (P:=G) (by rw [EG.out];exact Nat.le_refl _) (r*2) (.string (l.getD r Fr.no).n)).gI (P:=G) (by rw [EG.out];exact Nat.le_refl _) (r*2+1) (.string (l.getD r Fr.no).d)
      refine ⟨r+1,by go_num,by omega,zh (HM.out.step (v:=.slice (some ⟨G,0,none⟩) c c) hlt hN2 (fun arr hA=>?_) ?_),hN2.toBelow hb hMw⟩
      ·have hAM:arr=rP:=dF.ah.uniq (hA.later hb3) Vy.out
       rw [hAM]
       exact (HB.out.setOther _ Vs).setOther _ Vs
      ·refine Fill.PW ((HF.out.put hlt).zU fun i hi=>?_) (Aj.out r) zo
       exact (HDR.out r i hi).symm
     case measure=>exact zM
  ·obtain rfl:r=n:=by omega
   have hmv:aP wr (.slice (some ⟨M,0,none⟩) r r) (kE l):=by
    obtain ⟨e1,e2⟩:=HDM.out
    have hM:=HM.out
    have:aP wr (.slice (some ⟨M,0,none⟩) (kE l).length (kE l).length) (kE l):=by
     refine fK.Jr ?_ zo
     rw [e1]
     obtain ⟨arr,k1,k2,k3⟩:=hM
     refine ⟨arr,k1,k2,fun i hi=>?_⟩
     show ∃ v,arr[i]? =some v∧gH wr 59 v ((kE l).getD i [])
     rw [e2 i hi]
     exact k3 i hi
    rw [e1] at this
    exact this
   have HMV:=zh hmv
   clear hmv
   go_wp2_with fail
   go_ret2
   exact MatPost.yes hb HMV.out
theorem DU (a:Option Addr) (n cap:Nat) (m:List (List Fr)) (w:World) (h:n<1∨4<n) :
  Calls Tryz.prog 18 #[.slice a n cap] w (MatPost w 2 m):=by
 rcases h with h|h
 ·have q1:decide ((n:Int)<1)=true:=by simp;omega
  clear h
  go_enter Tryz.func18,Tryz.ntmps18
  go_wp2_with fail
  go_ret2
  exact MatPost.no belA zd
 ·have q1:decide ((n:Int)<1)=false:=by simp;omega
  have q2:decide ((4:Int)<(n:Int))=true:=by simp;omega
  clear h
  go_enter Tryz.func18,Tryz.ntmps18
  go_wp2_with fail
  go_ret2
  exact MatPost.no belA zd
theorem DW (vl:Value) (l:List Fr) (m:List (List Fr)) (T:TypeId) (w:World) (hl:gH w T vl l) (h1:1≤l.length) (h4:l.length≤4) (hc:gN l=20) :
  Calls Tryz.prog 18 #[vl] w (MatPost w 20 m):=by
 have Ca:=zh (fun w' hb=>iP vl l T w' (hl.later hb))
 rw [hc] at Ca
 obtain ⟨al,ah0,rfl, -⟩:=hl.read
 obtain ⟨n,hn⟩:∃ n,l.length=n:=⟨_,rfl⟩
 rw [hn] at h1 h4 Ca ⊢
 have q1:decide ((n:Int)<1)=false:=by simp;omega
 have q2:decide ((4:Int)<(n:Int))=false:=by simp;omega
 clear hl hc hn
 go_enter Tryz.func18,Tryz.ntmps18
 go_wp2_with fail
 refine (Ca.out _ (Below.refl _ _)).mono ?_
 rintro e v1 ⟨rfl,hc1⟩
 go_wp2_with fail
 go_ret2
 exact MatPost.no hc1 zd
theorem Diagonal_ok (vl:Value) (l:List Fr) (T:TypeId) (w:World) (hl:gH w T vl l) :
  Calls Tryz.prog 18 #[vl] w (MatPost w (GQ l) (kE l)):=by
 unfold GQ
 by_cases h:l.length<1∨4<l.length
 ·rw [if_pos h]
  obtain ⟨al,ah0,rfl, -⟩:=hl.read
  exact DU _ _ _ _ w h
 ·rw [if_neg h]
  have hc:gN l=0∨gN l=20:=by unfold gN;split<;>simp
  rcases hc with hc|hc
  ·rw [hc]
   exact Bc vl l T w hl zo zo hc
  ·rw [hc]
   exact DW vl l _ T w hl zo zo hc
theorem Dz (n:Int) (m:List (List Fr)) (w:World) (h:n<1∨4<n) :
  Calls Tryz.prog 13 #[.int .i64 n] w (MatPost w 2 m):=by
 rcases h with h|h
 ·have q1:decide (n<1)=true:=by simp;omega
  clear h
  go_enter Tryz.func13,Tryz.ntmps13
  go_wp2_with fail
  go_ret2
  exact MatPost.no belA zd
 ·have q1:decide (n<1)=false:=by simp;omega
  have q2:decide ((4:Int)<n)=true:=by simp;omega
  clear h
  go_enter Tryz.func13,Tryz.ntmps13
  go_wp2_with fail
  go_ret2
  exact MatPost.no belA zd
theorem Bb (n:Nat) (w:World) (h1:1≤n) (h4:n≤4) :
  Calls Tryz.prog 13 #[.int .i64 (n:Int)] w (MatPost w 0 (kE (List.replicate n Fr.one))):=by
 obtain ⟨i0,hi,hz0,hz1,hz2⟩:=info_parts qE
 have q1:decide ((n:Int)<1)=false:=by simp;omega
 have q2:decide ((4:Int)<(n:Int))=false:=by simp;omega
 have HDG:Hid (∀ v w',gH w' 59 v (List.replicate n Fr.one)→Calls Tryz.prog 18 #[v] w' (MatPost w' 0 (kE (List.replicate n Fr.one)))):=zh fun v w' h=>by
  have:=Diagonal_ok v _ _ w' h
  have e:GQ (List.replicate n Fr.one)=0:=by
   unfold GQ
   rw [List.length_replicate,if_neg zo]
   unfold gN
   rw [if_pos]
   rw [List.all_eq_true]
   intro a ha
   obtain ⟨-, rfl⟩:=List.mem_replicate.1 ha
   decide+kernel
  rw [e] at this
  exact this
 go_enter Tryz.func13,Tryz.ntmps13
 go_wp2_with (at_make;refine wpList_make_full _ rfl _ _ 29 rfl w.heap.size 59 i0 (.agg #[.string ⟨#[]⟩,.string ⟨#[]⟩]) 2 Tryz.underlying29 hi hz0 hz1 _ _ _ _ n rfl rfl zo zo (by rw [hz2];omega) (by unfold maxLen;omega) (Nat.le_refl _) ?_)
 intro w3 hown hgrow
 have hb3:Below w.heap.size w w3:=(Below.refl _ _).grown hgrow (Nat.le_refl _) (fun k hk=>by cases hk)
 have HF:=zh (Fill.start (ok:=vB (fun _=>Fr.one)) hown)
 clear hown hgrow
 go_wp2_with fail
 go_loopw [16] (fun iv wr=>∃ c:Nat,iv= .int .i64 (c:Int)∧c≤n∧Hid (Fill wr w.heap.size 59 n c (vB fun _=>Fr.one))∧Below w.heap.size w wr) (fun iv _=>n - (intOf iv).toNat)
 case atStart=>exact ⟨0,rfl,by omega,HF,hb3⟩
 case round =>
  clear HF hb3
  obtain ⟨c,rfl,hcn,HF,hb⟩:=hrel
  have lG:=HF.out.lt
  rcases Nat.lt_or_ge c n with hcl|hcl
  ·obtain ⟨⟨z1,cz1⟩,⟨z2,cz2⟩,fz⟩:=HF.out.cells hcl
   have Oq:(c:Int)<(n:Int):=by omega
   go_wp2_with fail
   go_roundw
   case rel=>exact ⟨c+1,by go_num,by omega,zh (HF.out.step hcl (fun _ _ _ h=>h) ⟨rfl,rfl⟩),(hb.setCell zi _).setCell zi _⟩
   case measure=>exact zM
  ·obtain rfl:c=n:=by omega
   have hfr:gH wr 59 (.slice (some ⟨w.heap.size,0,none⟩) c c) (List.replicate c Fr.one):=by
    refine Fill.PW (HF.out.zU fun i hi=>?_) zi zo
    simp [hi]
   have Ky:=zh hfr
   clear hfr
   go_wp2_with fail
   refine (HDG.out _ _ Ky.out).mono ?_
   rintro e w5 ⟨hb5,v,rfl,hy, -⟩
   have HV:=zh (hy rfl)
   clear hy
   go_wp2_with fail
   go_ret2
   exact MatPost.yes (Bt hb hb5) HV.out
theorem Identity_ok (n:Int) (w:World):Calls Tryz.prog 13 #[.int .i64 n] w (MatPost w (idE n) (kE (List.replicate n.toNat Fr.one))):=by
 unfold idE
 by_cases h:n<1∨4<n
 ·rw [if_pos h]
  exact Dz n _ w h
 ·rw [if_neg h]
  have e:n=((n.toNat:Nat):Int):=by omega
  have:=Bb n.toNat w zo zo
  rw [← e] at this
  exact this
end Go.Proofs.matrix
namespace Go.Proofs.matrix
open Go Go.RowKit Go.SW Go.Num Go.Mem Go.Proofs Go.Dec
theorem dA (m:Value) (n:Nat) (b:Bool) (w:World) (h:aK w m n) :
  Calls Tryz.prog 66 #[m,.bool b] w (fun e w'=>∃ v,e= .returned v∧Below w.heap.size w w'∧aT w' v (gM n b)):=aj3
theorem eD (z:Int) (hz:(Lib.decDigits z.natAbs).length≤600) (w:World) :
  Calls Tryz.prog 131 #[mo z] w (fun e w'=>∃ v,e= .returned v∧Below w.heap.size w w'∧aT w' v z):=aj2
theorem mY (v:Value) (z:Int) (w:World) (h:aT w v z) :
  Calls Tryz.prog 74 #[v] w (fun e w'=>∃ v,e= .returned v∧Below w.heap.size w w'∧aT w' v (-z)):=aj1
theorem kV (v u:Value) (z:Int) (n:Nat) (w:World) (h:aT w v z) (hu:aK w u n) (hz:sz 1000000000 z.natAbs≤549755813888) (hn:sz 1000000000 n≤549755813888) :
  Calls Tryz.prog 79 #[v,u] w (fun e w'=>∃ v,e= .returned v∧Below w.heap.size w w'∧aT w' v (z*n)):=aj0
theorem Fg (pa pb:Option Addr) (l m ca cb:Nat) (z y:Int) (b:Bool) (w:World) (h:aK w (.slice pa l ca) z.natAbs) (h2:aK w (.slice pb m cb) y.natAbs) (hz:decide (z<0)=b) (hy:decide (y<0)=b) (kz:sz 1000000000 z.natAbs≤549755813888) (ky:sz 1000000000 y.natAbs≤549755813888) :
  Calls Tryz.prog 126 #[.agg #[.slice pa l ca,.bool b],.agg #[.slice pb m cb,.bool b]] w (fun e w'=>∃ v,e= .returned v∧Below w.heap.size w w'∧aT w' v (z+y)):=ai9
theorem Fh (pa pb:Option Addr) (l m ca cb:Nat) (z y:Int) (b:Bool) (w:World) (h:aK w (.slice pa l ca) z.natAbs) (h2:aK w (.slice pb m cb) y.natAbs) (hz:decide (z<0)=b) (hy:decide (y<0)= !b) (kz:sz 1000000000 z.natAbs≤549755813888) (ky:sz 1000000000 y.natAbs≤549755813888) :
  Calls Tryz.prog 126 #[.agg #[.slice pa l ca,.bool b],.agg #[.slice pb m cb,.bool !b]] w (fun e w'=>∃ v,e= .returned v∧Below w.heap.size w w'∧aT w' v (z+y)):=ai8
theorem sF (v u:Value) (z y:Int) (w:World) (h:aT w v z) (h2:aT w u y) (kz:sz 1000000000 z.natAbs≤549755813888) (ky:sz 1000000000 y.natAbs≤549755813888) :
  Calls Tryz.prog 126 #[v,u] w (fun e w'=>∃ v,e= .returned v∧Below w.heap.size w w'∧aT w' v (z+y)):=ai7
theorem xL (v:Value) (z:Int) (w:World) (h:aT w v z) (kz:sz 1000000000 z.natAbs≤1099511627776) (ht:qP.Pow w) :
  Calls Tryz.prog 120 #[v] w (fun e w'=>e= .returned (mo z)∧Below w.heap.size w w'):=ai6
theorem lW (v u:Value) (z y:Int) (w:World) (h:aT w v z) (h2:aT w u y) (kz:sz 1000000000 z.natAbs≤549755813888) (ky:sz 1000000000 y.natAbs≤549755813888) :
  Calls Tryz.prog 124 #[v,u] w (fun e w'=>∃ v,e= .returned v∧Below w.heap.size w w'∧aT w' v (z*y)):=by
 obtain ⟨Iw,lH,Iz,rfl,H⟩:=h;replace H:=zh H
 obtain ⟨ar7,lH2,ay7,rfl,H2⟩:=h2;replace H2:=zh H2
 have KZ:=zh kz
 have KY:=zh ky
 clear kz ky
 go_enter Tryz.func124,Tryz.ntmps124
 go_wp2_with fail
 refine aD [(.pure,0),(.read,1),(.pure,2),(.read,3),(.pure,5),(.read,6),(.pure,7),(.read,8),(.pure,9),(.ext,4),(.ext,10),(.fin,11)] zk zk zR zP ?_
 repeat (first|(refine au rfl rfl fun J h=>?_;go_simp;refine h _ ?_;clear h J)|(refine aF rfl rfl rfl rfl fun J h=>?_;go_simp;refine h _ ?_;clear h J;try go_simp))
 refine aG rfl rfl (fun w1 hb1 J hJ=>?_);go_simp
 have BR:=ah.later (ah.drew (ah.at2 _ _ _ _ _)) hb1;have bW:=BR.cell;have bZ:=BR.free
 refine (iB _ _ z.natAbs y.natAbs _ aH aH (Nat.le_trans KZ.out zo) (Nat.le_trans KY.out zo)).mono ?_
 rintro e v1 ⟨v,rfl,hc1,hv⟩
 obtain ⟨ar4,lHS,ay4,rfl⟩:=hv.slice;have HS:=zh hv;clear hv
 replace BR:=ah.later (BR) hc1;replace bW:=BR.cell;replace bZ:=BR.free
 refine hJ _ _ hc1 ?_
 clear hJ J
 refine aG rfl rfl (fun w2 hb2 J hJ=>?_);go_simp
 replace BR:=ah.later (BR) hb2;replace bW:=BR.cell;replace bZ:=BR.free
 refine (dA _ (z.natAbs*y.natAbs) _ _ aH).mono ?_
 rintro e v2 ⟨v,rfl,hc2,hv⟩
 obtain ⟨Rk,lHT,UE,rfl,HT⟩:=hv;replace HT:=zh HT
 replace BR:=ah.later (BR) hc2;replace bW:=BR.cell;replace bZ:=BR.free
 refine hJ _ _ hc2 ?_
 clear hJ J
 refine aN [_] rfl (fun w5 hb5=>?_)
 replace BR:=ah.later (BR) hb5;replace bW:=BR.cell;replace bZ:=BR.free
 go_wp2_with fail
 refine dO rfl rfl boxA Tryz.underlying112 rfl zk ?_
 exact ⟨_,rfl,belA,(aT.aO aH).cast (yI z y)⟩
theorem wM (v u:Value) (z y:Int) (w:World) (h:aT w v z) (h2:aT w u y) (hy:y≠0) (hd:y ∣ z) (kz:sz 1000000000 z.natAbs≤549755813888) :
  Calls Tryz.prog 184 #[v,u] w (fun e w'=>∃ v,e= .returned v∧Below w.heap.size w w'∧aT w' v (z / y)):=by
 obtain ⟨Iw,lH,Iz,rfl,H⟩:=h;replace H:=zh H
 obtain ⟨ar7,lH2,ay7,rfl,H2⟩:=h2;replace H2:=zh H2
 have KZ:=zh kz
 have HY:=zh hy
 have HE:Hid (gM (z.natAbs / y.natAbs) (decide (z<0) != decide (y<0))=z / y):=yH hd
 clear kz hy hd
 go_enter Tryz.func184,Tryz.ntmps184
 go_wp2_with fail
 refine (dS _ _ z.natAbs y.natAbs _ aH aH (Int.natAbs_pos.mpr HY.out) KZ.out).mono ?_
 rintro e v1 ⟨v,vr,rfl,hc1,hv,jK⟩
 obtain ⟨ar6,lHQ,ay6,rfl⟩:=hv.slice;have HQ:=zh hv;clear hv;obtain ⟨ar5,aD0,ay5,rfl⟩:=jK.slice;have HQr:=zh jK;clear jK
 have BR:=ah.later (ah.at2 _ _ _ _ _) hc1;have bW:=BR.cell;have bZ:=BR.free
 have B1:=ah.later (ah.alloc (ah.oV _ _ _ _) _) hc1;have cB1:=B1.cell;have DY:=B1.free
 have B0:=ah.later (ah.alloc (ah.alloc (ah.new _ _ _) _) _) hc1;have cB0:=B0.cell;have iQ:=B0.free
 go_wp2_with fail
 refine (dA _ (z.natAbs / y.natAbs) _ _ aH).mono ?_
 rintro e v2 ⟨v,rfl,hc2,hv⟩
 obtain ⟨Rk,lHT,UE,rfl,HT⟩:=hv;replace HT:=zh HT
 replace BR:=ah.later (BR) hc2;replace bW:=BR.cell;replace bZ:=BR.free
 go_wp2_with fail
 refine dO rfl rfl boxA Tryz.underlying112 rfl zk ?_
 exact ⟨_,rfl,belA,(aT.aO aH).cast HE.out⟩
end Go.Proofs.matrix
namespace Go.Proofs.matrix
open Go Go.RowKit Go.SW Go.Num Go.Mem Go.Proofs Go.Dec Go.dF
theorem Gh (x y:Value) (a b:Nat) (w:World) (hx:aK w x a) (hy:aK w y b) (ha:0<a) (ka:sz 1000000000 a≤549755813888) (kb:sz 1000000000 b≤549755813888) :
  Calls Tryz.prog 130 #[x,y] w (fun e w'=>∃ v,e= .returned v∧Below w.heap.size w w'∧aK w' v (a*(b / a.gcd b))):=by
 obtain ⟨Iw,lH,Iz,rfl⟩:=hx.slice;have H:=zh hx;clear hx
 obtain ⟨Rm,lG,UF,rfl⟩:=hy.slice;have G:=zh hy;clear hy
 have hg:0<a.gcd b:=Nat.gcd_pos_of_pos_left _ ha
 have kc:= @iE b (a.gcd b)
 obtain ⟨g,Eg⟩:∃ y:Nat,Hid (a.gcd b=y):=⟨_,zh rfl⟩
 rw [Eg.out] at hg kc ⊢
 obtain ⟨c,Ec⟩:∃ y:Nat,Hid (b / g=y):=⟨_,zh rfl⟩
 rw [Ec.out] at kc ⊢
 obtain ⟨d,Ed⟩:∃ y:Nat,Hid (a*c=y):=⟨_,zh rfl⟩
 rw [Ed.out]
 have HG:=zh hg
 have KC:=zh (Nat.le_trans kc kb)
 have KA:=zh ka
 have KB:=zh kb
 clear hg ha kc ka kb
 go_enter Tryz.func130,Tryz.ntmps130
 go_wp2_with fail
 refine ((qI _ _ a b _ aH aH KA.out KB.out).mono (by rw [Eg.out];exact fun _ _ h=>h)).mono ?_
 rintro e v1 ⟨v,rfl,hc1,hv⟩
 obtain ⟨Wu,lHg,Yb,rfl⟩:=hv.slice;have Hg:=zh hv;clear hv
 replace H:=zh (aK.carry H.out aH hc1)
 replace G:=zh (aK.carry G.out aH hc1)
 go_wp2_with fail
 refine ((dS _ _ b g _ aH aH HG.out KB.out).mono (by rw [Ec.out];exact fun _ _ h=>h)).mono ?_
 rintro e v2 ⟨v,vr,rfl,hc2,hv,jK⟩
 obtain ⟨aC0,lHc,aG8,rfl⟩:=hv.slice;have Hc:=zh hv;clear hv;obtain ⟨aJ3,aO5,aK3,rfl⟩:=jK.slice;have Hcr:=zh jK;clear jK
 replace H:=zh (aK.later H.out hc2)
 replace G:=zh (aK.later G.out hc2)
 replace Hg:=zh (aK.later Hg.out hc2)
 go_wp2_with fail
 refine ((iB _ _ a c _ aH aH (Nat.le_trans KA.out zo) (Nat.le_trans KC.out zo)).mono (by rw [Ed.out];exact fun _ _ h=>h)).mono ?_
 rintro e v3 ⟨v,rfl,hc3,hv⟩
 obtain ⟨aM8,lHd,aR7,rfl⟩:=hv.slice;have Hd:=zh hv;clear hv
 replace H:=zh (aK.later H.out hc3)
 go_wp2_with fail
 go_ret
 exact ⟨_,rfl,belA,Hd.out⟩
theorem iX (x y:Value) (n d:Int) (w:World) (hx:aT w x n) (hy:aT w y d) (hd:d≠0) (kn:sz 1000000000 n.natAbs≤549755813888) (kd:sz 1000000000 d.natAbs≤549755813888) (ht:qP.Pow w) :
  Calls Tryz.prog 64 #[x,y] w (fun e w'=>e= .returned (Fr.res (wr ((n:Rat) / (d:Rat))))∧Below w.heap.size w w'):=by
 obtain ⟨Iw,lH,Iz,rfl,H⟩:=hx;replace H:=zh H
 obtain ⟨Rm,lG,UF,rfl,G⟩:=hy;replace G:=zh G
 have hdp:0<d.natAbs:=by omega
 rw [← Ll n d hd]
 have hp:=qB (gM n.natAbs (!(decide (n<0) == decide (d<0)))) hdp
 rw [fH] at hp
 have hg:0<n.natAbs.gcd d.natAbs:=Nat.gcd_pos_of_pos_right _ hdp
 have kt:= @iE n.natAbs (n.natAbs.gcd d.natAbs)
 have kb:= @iE d.natAbs (n.natAbs.gcd d.natAbs)
 obtain ⟨q,Eq⟩:∃ y:Rat,Hid (mkRat (gM n.natAbs (Bool.not (decide (n<0) == decide (d<0)))) d.natAbs=y):=⟨_,zh rfl⟩
 rw [show mkRat (gM n.natAbs (!(decide (n<0) == decide (d<0)))) d.natAbs=q from Eq.out] at hp ⊢
 obtain ⟨g,Eg⟩:∃ y:Nat,Hid (n.natAbs.gcd d.natAbs=y):=⟨_,zh rfl⟩
 rw [Eg.out] at hg kt kb hp
 obtain ⟨t,Et⟩:∃ y:Nat,Hid (n.natAbs / g=y):=⟨_,zh rfl⟩
 rw [Et.out] at kt hp
 obtain ⟨b,Eb⟩:∃ y:Nat,Hid (d.natAbs / g=y):=⟨_,zh rfl⟩
 rw [Eb.out] at kb hp
 have Tf:q.num.natAbs=t:=by rw [hp.1,fH]
 have hden:q.den=b:=hp.2
 have Xi:q.num=gM t (!(decide (n<0) == decide (d<0))):=by
  rw [hp.1]
  unfold gM
  by_cases h0:t=0
  ·simp [h0]
  ·have hn0:n.natAbs≠0:=fun e=>h0 (by rw [← Et.out,e];simp)
   by_cases h1:n<0<;>by_cases h2:d<0<;>simp [h1,h2]<;>omega
 have HG:=zh hg
 have KT:=zh (Nat.le_trans kt kn)
 have KB:=zh (Nat.le_trans kb kd)
 have KN:=zh kn
 have KD:=zh kd
 have HT:=zh ht
 clear hg kt kb kn kd ht hp hd hdp
 rcases Nat.lt_or_ge 600 (Lib.decDigits t).length with h1|h1
 ·rw [pO (by unfold iU;rw [Tf,CJ h1];rfl)]
  clear Tf hden Xi
  go_enter Tryz.func64,Tryz.ntmps64
  go_wp2_with fail
  refine ((qI _ _ n.natAbs d.natAbs _ aH aH KN.out KD.out).mono (by rw [Eg.out];exact fun _ _ h=>h)).mono ?_
  rintro e v1 ⟨v,rfl,hc1,hv⟩
  obtain ⟨Wu,lHg,Yb,rfl⟩:=hv.slice;have Hg:=zh hv;clear hv
  replace H:=zh (aK.carry H.out aH hc1)
  replace G:=zh (aK.carry G.out aH hc1)
  have BR:=ah.later (ah.at2 _ _ _ _ _) hc1;have bW:=BR.cell;have bZ:=BR.free;have fu:=BR.lt
  have B1:=ah.later (ah.alloc (ah.oV _ _ _ _) _) hc1;have cB1:=B1.cell;have DY:=B1.free;have lB1:=B1.lt
  have B0:=ah.later (ah.alloc (ah.alloc (ah.new _ _ _) _) _) hc1;have cB0:=B0.cell;have iQ:=B0.free;have lB0:=B0.lt
  go_wp2_with fail
  refine ((dS _ _ n.natAbs g _ aH aH HG.out KN.out).mono (by rw [Et.out];exact fun _ _ h=>h)).mono ?_
  rintro e v2 ⟨v,vr,rfl,hc2,hv,jK⟩
  obtain ⟨ar0,lHt,ay0,rfl⟩:=hv.slice;have Ht:=zh hv;clear hv;obtain ⟨YM,as4,Zl,rfl⟩:=jK.slice;have Htr:=zh jK;clear jK
  replace H:=zh (aK.later H.out hc2)
  replace G:=zh (aK.later G.out hc2)
  replace Hg:=zh (aK.later Hg.out hc2)
  replace BR:=ah.later (BR) hc2;replace bW:=BR.cell;replace bZ:=BR.free;replace fu:=BR.lt
  replace B1:=ah.later (B1) hc2;replace cB1:=B1.cell;replace DY:=B1.free;replace lB1:=B1.lt
  replace B0:=ah.later (B0) hc2;replace cB0:=B0.cell;replace iQ:=B0.free;replace lB0:=B0.lt
  go_wp2_with fail
  refine ((dS _ _ d.natAbs g _ aH aH HG.out KD.out).mono (by rw [Eb.out];exact fun _ _ h=>h)).mono ?_
  rintro e v3 ⟨v,vr,rfl,hc3,hv,jK⟩
  obtain ⟨Wv,lHb,Yc,rfl⟩:=hv.slice;have Hb:=zh hv;clear hv;obtain ⟨Rh,ac6,UC,rfl⟩:=jK.slice;have Hbr:=zh jK;clear jK
  replace Ht:=zh (aK.later Ht.out hc3)
  replace BR:=ah.later (BR) hc3;replace bW:=BR.cell;replace bZ:=BR.free;replace fu:=BR.lt
  replace B1:=ah.later (B1) hc3;replace cB1:=B1.cell;replace DY:=B1.free;replace lB1:=B1.lt
  replace B0:=ah.later (B0) hc3;replace cB0:=B0.cell;replace iQ:=B0.free;replace lB0:=B0.lt
  go_wp2_with fail
  refine (gJ _ t _ aH (Nat.le_trans KT.out zo) (HT.out.later belA)).mono ?_
  rintro e v4 ⟨rfl,hc4⟩
  replace BR:=ah.later (BR) hc4;replace bW:=BR.cell;replace bZ:=BR.free;replace fu:=BR.lt
  go_wp2_with fail
  refine bH rfl rfl boxA Tryz.underlying59 rfl zk ?_
  exact ⟨rfl,belA⟩
 ·rcases Nat.lt_or_ge 600 (Lib.decDigits b).length with h2|h2
  ·rw [pO (by unfold iU;rw [hden,CJ h2,Bool.and_false])]
   clear Tf hden Xi
   go_enter Tryz.func64,Tryz.ntmps64
   go_wp2_with fail
   refine ((qI _ _ n.natAbs d.natAbs _ aH aH KN.out KD.out).mono (by rw [Eg.out];exact fun _ _ h=>h)).mono ?_
   rintro e v1 ⟨v,rfl,hc1,hv⟩
   obtain ⟨Wu,lHg,Yb,rfl⟩:=hv.slice;have Hg:=zh hv;clear hv
   replace H:=zh (aK.carry H.out aH hc1)
   replace G:=zh (aK.carry G.out aH hc1)
   have BR:=ah.later (ah.at2 _ _ _ _ _) hc1;have bW:=BR.cell;have bZ:=BR.free;have fu:=BR.lt
   have B1:=ah.later (ah.alloc (ah.oV _ _ _ _) _) hc1;have cB1:=B1.cell;have DY:=B1.free;have lB1:=B1.lt
   have B0:=ah.later (ah.alloc (ah.alloc (ah.new _ _ _) _) _) hc1;have cB0:=B0.cell;have iQ:=B0.free;have lB0:=B0.lt
   go_wp2_with fail
   refine ((dS _ _ n.natAbs g _ aH aH HG.out KN.out).mono (by rw [Et.out];exact fun _ _ h=>h)).mono ?_
   rintro e v2 ⟨v,vr,rfl,hc2,hv,jK⟩
   obtain ⟨ar0,lHt,ay0,rfl⟩:=hv.slice;have Ht:=zh hv;clear hv;obtain ⟨YM,as4,Zl,rfl⟩:=jK.slice;have Htr:=zh jK;clear jK
   replace H:=zh (aK.later H.out hc2)
   replace G:=zh (aK.later G.out hc2)
   replace Hg:=zh (aK.later Hg.out hc2)
   replace BR:=ah.later (BR) hc2;replace bW:=BR.cell;replace bZ:=BR.free;replace fu:=BR.lt
   replace B1:=ah.later (B1) hc2;replace cB1:=B1.cell;replace DY:=B1.free;replace lB1:=B1.lt
   replace B0:=ah.later (B0) hc2;replace cB0:=B0.cell;replace iQ:=B0.free;replace lB0:=B0.lt
   go_wp2_with fail
   refine ((dS _ _ d.natAbs g _ aH aH HG.out KD.out).mono (by rw [Eb.out];exact fun _ _ h=>h)).mono ?_
   rintro e v3 ⟨v,vr,rfl,hc3,hv,jK⟩
   obtain ⟨Wv,lHb,Yc,rfl⟩:=hv.slice;have Hb:=zh hv;clear hv;obtain ⟨Rh,ac6,UC,rfl⟩:=jK.slice;have Hbr:=zh jK;clear jK
   replace Ht:=zh (aK.later Ht.out hc3)
   replace BR:=ah.later (BR) hc3;replace bW:=BR.cell;replace bZ:=BR.free;replace fu:=BR.lt
   replace B1:=ah.later (B1) hc3;replace cB1:=B1.cell;replace DY:=B1.free;replace lB1:=B1.lt
   replace B0:=ah.later (B0) hc3;replace cB0:=B0.cell;replace iQ:=B0.free;replace lB0:=B0.lt
   go_wp2_with fail
   refine (gJ _ t _ aH (Nat.le_trans KT.out zo) (HT.out.later belA)).mono ?_
   rintro e v4 ⟨rfl,hc4⟩
   replace Ht:=zh (aK.later Ht.out hc4)
   replace Hb:=zh (aK.later Hb.out hc4)
   replace BR:=ah.later (BR) hc4;replace bW:=BR.cell;replace bZ:=BR.free;replace fu:=BR.lt
   go_wp2_with fail
   refine (gJ _ b _ aH (Nat.le_trans KB.out zo) (HT.out.later belA)).mono ?_
   rintro e v5 ⟨rfl,kI⟩
   replace BR:=ah.later (BR) kI;replace bW:=BR.cell;replace bZ:=BR.free;replace fu:=BR.lt
   go_wp2_with fail
   refine bH rfl rfl boxA Tryz.underlying59 rfl zk ?_
   exact ⟨rfl,belA⟩
  ·rw [YF (by unfold iU;rw [Tf,hden,dZ.2 h1,dZ.2 h2];rfl),Xi,hden]
   obtain ⟨s,Es⟩:∃ y:Int,Hid (gM t (Bool.not (decide (n<0) == decide (d<0)))=y):=⟨_,zh rfl⟩
   rw [show gM t (!(decide (n<0) == decide (d<0)))=s from Es.out]
   have KS:Hid (sz 1000000000 s.natAbs≤549755813888):=by unfold Hid;rw [← Es.out,fH];exact KT.out
   clear Tf hden Xi
   go_enter Tryz.func64,Tryz.ntmps64
   go_wp2_with fail
   refine ((qI _ _ n.natAbs d.natAbs _ aH aH KN.out KD.out).mono (by rw [Eg.out];exact fun _ _ h=>h)).mono ?_
   rintro e v1 ⟨v,rfl,hc1,hv⟩
   obtain ⟨Wu,lHg,Yb,rfl⟩:=hv.slice;have Hg:=zh hv;clear hv
   replace H:=zh (aK.carry H.out aH hc1)
   replace G:=zh (aK.carry G.out aH hc1)
   have BR:=ah.later (ah.at2 _ _ _ _ _) hc1;have bW:=BR.cell;have bZ:=BR.free;have fu:=BR.lt
   have B1:=ah.later (ah.alloc (ah.oV _ _ _ _) _) hc1;have cB1:=B1.cell;have DY:=B1.free;have lB1:=B1.lt
   have B0:=ah.later (ah.alloc (ah.alloc (ah.new _ _ _) _) _) hc1;have cB0:=B0.cell;have iQ:=B0.free;have lB0:=B0.lt
   go_wp2_with fail
   refine ((dS _ _ n.natAbs g _ aH aH HG.out KN.out).mono (by rw [Et.out];exact fun _ _ h=>h)).mono ?_
   rintro e v2 ⟨v,vr,rfl,hc2,hv,jK⟩
   obtain ⟨ar0,lHt,ay0,rfl⟩:=hv.slice;have Ht:=zh hv;clear hv;obtain ⟨YM,as4,Zl,rfl⟩:=jK.slice;have Htr:=zh jK;clear jK
   replace H:=zh (aK.later H.out hc2)
   replace G:=zh (aK.later G.out hc2)
   replace Hg:=zh (aK.later Hg.out hc2)
   replace BR:=ah.later (BR) hc2;replace bW:=BR.cell;replace bZ:=BR.free;replace fu:=BR.lt
   replace B1:=ah.later (B1) hc2;replace cB1:=B1.cell;replace DY:=B1.free;replace lB1:=B1.lt
   replace B0:=ah.later (B0) hc2;replace cB0:=B0.cell;replace iQ:=B0.free;replace lB0:=B0.lt
   go_wp2_with fail
   refine ((dS _ _ d.natAbs g _ aH aH HG.out KD.out).mono (by rw [Eb.out];exact fun _ _ h=>h)).mono ?_
   rintro e v3 ⟨v,vr,rfl,hc3,hv,jK⟩
   obtain ⟨Wv,lHb,Yc,rfl⟩:=hv.slice;have Hb:=zh hv;clear hv;obtain ⟨Rh,ac6,UC,rfl⟩:=jK.slice;have Hbr:=zh jK;clear jK
   replace Ht:=zh (aK.later Ht.out hc3)
   replace BR:=ah.later (BR) hc3;replace bW:=BR.cell;replace bZ:=BR.free;replace fu:=BR.lt
   replace B1:=ah.later (B1) hc3;replace cB1:=B1.cell;replace DY:=B1.free;replace lB1:=B1.lt
   replace B0:=ah.later (B0) hc3;replace cB0:=B0.cell;replace iQ:=B0.free;replace lB0:=B0.lt
   go_wp2_with fail
   refine (gJ _ t _ aH (Nat.le_trans KT.out zo) (HT.out.later belA)).mono ?_
   rintro e v4 ⟨rfl,hc4⟩
   replace Ht:=zh (aK.later Ht.out hc4)
   replace Hb:=zh (aK.later Hb.out hc4)
   replace BR:=ah.later (BR) hc4;replace bW:=BR.cell;replace bZ:=BR.free;replace fu:=BR.lt
   replace B1:=ah.later (B1) hc4;replace cB1:=B1.cell;replace DY:=B1.free;replace lB1:=B1.lt
   replace B0:=ah.later (B0) hc4;replace cB0:=B0.cell;replace iQ:=B0.free;replace lB0:=B0.lt
   go_wp2_with fail
   refine (gJ _ b _ aH (Nat.le_trans KB.out zo) (HT.out.later belA)).mono ?_
   rintro e v5 ⟨rfl,kI⟩
   replace Ht:=zh (aK.later Ht.out kI)
   replace Hb:=zh (aK.later Hb.out kI)
   replace BR:=ah.later (BR) kI;replace bW:=BR.cell;replace bZ:=BR.free;replace fu:=BR.lt
   replace B1:=ah.later (B1) kI;replace cB1:=B1.cell;replace DY:=B1.free;replace lB1:=B1.lt
   replace B0:=ah.later (B0) kI;replace cB0:=B0.cell;replace iQ:=B0.free;replace lB0:=B0.lt
   go_wp2_with fail
   refine ((dA _ t _ _ aH).mono (by rw [show gM t (!(decide (n<0) == decide (d<0)))=s from Es.out];exact fun _ _ h=>h)).mono ?_
   rintro e v6 ⟨v,rfl,hc6,hv⟩
   obtain ⟨vK,Oj,vY,rfl,Hs⟩:=hv;replace Hs:=zh Hs
   replace Hb:=zh (aK.later Hb.out hc6)
   replace BR:=ah.later (BR) hc6;replace bW:=BR.cell;replace bZ:=BR.free;replace fu:=BR.lt
   go_wp2_with fail
   refine ((xL _ s _ (aT.aO aH) (Nat.le_trans KS.out zo) (HT.out.later belA)).mono (fun _ _ h=>by unfold mo at h;exact h)).mono ?_
   rintro e v7 ⟨rfl,JB⟩
   replace Hb:=zh (aK.later Hb.out JB)
   replace BR:=ah.later (BR) JB;replace bW:=BR.cell;replace bZ:=BR.free;replace fu:=BR.lt
   go_wp2_with fail
   refine (nZ _ b _ aH (Nat.le_trans KB.out zo) (HT.out.later belA)).mono ?_
   rintro e v8 ⟨rfl,hc8⟩
   replace BR:=ah.later (BR) hc8;replace bW:=BR.cell;replace bZ:=BR.free;replace fu:=BR.lt
   go_wp2_with fail
   refine bH rfl rfl boxA Tryz.underlying59 rfl zk ?_
   exact ⟨rfl,belA⟩
theorem nC:(Tryz.prog.info? 112).map (fun i=>(i.zero,i.size,i.bytes))=some (some (.agg #[.slice none 0 0,.bool false]),2,32):=by kernel_rfl
theorem Oy (pa:Option Addr) (l ca:Nat) (b:Bool) (w:World):(Instr.field 112 (.agg #[.slice pa l ca,.bool b]) 0).run Tryz.prog w= .ok (.slice pa l ca) w:=by kernel_rfl
def Al (w:World) (qs:List Rat) (e:Ending) (w':World):Prop:=∃ vt vb,e= .returned (.tuple #[vt,vb])∧Below w.heap.size w w'∧bP w' vt (qs.map (iW (bO qs)))∧aK w' vb (bO qs)
theorem Bz (v:Value) (qs:List Rat) (T:TypeId) (w:World) (h:gH w T v (qs.map Fr.of)) (hq:∀ q∈qs,iU q=true) (hl:qs.length≤1000) :
  Calls Tryz.prog 70 #[v] w (Al w qs):=by
 obtain ⟨i0,hi,hz0,hz1,hz2⟩:=info_parts nC
 obtain ⟨a,cap,rfl,hc1,hc2,hread⟩:=h.read
 have hln:(qs.map Fr.of).length=qs.length:=List.length_map _
 have Td:∀ k (h:k<qs.length),∃ b off,a=some ⟨b,off,none⟩∧b<w.heap.size∧w.cell? ⟨b,off+k*2,none⟩=some (.string ⟨(Lib.itoa qs[k].num).toArray⟩)∧w.cell? ⟨b,off+k*2+1,none⟩=some (.string ⟨(Lib.itoa (qs[k].den:Int)).toArray⟩):=fun k hk=>by
  obtain ⟨b,off,e1,e2,e3,e4⟩:=hread k zo
  simp only [List.getElem_map] at e3 e4
  exact ⟨b,off,e1,e2,e3,e4⟩
 rw [hln] at hc1 ⊢
 have Kk:=zh Td
 have hlen:∀ k (h:k<qs.length),(Lib.decDigits qs[k].num.natAbs).length≤600∧(Lib.decDigits ((qs[k].den:Nat):Int).natAbs).length≤600:=fun k h=>by
  have hq1:=hq _ (List.getElem_mem h)
  unfold iU at hq1
  rw [Bool.and_eq_true,dZ,dZ] at hq1
  exact ⟨hq1.1,(Int.natAbs_natCast qs[k].den).symm ▸ hq1.2⟩
 have HLEN:=zh hlen
 have HSZ:Hid (∀ k,k≤qs.length→sz 1000000000 (bO (qs.take k))≤549755813888):=zh fun k hk=>by
  have:=kP (qs.take k) (fun q h=>hq q (List.mem_of_mem_take h))
  rw [List.length_take] at this
  omega
 have aA0:Hid (∀ k,0<bO (qs.take k)):=zh fun k=>(gV _).1
 have ai0:Hid (∀ k (h:k<qs.length),sz 1000000000 qs[k].den≤549755813888∧sz 1000000000 qs[k].num.natAbs≤549755813888):=zh fun k h=>by
  have:=sN (hq _ (List.getElem_mem h))
  exact ⟨Nat.le_trans this.2 zo,Nat.le_trans this.1 zo⟩
 have HDP:Hid (∀ k (h:k<qs.length),0<qs[k].den):=zh fun k h=>qs[k].den_pos
 clear hread Td hlen hq h hln
 have hfd:=Oy
 go_enter Tryz.func70,Tryz.ntmps70
 go_wp2_with fail
 go_loopw [13,3] (fun iv bv wr=>∃ k:Nat,iv= .int .i64 (k:Int)∧k≤qs.length∧Hid (aK wr bv (bO (qs.take k)))∧Below w.heap.size w wr) (fun iv _ _=>qs.length - (intOf iv).toNat)
 case atStart=>exact ⟨0,rfl,by omega,zh (show aK _ _ 1 from aK.lit (d:=1) zo zo),belA⟩
 case round =>
  obtain ⟨k,rfl,hk,HB,hb⟩:=hrel
  have hbm:=HB.out
  obtain ⟨pb,lb,cb,rfl⟩:=hbm.slice
  clear hbm
  rcases Nat.lt_or_ge k qs.length with hlt|hge
  ·obtain ⟨b,off,rfl,hbl,hx1,hx2⟩:=Kk.out k hlt
   have PZ:=(hb.cell (p:=⟨b,off+k*2,none⟩) hbl).trans hx1
   have PY:=(hb.cell (p:=⟨b,off+k*2+1,none⟩) hbl).trans hx2
   have HL2:=zh (HLEN.out k hlt).2
   have HS:=zh (HSZ.out k zo)
   have HP:=zh (aA0.out k)
   have HD:=zh (ai0.out k hlt).1
   have HT:=zh (OH hlt)
   clear hx1 hx2
   generalize bO (qs.take k)=ck at *
   generalize qs[k]=q at *
   go_wp2_with fail
   refine (eD (q.den:Int) HL2.out _).mono ?_
   rintro e v1 ⟨v,rfl,hc1,hv⟩
   obtain ⟨Jm,lHN,JQ,rfl,HN⟩:=hv;replace HN:=zh HN
   rw [Int.natAbs_natCast] at HN
   replace HB:=zh (aK.carry HB.out aH hc1)
   go_wp2_with fail
   refine ((Gh _ _ ck q.den _ aH aH HP.out HS.out HD.out).mono (by rw [← HT.out];exact fun _ _ h=>h)).mono ?_
   rintro e v2 ⟨v,rfl,hc2,hv⟩
   obtain ⟨NW,lHM,OM,rfl⟩:=hv.slice;have HM:=zh hv;clear hv
   go_wp2_with fail
   go_roundw
   case rel=>exact ⟨k+1,by go_num,by omega,HM,Bt hb belA⟩
   case measure=>exact zM
  ·obtain rfl:k=qs.length:=by omega
   rw [List.take_length] at HB
   have DJ:=zh (gV qs).2
   have HP:=zh (aA0.out qs.length)
   have HS:=zh (HSZ.out qs.length (Nat.le_refl _))
   rw [List.take_length] at HP HS
   have HX:Hid (∀ (k:Nat) (h:k<qs.length),iW (bO qs) qs[k]=(qs.map (iW (bO qs))).getD k 0):=zh fun k h=>by simp [h]
   have HXL:Hid ((qs.map (iW (bO qs))).length=qs.length):=zh (List.length_map _)
   obtain ⟨xs,EXS⟩:∃ y:List Int,Hid (qs.map (iW (bO qs))=y):=⟨_,zh rfl⟩
   obtain ⟨D,HDD⟩:∃ y:Nat,Hid (bO qs=y):=⟨_,zh rfl⟩
   rw [EXS.out] at HX HXL
   rw [HDD.out] at HX HB DJ HP HS
   go_wp2_with (at_make;refine wpList_make_full _ rfl _ _ 114 rfl w.heap.size 112 i0 (.agg #[.slice none 0 0,.bool false]) 2 Tryz.underlying114 hi hz0 hz1 _ _ _ _ qs.length rfl rfl zo zo (by rw [hz2];omega) (by unfold maxLen;omega) hb.size ?_)
   intro w1 hown hgrow
   have hbg:Below wr.heap.size wr w1:=(Below.refl _ _).grown hgrow (Nat.le_refl _) (fun k hk=>by cases hk)
   have HF:=zh (Fill.start (ok:=gD (fun i=>xs.getD i 0)) hown)
   replace HB:=zh (HB.out.later hbg)
   have hb1:Below w.heap.size w w1:=Bt hb hbg
   have hgb:w.heap.size≤wr.heap.size:=hb.size
   generalize wr.heap.size=G at *
   clear hown hgrow hbg hb
   go_wp2_with fail
   go_loopw [29] (fun iv wr2=>∃ k:Nat,iv= .int .i64 (k:Int)∧k≤qs.length∧Hid (Fill wr2 G 112 qs.length k (gD (fun i=>xs.getD i 0)))∧Hid (aK wr2 (.slice pb lb cb) D)∧Below w.heap.size w wr2) (fun iv _=>qs.length - (intOf iv).toNat)
   case atStart=>exact ⟨0,rfl,by omega,HF,HB,hb1⟩
   case round =>
    obtain ⟨k,rfl,hk,HF,HB,hb⟩:=hrel
    rcases Nat.lt_or_ge k qs.length with hlt|hge
    ·obtain ⟨b,off,rfl,hbl,hx1,hx2⟩:=Kk.out k hlt
     have PZ:=(hb.cell (p:=⟨b,off+k*2,none⟩) hbl).trans hx1
     have PY:=(hb.cell (p:=⟨b,off+k*2+1,none⟩) hbl).trans hx2
     have Qj:=zh (HLEN.out k hlt).1
     have HL2:=zh (HLEN.out k hlt).2
     have HD1:=zh (ai0.out k hlt).1
     have HD2:=zh (ai0.out k hlt).2
     have HQ:=zh (HDP.out k hlt)
     have jr:=zh (HX.out k hlt)
     have lG:=HF.out.lt
     clear hx1 hx2
     generalize qs[k]=q at *
     have hks:= @iE D q.den
     have HKS:=zh (Nat.le_trans hks HS.out)
     clear hks
     obtain ⟨c,Ec⟩:∃ y:Nat,Hid (D / q.den=y):=⟨_,zh rfl⟩
     have HX3:Hid (q.num*(c:Int)=xs.getD k 0):=zh (by rw [← jr.out,← Ec.out];rfl)
     rw [Ec.out] at HKS
     go_wp2_with fail
     refine (eD (q.den:Int) HL2.out _).mono ?_
     rintro e v1 ⟨v,rfl,hc1,hv⟩
     obtain ⟨Jm,lHN,JQ,rfl,HN⟩:=hv;replace HN:=zh HN
     rw [Int.natAbs_natCast] at HN
     replace HB:=zh (aK.carry HB.out aH hc1)
     have hbx:=ah.later (ah.new _ _ _) hc1
     have cbx:=hbx.cell
     have lbx:=hbx.lt
     replace HF:=zh (HF.out.later (Bt belA hc1) (gD.later (Bt belA hc1)))
     go_wp2_with fail
     refine ((dS _ _ D q.den _ aH aH HQ.out HS.out).mono (by rw [Ec.out];exact fun _ _ h=>h)).mono ?_
     rintro e v2 ⟨v,vr,rfl,hc2,hv,jK⟩
     obtain ⟨aC2,lHC,aH0,rfl⟩:=hv.slice;have HC:=zh hv;clear hv
     obtain ⟨aJ6,aO8,aK6,rfl⟩:=jK.slice;have HCr:=zh jK;clear jK
     clear HCr
     replace HB:=zh (HB.out.later hc2)
     replace hbx:=hbx.later hc2
     replace cbx:=hbx.cell
     replace lbx:=hbx.lt
     replace HF:=zh (HF.out.later hc2 (gD.later hc2))
     go_wp2_with fail
     refine (eD q.num Qj.out _).mono ?_
     rintro e v3 ⟨v,rfl,hc3,hv⟩
     obtain ⟨NW,lHM,OM,rfl,HM⟩:=hv;replace HM:=zh HM
     replace HB:=zh (HB.out.later hc3)
     replace HC:=zh (HC.out.later hc3)
     replace HF:=zh (HF.out.later hc3 (gD.later hc3))
     go_wp2_with fail
     refine ((kV _ _ q.num c _ (aT.aO aH) aH HD2.out HKS.out).mono (by rw [HX3.out];exact fun _ _ h=>h)).mono ?_
     rintro e v4 ⟨v,rfl,hc4,hv⟩
     obtain ⟨CG,Xb,Dq,rfl,HV⟩:=hv;replace HV:=zh HV
     replace HB:=zh (HB.out.later hc4)
     replace HF:=zh (HF.out.later hc4 (gD.later hc4))
     obtain ⟨⟨y1,AQ⟩,⟨y2,OB⟩,fy⟩:=HF.out.cells hlt
     go_wp2_with fail
     have Lr:=HF.out.rM
     go_roundw
     case rel =>
      exact ⟨k+1,by go_num,by omega,zh (HF.out.step hlt (fun i x y h=>gD.jD Lr.setCell zd _ _ _ (gD.jD Lr zd _ _ _ h)) ⟨_,_,_,rfl,rfl,(HV.out.jD Lr zd).jD Lr.setCell zd⟩),
       zh ((HB.out.jD Lr zd).jD Lr.setCell zd),(by have hG:wr.heap.size≥0:=Nat.zero_le _;exact ((Bt (Bt (Bt (Bt (aJ hb _) hc1) hc2) hc3) hc4).setCell hgb _).setCell hgb _)⟩
     case measure=>exact zM
    ·obtain rfl:k=qs.length:=by omega
     have hxl:=HXL.out
     have hfin:bP wr (.slice (some ⟨G,0,none⟩) qs.length qs.length) xs:=by
      have:=HF.out
      rw [← hxl] at this ⊢
      exact bP.rA this zo
     have ah9:=zh hfin
     clear hfin hxl
     go_wp2_with fail
     go_ret2
     exact ⟨_,_,rfl,hb,by rw [EXS.out];exact ah9.out,by rw [HDD.out];exact HB.out⟩
def vk (w:World) (z:Int) (e:Ending) (w':World):Prop:=∃ v,e= .returned (.tuple #[v,.int .i64 0])∧Below w.heap.size w w'∧aT w' v z
theorem XF (bx by':Nat) (vx vy:Value) (xs ys:List Int) (i:Nat) (w:World) (hx:bP w vx xs) (hy:bP w vy ys) (hbx:ah w bx #[vx] 114) (hby:ah w by' #[vy] 114)
  (h1:i<xs.length) (h2:i<ys.length) (k1:sz 1000000000 (xs.getD i 0).natAbs≤549755813888) (k2:sz 1000000000 (ys.getD i 0).natAbs≤549755813888) :
  Calls Tryz.prog 123 #[.int .i64 (i:Int),.pointer (some ⟨bx,0,none⟩),.pointer (some ⟨by',0,none⟩)] w (vk w (xs.getD i 0*ys.getD i 0)):=by
 obtain ⟨a,cap,rfl,hc1,hc2,hread⟩:=hx.read
 obtain ⟨a',cap',rfl,hc1',hc2',vQ⟩:=hy.read
 obtain ⟨b,off,pa,n,ca,rfl,hbl,PZ,PY,hm⟩:=hread i h1
 obtain ⟨b',off',pa',n',ca',rfl,kg,AQ,OB,hm'⟩:=vQ i h2
 have H:=zh hm
 have H':=zh hm'
 have cbx:=hbx.cell
 have cby:=hby.cell
 have lx:=hbx.lt
 have ly:=hby.lt
 generalize xs.getD i 0=x at *
 generalize ys.getD i 0=u at *
 have K1:=zh k1
 have K2:=zh k2
 obtain ⟨z,Ez⟩:∃ y:Int,Hid (x*u=y):=⟨_,zh rfl⟩
 rw [Ez.out]
 clear hm hm' hread vQ hx hy k1 k2 hbx hby
 go_enter Tryz.func123,Tryz.ntmps123
 go_wp2_with fail
 refine aD [(.read,0),(.pure,1),(.pure,2),(.read,3),(.read,4),(.pure,5),(.pure,6),(.read,7),(.ext,8),(.fin,9),(.fin,10)] zk zk zR zP ?_
 repeat (first|(refine au rfl rfl fun J h=>?_;go_simp;refine h _ ?_;clear h J)|(refine aF rfl rfl rfl rfl fun J h=>?_;go_simp;refine h _ ?_;clear h J;try go_simp))
 refine aG rfl rfl (fun w1 hb1 J hJ=>?_);go_simp
 have BR:=ah.later (ah.drew (ah.new _ _ _)) hb1;have bW:=BR.cell;have bZ:=BR.free;have fu:=BR.lt
 refine ((lW _ _ x u _ (aT.aO aH) (aT.aO aH) K1.out K2.out).mono (by rw [Ez.out];exact fun _ _ h=>h)).mono ?_
 rintro e v1 ⟨v,rfl,hc1,hv⟩
 obtain ⟨CG,Xb,Dq,rfl,HV⟩:=hv;replace HV:=zh HV
 replace BR:=ah.later (BR) hc1;replace bW:=BR.cell;replace bZ:=BR.free;replace fu:=BR.lt
 refine hJ _ _ hc1 ?_
 clear hJ J
 refine aN [_,_] rfl (fun w5 hb5=>?_)
 replace BR:=ah.later (BR) hb5;replace bW:=BR.cell;replace bZ:=BR.free;replace fu:=BR.lt
 go_wp2_with fail
 refine bH rfl rfl boxA Tryz.underlying112 rfl zk ?_
 exact ⟨_,rfl,belA,aT.aO aH⟩
theorem XE (vx vy:Value) (x y:Int) (w:World) (hx:aT w vx x) (hy:aT w vy y) (k1:sz 1000000000 x.natAbs≤549755813888) (k2:sz 1000000000 y.natAbs≤549755813888) :
  Calls Tryz.prog 125 #[vx,vy] w (vk w (x+y)):=by
 obtain ⟨Iw,lH,Iz,rfl,H⟩:=hx;replace H:=zh H
 obtain ⟨Rm,lG,UF,rfl,G⟩:=hy;replace G:=zh G
 have K1:=zh k1
 have K2:=zh k2
 obtain ⟨z,Ez⟩:∃ z:Int,Hid (x+y=z):=⟨_,zh rfl⟩
 rw [Ez.out]
 clear k1 k2
 go_enter Tryz.func125,Tryz.ntmps125
 go_wp2_with fail
 refine ((sF _ _ x y _ (aT.aO aH) (aT.aO aH) K1.out K2.out).mono (by rw [Ez.out];exact fun _ _ h=>h)).mono ?_
 rintro e v1 ⟨v,rfl,hc1,hv⟩
 obtain ⟨CG,Xb,Dq,rfl,HV⟩:=hv;replace HV:=zh HV
 have BR:=ah.later (ah.at2 _ _ _ _ _) hc1;have bW:=BR.cell;have bZ:=BR.free;have fu:=BR.lt
 go_wp2_with fail
 refine bH rfl rfl boxA Tryz.underlying112 rfl zk ?_
 exact ⟨_,rfl,belA,aT.aO aH⟩
def oM (f:Nat→Int):Nat→Int
 | 0=>0
 | k+1=>oM f k+f k
theorem qZ (f:Nat→Int) (K:Nat) (h:∀ j,sz 1000000000 (f j).natAbs≤K):∀ k,sz 1000000000 (oM f k).natAbs≤K+k
 | 0=>by simp [oM,iy]
 | k+1=>by
  have h1:=qZ f K h k
  have h2:=h k
  have h3:=qX (oM f k) (f k)
  simp only [oM]
  omega
def uV (w:World) (z:Int) (e:Ending) (w':World):Prop:=∃ v,e= .returned (.tuple #[v,.int .i64 0])∧Below w.heap.size w w'∧aT w' v z
theorem VW (bx by':Nat) (vx vy:Value) (xs ys:List Int) (n:Nat) (w:World) (hx:bP w vx xs) (hy:bP w vy ys) (hbx:ah w bx #[vx] 114) (hby:ah w by' #[vy] 114)
  (h1:xs.length=n) (h2:ys.length=n) (h0:0<n) (hn:n≤1000) (k1:∀ i,sz 1000000000 (xs.getD i 0).natAbs≤1000000) (k2:∀ i,sz 1000000000 (ys.getD i 0).natAbs≤1000000) :
  Calls Tryz.prog 122 #[.int .i64 (n:Int),.func (.func 123) #[] #[.pointer (some ⟨bx,0,none⟩),.pointer (some ⟨by',0,none⟩)],.func (.func 125) #[] #[]] w (uV w (oM (fun i=>xs.getD i 0*ys.getD i 0) n)):=by
 have HD:Hid (∀ i,i<n→∀ w',Below w.heap.size w w'→Calls Tryz.prog 123 #[.int .i64 (i:Int),.pointer (some ⟨bx,0,none⟩),.pointer (some ⟨by',0,none⟩)] w' (vk w' (xs.getD i 0*ys.getD i 0))) :=
  zh fun i hi w' hb=>XF bx by' vx vy xs ys i w' (hx.later hb) (hy.later hb) (hbx.later hb) (hby.later hb) zo zo (Nat.le_trans (k1 i) zo) (Nat.le_trans (k2 i) zo)
 obtain ⟨f,hf⟩:∃ f:Nat→Int,f=fun i=>xs.getD i 0*ys.getD i 0:=⟨_,rfl⟩
 have hfz:∀ i,sz 1000000000 (f i).natAbs≤2000000:=fun i=>by
  rw [hf]
  have:=iF (xs.getD i 0) (ys.getD i 0)
  have:=k1 i
  have:=k2 i
  simp only
  omega
 have HFZ:Hid (∀ i,sz 1000000000 (f i).natAbs≤549755813888):=zh fun i=>Nat.le_trans (hfz i) zo
 have HPZ:Hid (∀ i,i≤n→sz 1000000000 (oM f i).natAbs≤549755813888):=zh fun i hi=>by
  have:=qZ f _ hfz i
  omega
 have HD2:Hid (∀ i,i<n→∀ w',Below w.heap.size w w'→Calls Tryz.prog 123 #[.int .i64 (i:Int),.pointer (some ⟨bx,0,none⟩),.pointer (some ⟨by',0,none⟩)] w' (vk w' (f i))):=by
  rw [hf]
  exact HD
 rw [← hf]
 clear hf hfz HD hx hy hbx hby h1 h2 k1 k2
 have Zh:f 0=oM f (0+1):=by simp [oM]
 have BU:=zh Zh
 clear Zh
 go_enter Tryz.func122,Tryz.ntmps122
 go_wp2_with fail
 refine (HD2.out 0 h0 _ belA).mono ?_
 rintro e v1 ⟨v,rfl,hc1,hv⟩
 obtain ⟨CG,Xb,Dq,rfl,HV⟩:=hv;replace HV:=zh HV
 rw [BU.out] at HV ⊢
 have BR:=ah.later (ah.alloc (ah.new _ _ _) _) hc1;have bW:=BR.cell;have bZ:=BR.free;have fu:=BR.lt
 go_wp2_with fail
 have hbt:=ah.new v1 #[.slice CG Xb Dq,.bool (decide (oM f (0+1)<0))] 112
 have hbr:=BR.alloc (.cells #[.slice CG Xb Dq,.bool (decide (oM f (0+1)<0))] 112 (0,0))
 have hbw:Below w.heap.size w v1:=Bt belA hc1
 have hnd:=fu
 clear BR bW bZ fu
 obtain ⟨B9,hB9⟩:∃ b,v1.heap.size=b:=⟨_,rfl⟩
 rw [hB9] at hbt hnd ⊢
 have HB9:=zh hB9
 clear hB9
 go_loopw [11] (fun iv wr=>∃ (k:Nat) (pa:Option Addr) (l ca:Nat),iv= .int .i64 (k:Int)∧1≤k∧k≤n∧Hid (ah wr B9 #[.slice pa l ca,.bool (decide (oM f k<0))] 112)∧Hid (aK wr (.slice pa l ca) (oM f k).natAbs)∧Hid (ah wr w.heap.size #[.slice none 0 0,.bool false] 112)∧Below w.heap.size w wr) (fun iv _=>n - (intOf iv).toNat)
 case atStart=>exact ⟨1,_,_,_,rfl,by omega,by omega,zh hbt,zh aH,zh hbr,aJ hbw _⟩
 case round =>
  obtain ⟨k,pa,l,ca,rfl,hk1,hk2,HT,HM,HR,hb⟩:=hrel
  have ct:=HT.out.cell
  have ft:=HT.out.free
  have lt:=HT.out.lt
  have cr:=HR.out.cell
  have fr:=HR.out.free
  have lr:=HR.out.lt
  have hne:w.heap.size≠B9:=by omega
  have hne2:B9≠w.heap.size:=by omega
  rcases Nat.lt_or_ge k n with hlt|hge
  ·have HF:=zh (HFZ.out k)
   have HP:=zh (HPZ.out k zo)
   have HS:Hid (oM f k+f k=oM f (k+1)):=zh rfl
   go_wp2_with fail
   refine (HD2.out k hlt _ hb).mono ?_
   rintro e v2 ⟨v,rfl,hc2,hv⟩
   obtain ⟨aN0,lHX,aR9,rfl,HX⟩:=hv;replace HX:=zh HX
   have ht2:=HT.out.later hc2
   replace ct:=ht2.cell
   replace ft:=ht2.free
   replace lt:=ht2.lt
   have hr2:=HR.out.later hc2
   replace HM:=zh (HM.out.later hc2)
   go_wp2_with fail
   refine ((XE _ _ (oM f k) (f k) _ (aT.aO aH) (aT.aO aH) HP.out HF.out).mono (by rw [HS.out];exact fun _ _ h=>h)).mono ?_
   rintro e v3 ⟨v,rfl,hc3,hv⟩
   obtain ⟨aM9,lHY,aR8,rfl,HY⟩:=hv;replace HY:=zh HY
   have ht3:=(ht2.alloc _).later hc3
   replace ct:=ht3.cell
   replace ft:=ht3.free
   replace lt:=ht3.lt
   have hr3:=(hr2.alloc _).later hc3
   have is3:=ht3.rM
   clear ht2 hr2 cr fr lr
   go_wp2_with fail
   go_roundw
   case rel =>
    refine ⟨k+1,_,_,_,by go_num,by omega,by omega,zh ((ht3.set 0 _).set 1 _),zh ((HY.out.jD is3 zd).jD is3.setCell zd),zh ((hr3.setOther _ hne).setOther _ hne),?_⟩
    exact ((Bt (aJ (Bt hb hc2) _) hc3).setCell (by simp;omega) _).setCell (by simp;omega) _
   case measure=>exact zM
  ·obtain rfl:k=n:=by omega
   have isr:=HR.out.rM
   go_wp2_with fail
   refine bH rfl rfl ((HR.out.set 0 _).set 1 _) Tryz.underlying112 rfl zk ?_
   exact ⟨_,rfl,(hb.setCell zi _).setCell zi _,aT.aO ((HM.out.jD isr zd).jD isr.setCell zd)⟩
def vV (xs ys:List Int):Int:=oM (fun i=>xs.getD i 0*ys.getD i 0) xs.length
theorem Uj (vx vy:Value) (xs ys:List Int) (w:World) (hx:bP w vx xs) (hy:bP w vy ys)
  (h2:ys.length=xs.length) (h0:0<xs.length) (hn:xs.length≤1000) (k1:∀ i,sz 1000000000 (xs.getD i 0).natAbs≤1000000) (k2:∀ i,sz 1000000000 (ys.getD i 0).natAbs≤1000000) :
  Calls Tryz.prog 65 #[vx,vy] w (fun e w'=>∃ v,e= .returned v∧Below w.heap.size w w'∧aT w' v (vV xs ys)):=by
 obtain ⟨a,cap,rfl,hc1,hc2, -⟩:=hx.read
 obtain ⟨a',cap',rfl,hc1',hc2', -⟩:=hy.read
 have HS:Hid (∀ bx by' w',Below w.heap.size w w'→ah w' bx #[.slice a xs.length cap] 114→ah w' by' #[.slice a' ys.length cap'] 114→Calls Tryz.prog 122 #[.int .i64 (xs.length:Int),.func (.func 123) #[] #[.pointer (some ⟨bx,0,none⟩),.pointer (some ⟨by',0,none⟩)],.func (.func 125) #[] #[]] w' (uV w' (vV xs ys))) :=
  zh fun bx by' w' hb h3 h4=>VW bx by' _ _ xs ys xs.length w' (hx.later hb) (hy.later hb) h3 h4 rfl h2 h0 hn k1 k2
 obtain ⟨z,Ez⟩:∃ z:Int,Hid (vV xs ys=z):=⟨_,zh rfl⟩
 rw [Ez.out] at HS ⊢
 clear hx hy k1 k2 h0 h2
 have hmf:∀ (fn:Fn) (first cap:Array Value) (w:World),(Instr.makeFunc fn first cap).run Tryz.prog w= .ok (.func fn first cap) w:=fun _ _ _ _=>rfl
 go_enter Tryz.func65,Tryz.ntmps65
 go_wp2_with fail
 refine (HS.out _ _ _ belA boxA boxA).mono ?_
 rintro e v1 ⟨v,rfl,hc1,hv⟩
 obtain ⟨CG,Xb,Dq,rfl,HV⟩:=hv;replace HV:=zh HV
 have BR:=ah.later (ah.at2 _ _ _ _ _) hc1;have bW:=BR.cell;have bZ:=BR.free;have fu:=BR.lt
 go_wp2_with fail
 refine dO rfl rfl boxA Tryz.underlying112 rfl zk ?_
 exact ⟨_,rfl,belA,aT.aO aH⟩
end Go.Proofs.matrix
namespace Go.Proofs.matrix
open Go Go.RowKit Go.Shelf Go.SW Go.Num Go.Mem Go.Proofs Go.Dec Go.dF
attribute [local go_sem] Oper.semAt_some
theorem Ls:(Tryz.prog.info? 114).map (fun i=>(i.zero,i.size,i.bytes))=some (some (.slice none 0 0),1,24):=by kernel_rfl
theorem Xg:(Tryz.prog.info? 108).map (fun i=>(i.zero,i.size,i.bytes))=some (some (.slice none 0 0),1,24):=by kernel_rfl
abbrev RM:=List (List Rat)
def RM.fr (m:RM):List (List Fr):=m.map fun r=>r.map Fr.of
def dX (r:List Rat):List Int:=r.map (iW (bO r))
def ay9 (w:World) (v:Value) (m:RM):Prop:=∃ va na ca vb nb cb,v= .agg #[.slice va na ca,.slice vb nb cb]∧wZ w (.slice va na ca) (m.map dX)∧vw w (.slice vb nb cb) (m.map bO)
theorem ah.keep {l:List TypeId} {w w':World} {b:Nat} {cs:Array Value} {T:TypeId} (h:ah w b cs T) (k:Keep l w w') (hT:T∉l):ah w' b cs T:=k _ _ _ hT h
theorem wN {w w':World} {base k:Nat} {e:TypeId} {s:Nat} {v:Value} {xs:List Value} (hown:w.ownsRow base e s v k xs) (hg:w.grownBy w' v.ownBlock):KeepsOthers w w' :=
 ⟨hg.size,fun i o hi ho=>by
  rw [hg.block i (Array.getElem?_eq_some_iff.1 hi).1 ?_]
  ·exact hi
  ·intro he
   obtain ⟨-, ⟨rfl, -⟩|⟨g,cap,cur,rfl, -, hgg, -⟩⟩:=hown
   ·cases he
   ·simp only [Value.ownBlock,Option.some.injEq] at he
    subst he
    rw [hi] at hgg
    cases hgg
    cases ho⟩
theorem BP {β γ:Type} {R:γ→β→Prop} (f:List Rat→γ) (m:RM) {n:Nat} (hn:n=m.length) {rs:List β} (h:mK (fun (i:Fin n) r=>R (f (m.getD i.1 [])) r) (upto n (Nat.le_refl _)) rs):mK R (m.map f) rs:=by
 obtain ⟨h1,h2⟩:=h
 rw [mW] at h1
 refine ⟨by rw [h1,hn,List.length_map],fun i hi hi'=>?_⟩
 have hin:i<n:=by rw [List.length_map] at hi;omega
 have:=h2 i (by rw [mW];exact hin) hi'
 have e:((upto n (Nat.le_refl _))[i]'(by rw [mW];exact hin))=⟨i,hin⟩:=by simp [upto]
 rw [e] at this
 have him:i<m.length:=by omega
 simpa [him] using this
def Mj (w:World) (Bt:Nat) (m:RM) (n:Nat) (pre:List (Fin n)) (W:World):Prop :=
 ∃ va na ca vb nb cb rs bs,ah W Bt #[.slice va na ca,.slice vb nb cb] 105∧W.ownsRow w.heap.size 114 1 (.slice va na ca) pre.length rs∧W.ownsRow w.heap.size 108 1 (.slice vb nb cb) pre.length bs ∧
  mK (fun (i:Fin n) r=>bP W r (dX (m.getD i.1 []))) pre rs∧mK (fun (i:Fin n) r=>aK W r (bO (m.getD i.1 []))) pre bs
theorem Mj.kept {w:World} {Bt:Nat} {m:RM} {n:Nat} {pre:List (Fin n)} {W W':World} (h:Mj w Bt m n pre W) (k:Keep [] W W'):Mj w Bt m n pre W':=by
 obtain ⟨va,na,ca,vb,nb,cb,rs,bs,h1,h2,h3,h4,h5⟩:=h
 exact ⟨va,na,ca,vb,nb,cb,rs,bs,k _ _ _ zi h1,gZ h2 k zi,gZ h3 k zi,h4.mono fun _ _ h=>h.kept k zi zi,h5.mono fun _ _ h=>dF.aK.kept h k zi⟩
def Vi (n:Nat) (v:Value):Prop:=∀ pa k c s,v= .agg #[.slice (some pa) k c,s]→n≤pa.block
theorem GH {w:World} {base k n c:Nat} {T:TypeId} {va:Option Addr} {s:Value} {xs:List Value} (h:w.ownsRow base T 1 (.slice va n c) k xs):Vi base (.agg #[.slice va n c,s]):=by
 intro pa k' c' s' e
 simp only [Value.agg.injEq] at e
 have e1:Value.slice va n c= .slice (some pa) k' c':=by
  have:=congrArg (fun a=>a[0]?) e
  simpa using this
 obtain ⟨-, ⟨h2, -⟩|⟨g,cap,cur,h3,h4, -⟩⟩:=h
 ·rw [e1] at h2;cases h2
 ·rw [e1] at h3
  simp only [Value.slice.injEq,Option.some.injEq] at h3
  rw [h3.1]
  exact h4
theorem Fy (v:Value) (m:RM) (w:World) (h:aP w v m.fr) (hm:m.length≤4) (hq:∀ r∈m,r.length≤4∧∀ q∈r,iU q=true) :
  Calls Tryz.prog 62 #[v] w fun e w'=>∃ v,e= .returned v∧Below w.heap.size w w'∧ay9 w' v m∧Vi w.heap.size v:=by
 obtain ⟨ir,ir1,ir2,ir3,ir4⟩:=info_parts Ls
 obtain ⟨im,im1,im2,im3,im4⟩:=info_parts Xg
 obtain ⟨rs,hR,hlen,hF⟩:=h
 have hlm:rs.length=m.length:=hlen.trans (List.length_map _)
 have Ky:Hid (∀ i (h:i<rs.length),gH w 59 rs[i] ((m.getD i []).map Fr.of)∧(m.getD i []).length≤4∧∀ q∈m.getD i [],iU q=true):=zh fun i hi=>by
  have him:i<m.length:=by omega
  have e:m.getD i []=m[i]:=by simp [him]
  rw [e]
  refine ⟨?_,hq _ (List.getElem_mem _)⟩
  have:=hF i hi (by rw [← hlen];exact hi)
  simpa [RM.fr] using this
 have HR:=zh hR
 have HLM:=zh hlm
 have hR2:=hR
 obtain ⟨a,cap,rfl, -⟩:=hR2
 clear hR hF hlen hlm hq
 refine (callsIn_wide (n:=3)).1 ?_
 refine callsIn_of_wp_marks Tryz.func62 rfl trivial ?_ rfl
 simp only [Tryz.ntmps62,List.size_toArray,List.length_cons,List.length_nil,Nat.reduceAdd,Nat.reduceSub,Array.replicate_succ,Array.replicate_zero,List.push_toArray,List.append_toArray,List.nil_append,List.cons_append]
 gi_wp2_with (refine ⟨trivial,?_⟩;gi_at_call 58;refine (tJ Fence.wide 2 trivial rfl _ _ _ _).mono ?_;rintro e w' ⟨rfl,rfl⟩)
 obtain ⟨W0,hW0⟩:∃ W0,((w.alloc (.cells #[.slice none 0 0,.slice none 0 0] 105)).alloc (.cells #[.slice none 0 0,.slice none 0 0] 105)).alloc (.cells #[.slice a rs.length cap] 23)=W0:=⟨_,rfl⟩
 have hB0:Below w.heap.size w W0:=by rw [← hW0];exact belA
 have hbx0:ah W0 w.heap.size #[.slice none 0 0,.slice none 0 0] 105:=by rw [← hW0];exact boxA
 have xD:ah W0 (w.heap.size+1) #[.slice none 0 0,.slice none 0 0] 105:=by rw [← hW0];exact boxA
 have xC:ah W0 (w.heap.size+1+1) #[.slice a rs.length cap] 23:=by rw [← hW0];exact boxA
 rw [hW0]
 refine wpIn_rangeFunc_ownF (α:=Fin rs.length) rfl zo (gf:=115) (lb:=#[.pointer (some ⟨w.heap.size+1+1,0,none⟩)]) rfl trivial (enters_of Tryz.func115 zk rfl)
  (mV Fence.wide 2 trivial rfl zo (w.heap.size+1+1) w.heap.size _ rs w _ xC.lt hB0.size ((xC.cell 0).trans rfl) HR.out (Nat.le_refl _) hB0) belowK_t (belowK_b hB0.size) (Below.refl _ _) (fun _=>rfl)
  (fun pre W=>(Mj w (w.heap.size+1) m rs.length pre W∧ah W w.heap.size #[.slice none 0 0,.slice none 0 0] 105)∧Below w.heap.size w W)
  (fun _ _ _=>False)
  (OwnFrom.and (Own.from (fun s A B row hs hg hr=>⟨hs.1.kept (Keep.others hg hr),dK hs.2 hg hr⟩) _) (ownFrom_below (Nat.le_refl _) hB0.size))
  (fun _ _ _ _ _ hs _ _=>hs)
  ⟨⟨⟨_,_,_,_,_,_,[],[],xD,World.ownsRow_nil _ _ _ _,World.ownsRow_nil _ _ _ _,mK.nil,mK.nil⟩,hbx0⟩,hB0⟩ ?a1 ?assign ?body ?done ?stop
 case assign =>
  intro l x W K hK
  unfold enc
  gi_wp2
  exact hK
 case body =>
  rintro l pre x W ⟨⟨hI,hb0⟩,hB⟩ hpl
  obtain ⟨va,na,ca,vb,nb,cb,xs,bs,hT,ho1,ho2,h4,h5⟩:=hI
  obtain ⟨hfr,hq1,hq2⟩:=Ky.out x.1 x.2
  have hpn:pre.length<4:=by have:=HLM.out;omega
  have hx0:dX (m.getD x.1 [])=(m.getD x.1 []).map (iW (bO (m.getD x.1 []))):=rfl
  obtain ⟨a',cap',hre, -⟩:=hfr.read
  have HCM:=zh (Bz rs[x.1] (m.getD x.1 []) 59 W (hfr.later hB) hq2 zo)
  rw [hre] at HCM
  clear hfr hq1 hq2
  generalize rs[x.1]=rx at *
  subst hre
  unfold Al at HCM
  rw [← hx0] at HCM
  have H4:=zh h4
  have H5:=zh h5
  have Yw:=zh ho1
  have jX:=zh ho2
  clear h4 h5 ho1 ho2 hx0
  have hlr:((m.getD x.1 []).map Fr.of).length=(m.getD x.1 []).length:=List.length_map _
  rw [hlr] at HCM ⊢
  have HX:Hid (∃ r:List Rat,m.getD x.1 []=r):=zh ⟨_,rfl⟩
  obtain ⟨r,hr⟩:=HX.out
  rw [hr] at HCM ⊢
  have HRR:=zh hr
  clear hr HX hlr
  gi_wp2_with (first
   | (refine ⟨trivial,?_⟩;gi_at_call 70;refine (CallsIn.inRound l (callsIn_wide.2 HCM.out)).mono ?_;rintro e w1 ⟨vt,vd,rfl,hc1,hv1,hv2⟩;obtain ⟨at',ct',rfl, -⟩:=hv1.read;obtain ⟨ad,nd,cd,rfl⟩:=hv2.slice;have HV1:=zh hv1;have xq:=zh hv2;clear hv1 hv2;have hT1:=hT.later hc1;have cT:=hT1.cell;have fT:=hT1.free;have lT:=hT1.lt)
   | (gi_at_builtin;refine wpListIn_append_own _ rfl (.tmp 18) (.tmp 20) 102 rfl w.heap.size 114 ir (.slice none 0 0) 1 24 Tryz.underlying102 ir1 ir2 ir3 ir4 rfl zd _ _ _ rfl ((sM Yw.out hc1).alloc _) ⟨w1.heap.size,0,none⟩ 1 1 [.slice at' (dX r).length ct'] rfl rfl (by intro t u ht;match t,ht with|0,ht=>simp at ht;subst ht;simp [Addr.add]) (by intro u hu;simp at hu;subst hu;rfl) (by unfold maxLen;omega) zo (by have:=hB.size;have:=hc1.size;simp;omega) ?_))
  intro v2 w2 hown2 hgrow2 _
  obtain ⟨g2,c2,rfl⟩:=ownsRow_succ hown2
  have k2:Keep [114] w1 w2:=Keep.trans (Keep.of_below belA) (Keep.grown ((sM Yw.out hc1).alloc _) hgrow2)
  have K2:Hid (Keep [114] W w2):=zh (Keep.trans (Keep.of_below hc1) k2)
  have Zg:=k2 _ _ _ zd hT1
  replace cT:=Zg.cell
  replace fT:=Zg.free
  replace lT:=Zg.lt
  have rM:=Zg.rM
  have Xq:Below w.heap.size w w1:=hB.trans (hc1.mono hB.size)
  have hbw2:Below w.heap.size w w2:=(aJ Xq _).grown hgrow2 (by have:=Xq.size;simp;omega) (fun k hk=>(Yw.out.lt k hk).1)
  have ko2:KeepsOthers w1 w2:=(KeepsOthers.alloc _ _).trans (wN ((sM Yw.out hc1).alloc _) hgrow2)
  have aG0:Below w.heap.size W w2:=(Below.alloc (hc1.mono hB.size) Xq.size _).grown hgrow2 (by have:=Xq.size;simp;omega) (fun k hk=>(Yw.out.lt k hk).1)
  have HW2:=zh hown2
  have KV:=zh k2
  have Vf:Hid ((w2.setCell ⟨w.heap.size+1,0,none⟩ (.slice (some ⟨g2,0,none⟩) (pre.length+1) c2)).ownsRow w.heap.size 108 1 (.slice vb nb cb) pre.length bs):=zh (gZ (gZ jX.out K2.out zd) (Keep.setCell rM) zd)
  have aL7:=hbw2.size
  clear hown2 hgrow2 k2 hT1
  gi_wp2_with (gi_at_builtin;refine wpListIn_append_own _ rfl (.tmp 24) (.tmp 26) 103 rfl w.heap.size 108 im (.slice none 0 0) 1 24 Tryz.underlying103 im1 im2 im3 im4 rfl zd _ _ _ rfl (Vf.out.alloc _) ⟨w2.heap.size,0,none⟩ 1 1 [.slice ad nd cd] rfl rfl (by intro t u ht;match t,ht with|0,ht=>(simp at ht;subst ht;exact ((ah.qz (b:=w2.heap.size) zi).cell 0).trans rfl)) (by intro u hu;simp at hu;subst hu;rfl) (by unfold maxLen;omega) zo (by simp;omega) ?_)
  intro v3 w3 hown3 hgrow3 _
  obtain ⟨g3,c3,rfl⟩:=ownsRow_succ hown3
  have k3:Keep [108] (w2.setCell ⟨w.heap.size+1,0,none⟩ (.slice (some ⟨g2,0,none⟩) (pre.length+1) c2)) w3:=Keep.trans (Keep.of_below belA) (Keep.grown (Vf.out.alloc _) hgrow3)
  have hT3:=k3 _ _ _ zd (Zg.set 0 (.slice (some ⟨g2,0,none⟩) (pre.length+1) c2))
  replace cT:=hT3.cell
  replace fT:=hT3.free
  replace lT:=hT3.lt
  have Xc:=hT3.rM
  have aF4:Below w.heap.size w w3:=(aJ (hbw2.setCell zi _) _).grown hgrow3 (by simp;omega) (fun k hk=>(Vf.out.lt k hk).1)
  have ko3:KeepsOthers (w2.setCell ⟨w.heap.size+1,0,none⟩ (.slice (some ⟨g2,0,none⟩) (pre.length+1) c2)) w3:=(KeepsOthers.alloc _ _).trans (wN (Vf.out.alloc _) hgrow3)
  have aF9:Below w.heap.size W w3:=(Below.alloc (aG0.setCell zi _) (by simp;omega) _).grown hgrow3 (by simp;omega) (fun k hk=>(Vf.out.lt k hk).1)
  have HW3:=zh hown3
  have K3:Hid (Keep [108] (w2.setCell ⟨w.heap.size+1,0,none⟩ (.slice (some ⟨g2,0,none⟩) (pre.length+1) c2)) w3):=zh k3
  clear hown3 hgrow3 k3
  gi_wp2
  have aF3:=ah.keep (hb0.later hc1) KV.out zd
  have aF2:=aF3.setOther (.slice (some ⟨g2,0,none⟩) (pre.length+1) c2) (a:=⟨w.heap.size+1,0,none⟩) zi
  have aF1:=ah.keep aF2 K3.out zd
  have hbz:=aF1.setOther (.slice (some ⟨g3,0,none⟩) (pre.length+1) c3) (a:=⟨w.heap.size+1,1,none⟩) zi
  refine ⟨((((dP hc1).trans ko2).trans (KeepsOthers.setCell _ _ _)).trans ko3).trans (KeepsOthers.setCell _ _ _),aF9.setCell zi _,⟨⟨_,_,_,_,_,_,xs++[.slice at' (dX r).length ct'],bs++[.slice ad nd cd],hT3.set 1 _,?_,?_,?_,?_⟩,hbz⟩,aF4.setCell zi _⟩
  ·rw [List.length_append]
   exact gZ (gZ (gZ HW2.out (Keep.setCell rM) zd) K3.out zd) (Keep.setCell Xc) zd
  ·rw [List.length_append]
   exact gZ HW3.out (Keep.setCell Xc) zd
  ·have kk:Keep [114,105,108] w1 (w3.setCell ⟨w.heap.size+1,1,none⟩ (.slice (some ⟨g3,0,none⟩) (pre.length+1) c3)) :=
    (((KV.out.mono zi).trans ((Keep.setCell rM).mono zi)).trans (K3.out.mono zi)).trans ((Keep.setCell Xc).mono zi)
   refine mK.snoc ((H4.out.mono fun _ _ h=>h.later hc1).mono fun _ _ h=>bP.kept h kk zd zd) ?_
   rw [HRR.out]
   exact bP.kept HV1.out kk zd zd
  ·have kk:Keep [114,105,108] w1 (w3.setCell ⟨w.heap.size+1,1,none⟩ (.slice (some ⟨g3,0,none⟩) (pre.length+1) c3)) :=
    (((KV.out.mono zi).trans ((Keep.setCell rM).mono zi)).trans (K3.out.mono zi)).trans ((Keep.setCell Xc).mono zi)
   refine mK.snoc ((H5.out.mono fun _ _ h=>h.later hc1).mono fun _ _ h=>dF.aK.kept h kk zd) ?_
   rw [HRR.out]
   exact dF.aK.kept xq.out kk zd
 case done =>
  rintro D ys W hD rfl ⟨⟨hI,hb0⟩,hB⟩ hK
  obtain ⟨va,na,ca,vb,nb,cb,xs,bs,hT,ho1,ho2,h4,h5⟩:=hI
  have cT:=hT.cell
  have fT:=hT.free
  have c0:=hb0.cell
  have f0:=hb0.free
  have is0:=hb0.rM
  have H4:=zh (BP (R:=fun zs r=>bP W r zs) dX m HLM.out h4)
  have H5:=zh (BP (R:=fun d r=>aK W r d) bO m HLM.out h5)
  have Yw:=zh (Row.dM ho1)
  have jX:=zh (Row.dM ho2)
  have HFT:=zh (GH (s:=.slice vb nb cb) ho1)
  clear h4 h5 ho1 ho2
  gi_wp2
  have hK':=((KeepsOthers.setCell W ⟨w.heap.size,0,none⟩ (.slice va na ca)).trans (KeepsOthers.setCell _ ⟨w.heap.size,1,none⟩ (.slice vb nb cb))).same D _ hK rfl
  refine ⟨by simp,.inl ⟨_,_,rfl,run_takeDeferred hK',?_⟩⟩
  have hk5:Keep [105] W (((W.setCell ⟨w.heap.size,0,none⟩ (.slice va na ca)).setCell ⟨w.heap.size,1,none⟩ (.slice vb nb cb)).putObj D (.deferred none)) :=
   ((Keep.setCell is0).trans (Keep.setCell is0.setCell)).trans ((Keep.others (grownBy_putObj' _ D (.deferred none)) (fun r e=>by cases e;exact ⟨_,hK',rfl⟩)).mono zi)
  have hb3:=dK ((hb0.set 0 (.slice va na ca)).set 1 (.slice vb nb cb)) (grownBy_putObj' _ D (.deferred none)) (fun r e=>by cases e;exact ⟨_,hK',rfl⟩)
  refine ⟨_,results_cell_row rfl _ _ w.heap.size 105 _ (0,0) _ rfl hb3 Tryz.underlying105 rfl zk,⟨_,rfl,?_,⟨_,_,_,_,_,_,rfl,⟨xs,dF.Row.kept Yw.out hk5 zd,H4.out.mono fun _ _ h=>bP.kept h hk5 zd zd⟩,⟨bs,dF.Row.kept jX.out hk5 zd,H5.out.mono fun _ _ h=>dF.aK.kept h hk5 zd⟩⟩,HFT.out⟩⟩
  exact ((hB.setCell zi _).setCell zi _).trans (belowK_b (w:=w) (Nat.le_refl _) _ D _ _ (by have:=hB0.size;omega) hK' rfl rfl)
 case stop =>
  rintro D c pre W _ _ h _
  exact h.elim
theorem qY (v:Value) (m:RM) (w:World) (h:aP w v m.fr) (hm:m.length≤4) (hq:∀ r∈m,r.length≤4∧∀ q∈r,iU q=true) :
  Calls Tryz.prog 62 #[v] w fun e w'=>∃ v,e= .returned v∧Below w.heap.size w w'∧ay9 w' v m :=
 (Fy v m w h hm hq).mono fun _ _ ⟨v,h1,h2,h3,_⟩=>⟨v,h1,h2,h3⟩
attribute [local go_sem] Oper.semAt_some
def kF (w:World) (g:Nat) (T:TypeId) (n:Nat) (D:Nat→Prop) (f:Nat→Fr):Prop :=
 ∃ arr,ah w g arr T∧arr.size=n*2∧∀ i,i<n→D i→arr[i*2]? =some (.string (f i).n)∧arr[i*2+1]? =some (.string (f i).d)
theorem kF.kept {w w':World} {g:Nat} {T:TypeId} {n:Nat} {D:Nat→Prop} {f:Nat→Fr} (h:kF w g T n D f) (k:Keep [] w w'):kF w' g T n D f:=by
 obtain ⟨arr,h1,h2⟩:=h
 exact ⟨arr,k _ _ _ zi h1,h2⟩
theorem kF.cells {w:World} {g:Nat} {T:TypeId} {n j:Nat} {D:Nat→Prop} {f:Nat→Fr} (h:kF w g T n D f) (hj:j<n) :
  (∃ x,w.cell? ⟨g,j*2,none⟩=some x)∧(∃ y,w.cell? ⟨g,j*2+1,none⟩=some y)∧(∀ o,w.frozen? ⟨g,o,none⟩=false)∧g<w.heap.size:=by
 obtain ⟨arr,h1,h2,h3⟩:=h
 refine ⟨⟨arr[j*2]'zo,?_⟩,⟨arr[j*2+1]'zo,?_⟩,h1.free,h1.lt⟩
 ·rw [h1.cell];exact Array.getElem?_eq_getElem _
 ·rw [h1.cell];exact Array.getElem?_eq_getElem _
theorem kF.put {w:World} {g n j:Nat} {T:TypeId} {D D':Nat→Prop} {f:Nat→Fr} {s t:ByteArray} (h:kF w g T n D f) (hj:j<n) (hs:s=(f j).n) (ht:t=(f j).d) (hD:∀ i,D' i→i=j∨D i) :
  kF ((w.setCell ⟨g,j*2,none⟩ (.string s)).setCell ⟨g,j*2+1,none⟩ (.string t)) g T n D' f:=by
 subst hs ht
 obtain ⟨arr,h1,h2,h3⟩:=h
 refine ⟨(arr.setIfInBounds (j*2) (.string (f j).n)).setIfInBounds (j*2+1) (.string (f j).d),(h1.set _ _).set _ _,by simp [h2],fun i hi hd=>?_⟩
 by_cases e:i=j
 ·subst e
  refine ⟨?_,?_⟩
  ·rw [Array.getElem?_setIfInBounds,if_neg zo,Array.getElem?_setIfInBounds,if_pos rfl,if_pos zo]
  ·rw [Array.getElem?_setIfInBounds,if_pos rfl,if_pos (by simp;omega)]
 ·obtain ⟨k1,k2⟩:=h3 i hi ((hD i hd).resolve_left e)
  refine ⟨?_,?_⟩
  ·rw [Array.getElem?_setIfInBounds,if_neg zo,Array.getElem?_setIfInBounds,if_neg zo,k1]
  ·rw [Array.getElem?_setIfInBounds,if_neg zo,Array.getElem?_setIfInBounds,if_neg zo,k2]
theorem kF.start {w:World} {base g n:Nat} {T:TypeId} {z:Array Value} {f:Nat→Fr} (h:w.ownsRow base T 2 (.slice (some ⟨g,0,none⟩) n n) n (madeCells z (n*2)).toList):kF w g T n (fun _=>False) f:=by
 obtain ⟨arr,h1,h2, -⟩:=Fill.start (ok:=vB f) h
 exact ⟨arr,h1,h2,fun i _ h=>h.elim⟩
theorem kF.PW {w:World} {g n:Nat} {T:TypeId} {D:Nat→Prop} {l:List Fr} (h:kF w g T n D (fun i=>l.getD i Fr.no)) (hD:∀ i,i<n→D i) (hn:l.length=n) (hl:n≤1000000):gH w T (.slice (some ⟨g,0,none⟩) n n) l:=by
 obtain ⟨arr,h1,h2,h3⟩:=h
 refine Fill.PW ⟨arr,h1,h2,fun i hi=>?_⟩ hn hl
 obtain ⟨k1,k2⟩:=h3 i hi (hD i hi)
 exact ⟨_,_,k1,k2,rfl,rfl⟩
theorem getD_lt {α:Type} {l:List α} {c:Nat} {d:α} (h:c<l.length):l.getD c d=l[c]:=by simp [h]
def AV (m:List (List Fr)) (c:Nat):List Fr:=m.map fun r=>r.getD c Fr.no
theorem kF.yD {w:World} {g n:Nat} {T:TypeId} {cs:Array Value} {f:Nat→Fr} (h:ah w g cs T) (hs:cs.size=n*2):kF w g T n (fun _=>False) f:=⟨cs,h,hs,fun i _ h=>h.elim⟩
theorem yV (n:Nat) (hn:n≤1000):∃ cs:Array Value,cs.size=n*2∧∀ W:World,(Instr.makeSlice 29 (.int .i64 (n:Int)) (.int .i64 (n:Int))).run Tryz.prog W= .ok (.slice (some ⟨W.heap.size,0,none⟩) n n) (W.alloc (.cells cs 59)):=by
 obtain ⟨i0,hi,hz0,hz1,hz2⟩:=info_parts qE
 refine ⟨madeCells (Value.agg #[.string ⟨#[]⟩,.string ⟨#[]⟩]).cells (n*2),size_madeCells _ _,fun W=>?_⟩
 have:=run_makeSlice (P:=Tryz.prog) W 29 59 i0 (.agg #[.string ⟨#[]⟩,.string ⟨#[]⟩]) Tryz.underlying29 hi hz0 .i64 .i64 (n:Int) (n:Int) zo (Int.le_refl _) (by rw [hz1];simp;omega) (by rw [hz2];omega) zo
 rw [hz1] at this
 simpa using this
theorem yw (bm c:Nat) (v:Value) (m:List (List Fr)) (w:World) (h:aP w v m) (hb:ah w bm #[v] 23) (hm:m.length≤4) (hc:∀ r∈m,c<r.length) :
  Calls Tryz.prog 114 #[.int .i64 (c:Int),.pointer (some ⟨bm,0,none⟩)] w (fun e w'=>∃ v',e= .returned v'∧Below w.heap.size w w'∧gH w' 59 v' (AV m c)):=by
 obtain ⟨i0,hi,hz0,hz1,hz2⟩:=info_parts qE
 obtain ⟨rs,hR,hlen,hF⟩:=h
 obtain ⟨f,Ef⟩:∃ f:Nat→Fr,Hid ((fun i=>(AV m c).getD i Fr.no)=f):=⟨_,zh rfl⟩
 have Ky:Hid (∀ i (h:i<rs.length),gH w 59 rs[i] (m.getD i [])∧c<(m.getD i []).length∧f i=(m.getD i []).getD c Fr.no):=zh fun i hi=>by
  have him:i<m.length:=by omega
  have e:m.getD i []=m[i]:=by simp [him]
  rw [e]
  exact ⟨hF i hi him,hc _ (List.getElem_mem _),by rw [← Ef.out];simp [AV,him]⟩
 have HCL:Hid ((AV m c).length=rs.length):=zh (by rw [hlen];simp [AV])
 have HR:=zh hR
 obtain ⟨a,cap,rfl, -⟩:=hR
 have HLM:Hid (rs.length≤4):=zh zo
 have hl4:rs.length≤4:=by omega
 have cbm:=hb.cell
 have lbm:=hb.lt
 have aO4:bm<w.heap.size+1:=by omega
 have aO3:bm<w.heap.size+1+1:=by omega
 have Vy:=zh hb
 clear hF hlen hc hb
 refine (callsIn_wide (n:=3)).1 ?_
 refine callsIn_of_wp_marks Tryz.func114 rfl trivial ?_ rfl
 simp only [Tryz.ntmps114,List.size_toArray,List.length_cons,List.length_nil,Nat.reduceAdd,Nat.reduceSub,Array.replicate_succ,Array.replicate_zero,List.push_toArray,List.append_toArray,List.nil_append,List.cons_append]
 obtain ⟨cs,hcs,hmk⟩:=yV rs.length zo
 have EH:=zh hcs
 clear hcs
 gi_wp2_with (refine ⟨trivial,?_⟩;gi_at_call 58;refine (tJ Fence.wide 2 trivial rfl _ _ _ _).mono ?_;rintro e w' ⟨rfl,rfl⟩)
 clear hmk
 obtain ⟨W0,hW0⟩:∃ W0,(((w.alloc (.cells #[.int .i64 (c:Int)] 3)).alloc (.cells cs 59)).alloc (.cells #[.slice (some ⟨w.heap.size+1,0,none⟩) rs.length rs.length] 29)).alloc (.cells #[.slice a rs.length cap] 23)=W0:=⟨_,rfl⟩
 have hB0:Below w.heap.size w W0:=by rw [← hW0];exact belA
 have hbx0:ah W0 w.heap.size #[.int .i64 (c:Int)] 3:=by rw [← hW0];exact boxA
 have xD:ah W0 (w.heap.size+1) cs 59:=by rw [← hW0];exact boxA
 have xC:ah W0 (w.heap.size+1+1) #[.slice (some ⟨w.heap.size+1,0,none⟩) rs.length rs.length] 29:=by rw [← hW0];exact boxA
 have Tz:ah W0 (w.heap.size+1+1+1) #[.slice a rs.length cap] 23:=by rw [← hW0];exact ah.at3 _ _ _ _ _ _
 rw [hW0]
 clear hW0 cbm
 refine wpIn_rangeFunc_ownF (α:=Fin rs.length) rfl zo (gf:=115) (lb:=#[.pointer (some ⟨w.heap.size+1+1+1,0,none⟩)]) rfl trivial (enters_of Tryz.func115 zk rfl)
  (mV Fence.wide 2 trivial rfl zo (w.heap.size+1+1+1) w.heap.size _ rs w _ Tz.lt hB0.size ((Tz.cell 0).trans rfl) HR.out (Nat.le_refl _) hB0) belowK_t (belowK_b hB0.size) (Below.refl _ _) (fun _=>rfl)
  (fun pre W=>(kF W (w.heap.size+1) 59 rs.length (fun i=>∃ x∈pre,x.1=i) f∧ah W w.heap.size #[.int .i64 (c:Int)] 3∧ah W (w.heap.size+1+1) #[.slice (some ⟨w.heap.size+1,0,none⟩) rs.length rs.length] 29)∧Below w.heap.size w W)
  (fun _ _ _=>False)
  (OwnFrom.and (Own.from (fun s A B row hs hg hr=>⟨hs.1.kept (Keep.others hg hr),dK hs.2.1 hg hr,dK hs.2.2 hg hr⟩) _) (ownFrom_below (Nat.le_refl _) hB0.size))
  (fun _ _ _ _ _ hs _ _=>hs)
  ⟨⟨?f0,hbx0,xC⟩,hB0⟩ ?a1 ?assign ?body ?done ?stop
 case f0 =>
  obtain ⟨arr,k1,k2,k3⟩:=kF.yD (f:=f) xD EH.out
  exact ⟨arr,k1,k2,fun i hi ⟨x,hx,_⟩=>by cases hx⟩
 case assign =>
  intro l x W K hK
  unfold enc
  gi_wp2
  exact hK
 case body =>
  rintro l pre x W ⟨⟨hF,hb0,hb2⟩,hB⟩ hpl
  obtain ⟨hfr,hcl,av7⟩:=Ky.out x.1 x.2
  obtain ⟨a',cap',hre,aQ9,aQ8,hread⟩:=hfr.read
  obtain ⟨b,off,rfl,lb,hx1,hx2⟩:=hread c hcl
  have PZ:=(hB.cell (p:=⟨b,off+c*2,none⟩) lb).trans hx1
  have PY:=(hB.cell (p:=⟨b,off+c*2+1,none⟩) lb).trans hx2
  have hgd:(m.getD x.1 [])[c]=f x.1:=(av7.trans (getD_lt hcl)).symm
  rw [hgd] at PZ PY
  have c0:=hb0.cell
  have c2:=hb2.cell
  have lbW:=Nat.lt_of_lt_of_le lb hB.size
  have Lx:=x.2
  have HF:=zh hF
  obtain ⟨s1,Py⟩:∃ s:ByteArray,Hid ((f x.1).n=s):=⟨_,zh rfl⟩
  obtain ⟨s2,Px⟩:∃ s:ByteArray,Hid ((f x.1).d=s):=⟨_,zh rfl⟩
  rw [Py.out] at PZ
  rw [Px.out] at PY
  clear hfr av7 hread hx1 hx2 hgd hF
  generalize rs[x.1]=rx at *
  subst hre
  generalize (m.getD x.1 []).length=n' at *
  refine wpIn_block ?_
  refine vD [(.read,0),(.pure,1),(.pure,2),(.read,3),(.pure,4),(.read,5),(.pure,6),(.fin,7)] zk zk zk zR (fun ⟨_,_,h⟩=>h) (fun _ _ _ _ _ h=>h) ?_
  repeat (first|(refine au rfl rfl fun J h=>?_;go_simp;refine h _ ?_;clear h J)|(refine aF rfl rfl rfl rfl fun J h=>?_;go_simp;refine h _ ?_;clear h J;try go_simp))
  refine aN [_] rfl (fun w2 hbd=>?_)
  have hb2':Below W.heap.size W w2:=dL (Below.drew (Below.refl _ _)) hbd
  have hF2:=HF.out.kept (Keep.of_below hb2')
  have HF2:=zh hF2
  obtain ⟨⟨y1,AQ⟩,⟨y2,OB⟩,fy,ly⟩:=hF2.cells Lx
  have aF7:=hb0.later hb2'
  have aF6:=ah.later hb2 hb2'
  clear hF2
  go_wp2_with fail
  refine ⟨((dP hb2').trans (KeepsOthers.setCell _ _ _)).trans (KeepsOthers.setCell _ _ _),((hb2'.mono hB.size).setCell zi _).setCell zi _,⟨HF2.out.put Lx Py.out.symm Px.out.symm ?_,(aF7.setOther _ zi).setOther _ zi,(aF6.setOther _ zi).setOther _ zi⟩,((hB.trans (hb2'.mono hB.size)).setCell zi _).setCell zi _⟩
  rintro i ⟨y,hy,rfl⟩
  rcases List.mem_append.1 hy with h|h
  ·exact .inr ⟨y,h,rfl⟩
  ·rw [List.mem_singleton] at h
   exact .inl (by rw [h])
 case done =>
  rintro D ys W hD rfl ⟨⟨hF,hb0,hb2⟩,hB⟩ hK
  have c2:=hb2.cell
  have HF:=zh hF
  clear hF
  gi_wp2
  refine ⟨by simp,.inl ⟨_,_,rfl,run_takeDeferred hK,?_⟩⟩
  have hF2:=HF.out.kept (Keep.others (grownBy_putObj' _ D (.deferred none)) (fun r e=>by cases e;exact ⟨_,hK,rfl⟩))
  refine ⟨.slice (some ⟨w.heap.size+1,0,none⟩) rs.length rs.length,?_,_,rfl,hB.trans (belowK_b (w:=w) (Nat.le_refl _) W D _ _ (by have:=hB0.size;omega) hK rfl rfl),?_⟩
  ·simp [results,Tryz.f114,go_sem]
  ·rw [← Ef.out] at hF2
   exact hF2.PW (fun i hi=>⟨⟨i,hi⟩,by unfold upto;rw [List.mem_ofFn];exact ⟨⟨i,hi⟩,rfl⟩,rfl⟩) HCL.out (by have:=HLM.out;omega)
 case stop =>
  rintro D c pre W _ _ h _
  exact h.elim
theorem aP.first {w:World} {v:Value} {m:List (List Fr)} (h:aP w v m) (h0:0<m.length) :
  ∃ b off cap a0 cap0,v= .slice (some ⟨b,off,none⟩) m.length cap∧m.length≤cap∧b<w.heap.size∧w.cell? ⟨b,off,none⟩=some (.slice a0 (m.headD []).length cap0):=by
 obtain ⟨rs,hR,hlen,hF⟩:=h
 rcases hR.cases with ⟨rfl,rfl⟩|⟨b,off,cap,arr,rfl,k1,k2,k3,k4⟩
 ·simp at hlen;omega
 ·have h0r:0<rs.length:=by omega
  obtain ⟨a0,cap0,e0, -⟩:=(hF 0 h0r zo).read
  refine ⟨b,off,cap,a0,cap0,by rw [hlen],by omega,k3.lt,?_⟩
  have:=(k3.cell (off+0)).trans (k4 0 h0r)
  rw [e0] at this
  cases m with
  | nil=>simp at h0
  | cons r t=>simpa using this
theorem yU (n:Nat) (hn:n≤1000):∃ cs:Array Value,cs.size=n∧∀ W:World,(Instr.makeSlice 23 (.int .i64 (n:Int)) (.int .i64 (n:Int))).run Tryz.prog W= .ok (.slice (some ⟨W.heap.size,0,none⟩) n n) (W.alloc (.cells cs 29)):=by
 obtain ⟨i0,hi,hz0,hz1,hz2⟩:=info_parts Sy
 refine ⟨madeCells (Value.slice none 0 0).cells n,size_madeCells _ _,fun W=>?_⟩
 have:=run_makeSlice (P:=Tryz.prog) W 23 29 i0 (.slice none 0 0) Tryz.underlying23 hi hz0 .i64 .i64 (n:Int) (n:Int) zo (Int.le_refl _) (by rw [hz1];simp;omega) (by rw [hz2];omega) zo
 rw [hz1] at this
 simpa using this
theorem fK.yD {w:World} {g n:Nat} {cs:Array Value} {f:Nat→List Fr} (h:ah w g cs 29) (hs:cs.size=n):fK w g n 0 f:=⟨cs,h,hs,fun i h=>by omega⟩
def jf (m:List (List Fr)) (n:Nat):List (List Fr):=(List.range n).map (AV m)
theorem rR (v:Value) (m:List (List Fr)) (n:Nat) (w:World) (h:aP w v m) (h1:1≤m.length) (h4:m.length≤4) (n4:n≤4) (hn:∀ r∈m,r.length=n) :
  Calls Tryz.prog 56 #[v] w (fun e w'=>∃ v',e= .returned v'∧Below w.heap.size w w'∧aP w' v' (jf m n)):=by
 obtain ⟨b,off,cap,a0,cap0,rfl,hcap,lb,hc0⟩:=aP.first h zo
 have hhd:(m.headD []).length=n:=by
  cases m with
  | nil=>simp at h1
  | cons r t=>exact hn r zi
 rw [hhd] at hc0
 have HT:=zh (fun bm c w' (hb:Below w.heap.size w w') (hc:c<n) (hx:ah w' bm #[.slice (some ⟨b,off,none⟩) m.length cap] 23)=>yw bm c _ m w' (h.later hb) hx h4 (fun r hr=>by rw [hn r hr];exact hc))
 obtain ⟨cs,hcs,hmk⟩:=yU n zo
 have EH:=zh hcs
 have lb1:b<w.heap.size+1:=by omega
 have hmf:∀ (fn:Fn) (first cap:Array Value) (w:World),(Instr.makeFunc fn first cap).run Tryz.prog w= .ok (.func fn first cap) w:=fun _ _ _ _=>rfl
 have h0m:0<m.length:=by omega
 have HN4:=zh n4
 clear h hn hcs
 go_enter Tryz.func56,Tryz.ntmps56
 go_wp2_with fail
 obtain ⟨W0,hW0⟩:∃ W0,(w.alloc (.cells #[.slice (some ⟨b,off,none⟩) m.length cap] 23)).alloc (.cells cs 29)=W0:=⟨_,rfl⟩
 have hB0:Below w.heap.size w W0:=by rw [← hW0];exact belA
 have HX0:Hid (ah W0 w.heap.size #[.slice (some ⟨b,off,none⟩) m.length cap] 23):=zh (by rw [← hW0];exact boxA)
 have xD:ah W0 (w.heap.size+1) cs 29:=by rw [← hW0];exact boxA
 have HM:=zh (fK.yD (f:=AV m) xD EH.out)
 rw [hW0]
 clear hW0 xD hmk
 go_loopw [14] (fun iv wr=>∃ c:Nat,iv= .int .i64 (c:Int)∧c≤n∧Hid (fK wr (w.heap.size+1) n c (AV m))∧Hid (ah wr w.heap.size #[.slice (some ⟨b,off,none⟩) m.length cap] 23)∧Below w.heap.size w wr) (fun iv _=>n - (intOf iv).toNat)
 case atStart=>exact ⟨0,rfl,by omega,HM,HX0,hB0⟩
 case round =>
  clear HM HX0 hB0
  obtain ⟨c,rfl,hcn,HM,HX,hb⟩:=hrel
  have lM:=HM.out.lt
  rcases Nat.lt_or_ge c n with hlt|hge
  ·have hlt2:(c:Int)<(n:Int):=by omega
   go_wp2_with fail
   refine (HT.out _ c _ hb hlt HX.out).mono ?_
   rintro e w2 ⟨v',rfl,hc2,hfr⟩
   obtain ⟨a',cap',rfl, -⟩:=hfr.read
   have Ky:=zh hfr
   have hM2:=HM.out.later hc2
   obtain ⟨⟨y1,AQ⟩,fy⟩:=hM2.cell hlt
   have Pq:=zh hM2
   have lM2:=hM2.lt
   have isM:=hM2.rM
   have hx2:=HX.out.later hc2
   clear hM2 hfr
   go_wp2_with fail
   go_roundw
   case rel =>
    refine ⟨c+1,by go_num,by omega,zh (Pq.out.step hlt ((fQ.refl w2 _).set c _) (fun arr hA=>hA.set c _) (Ky.out.kept (Keep.setCell isM) zd)),zh (hx2.setOther _ zi),(Bt hb hc2).setCell zi _⟩
   case measure=>exact zM
  ·have hnc:n=c:=by omega
   subst hnc
   have hmv:aP wr (.slice (some ⟨w.heap.size+1,0,none⟩) n n) (jf m n):=by
    have e1:(jf m n).length=n:=by simp [jf]
    have:aP wr (.slice (some ⟨w.heap.size+1,0,none⟩) (jf m n).length (jf m n).length) (jf m n):=by
     refine fK.Jr ?_ (by have:=HN4.out;omega)
     rw [e1]
     obtain ⟨arr,k1,k2,k3⟩:=HM.out
     refine ⟨arr,k1,k2,fun i hi=>?_⟩
     have e2:(jf m n).getD i []=AV m i:=by simp [jf,hi]
     show ∃ v,arr[i]? =some v∧gH wr 59 v ((jf m n).getD i [])
     rw [e2]
     exact k3 i hi
    rw [e1] at this
    exact this
   have HMV:=zh hmv
   clear hmv
   go_wp2_with fail
   go_ret
   exact ⟨_,rfl,hb,HMV.out⟩
end Go.Proofs.matrix
