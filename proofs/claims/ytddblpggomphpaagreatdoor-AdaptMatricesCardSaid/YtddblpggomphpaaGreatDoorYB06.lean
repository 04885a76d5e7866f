/- Lemmas for the proof. No condition. -/
import Derived.Test.YtddblpggomphpaaGreatDoorYB01
import Derived.Test.YtddblpggomphpaaGreatDoorYB02
import Derived.Test.YtddblpggomphpaaGreatDoorYB03
import Derived.Test.YtddblpggomphpaaGreatDoorYB04
import Derived.Test.YtddblpggomphpaaGreatDoorYB05
import Derived.RangeFuncNested
import Derived.RangeFuncBound
import Derived.RangeFuncCalls
import Derived.RangeFuncFrom
set_option linter.unusedVariables false
set_option linter.unusedSimpArgs false
set_option maxRecDepth 100000
set_option maxHeartbeats 16000000
namespace Go.Proofs.matrix
open Go Go.RowKit Go.SW Go.Num Go.Mem Go.Proofs Go.Dec Go.dx
theorem nO (v:Value) (l:List Fr) (T:TypeId) (w:World) (h:jL w T v l) :
  Calls Tryz.prog 77 #[v] w (fun e w'=>e= .returned (.int .i64 (dK l))∧Below w.heap.size w w'):=by
 obtain ⟨a,cap,rfl,hc1,hc2,hread⟩:=h.read
 have H:=zh hread
 clear h hread
 go_enter Tryz.func77,Tryz.ntmps77
 go_wp2_with fail
 go_loopw [7] (fun iv wr=>∃ k:Nat,iv= .int .i64 (k:Int)∧k≤l.length∧Hid (∀ j (h:j<l.length),j<k→(rd l[j]).isSome=true)∧Below w.heap.size w wr) (fun iv _=>l.length - (intOf iv).toNat)
 case atStart=>exact ⟨0,rfl,by omega,zh (fun j _ h=>by omega),Below.refl _ _⟩
 case round =>
  obtain ⟨k,rfl,hk,HK,hb⟩:=hrel
  rcases Nat.lt_or_ge k l.length with hlt|hge
  ·obtain ⟨b,off,rfl,hbl,hx1,hx2⟩:=H.out k hlt
   have hc1:=(hb.cell (p:=⟨b,off+k*2,none⟩) hbl).trans hx1
   have hc2:=(hb.cell (p:=⟨b,off+k*2+1,none⟩) hbl).trans hx2
   clear hx1 hx2
   have hck:=dG.qA l[k]
   generalize hlk:l[k]=lk at *
   obtain ⟨s,t⟩:=lk
   cases hv:(rd ⟨s,t⟩).isSome with
   | true =>
    rw [tJ hv] at hck
    have rO:Hid (∀ w,Calls Tryz.prog 81 #[.agg #[.string s,.string t]] w (fun e w'=>e= .returned (.int .i64 0)∧Below w.heap.size w w')):=zh hck
    have Xe:=zh hlk
    have HV:=zh hv
    clear hck hlk hv
    go_wp2_with fail
    refine (rO.out _).mono ?_
    rintro e v1 ⟨rfl,hc1⟩
    go_wp2_with fail
    go_roundw
    case rel =>
     refine ⟨k+1,by go_num,by omega,zh fun j hj hjk=>?_,Bt hb aA⟩
     rcases Nat.lt_or_ge j k with h|h
     ·exact HK.out j hj h
     ·obtain rfl:j=k:=by omega
      rw [Xe.out]
      exact HV.out
    case measure=>exact zM
   | false =>
    rw [Lm hv] at hck
    have rO:Hid (∀ w,Calls Tryz.prog 81 #[.agg #[.string s,.string t]] w (fun e w'=>e= .returned (.int .i64 20)∧Below w.heap.size w w')):=zh hck
    have hno:dK l=20:=by
     unfold dK
     rw [if_neg]
     intro h
     have:=List.all_eq_true.1 h l[k] (List.getElem_mem _)
     rw [hlk,hv] at this
     cases this
    have Qm:=zh hno
    clear hck hlk hv hno
    go_wp2_with fail
    refine (rO.out _).mono ?_
    rintro e v1 ⟨rfl,hc1⟩
    go_wp2_with fail
    go_ret
    exact ⟨by rw [Qm.out];rfl,Bt hb aA⟩
  ·have hyes:dK l=0:=by
    unfold dK
    rw [if_pos]
    rw [List.all_eq_true]
    intro x hx
    obtain ⟨j,hj,rfl⟩:=List.getElem_of_mem hx
    exact HK.out j hj zo
   have Di:=zh hyes
   clear hyes
   obtain rfl:k=l.length:=by omega
   go_wp2_with fail
   go_ret
   exact ⟨by rw [Di.out];rfl,hb⟩
end Go.Proofs.matrix
namespace Go.Proofs.matrix
open Go Go.RowKit Go.Shelf Go.SW Go.Num Go.Mem Go.Proofs Go.Dec Go.dx
attribute [local go_sem] Oper.semAt_some
theorem dB {W W':World} (h:Below W.heap.size W W'):KeepsOthers W W' :=
 ⟨h.size,fun k o hk _=>(h.block k (Array.getElem?_eq_some_iff.1 hk).1).trans hk⟩
theorem dL {W W':World} {row:Option Nat} {b:Nat} {cs:Array Value} {T:TypeId} (h:au W b cs T) (hg:W.grownBy W' row) (hr:∀ r,row=some r→∃ o:Obj,W.heap[r]? =some o∧o.isCells=false):au W' b cs T:=by
 unfold au at *
 rw [hg.block b (Array.getElem?_eq_some_iff.1 h).1 ?_]
 ·exact h
 ·intro e
  obtain ⟨o,ho,hc⟩:=hr b e.symm
  rw [h] at ho
  cases ho
  cases hc
theorem Lp (b off cap n:Nat) (m:List (List Fr)) (rs:List Value) (a0:Option Addr) (n0 cap0:Nat) (w:World) (hn:rs.length=n) (h1:1≤n) (h4:n≤4) (hm:rs.length=m.length) (hR:Row w 56 (.slice (some ⟨b,off,none⟩) n cap) rs)
  (hc:w.cell? ⟨b,off,none⟩=some (.slice a0 n0 cap0)) (k1:1≤n0) (k4:n0≤4)
  (hF:∀ i (h:i<rs.length) (h':i<m.length),jL w 36 rs[i] m[i]) :
  Calls Tryz.prog 50 #[.slice (some ⟨b,off,none⟩) n cap] w fun e w'=>e= .returned (.int .i64 (if m.all (fun r=>r.length == n0&&dK r == 0) then 0 else 50))∧Below w.heap.size w w':=by
 have lb:b<w.heap.size:=by
  rcases hR.cases with ⟨h,_⟩|⟨b',off',cap',arr,h,_,_,h3,_⟩
  ·cases h
  ·simp only [Value.slice.injEq,Option.some.injEq,Addr.mk.injEq,and_true] at h
   rw [h.1.1];exact h3.lt
 have lb1:b<w.heap.size+1:=by omega
 have q1:decide ((n:Int)<1)=false:=by simp;omega
 have q2:decide ((4:Int)<(n:Int))=false:=by simp;omega
 have q3:decide ((n0:Int)<1)=false:=by simp;omega
 have q4:decide ((4:Int)<(n0:Int))=false:=by simp;omega
 have h0n:0<n:=by omega
 have HR:=zh hR
 have HF:=zh hF
 have HM:=zh hm
 have HN:=zh hn
 clear hR hF hm hn
 obtain ⟨z,Ez⟩:∃ y:Int,Hid ((if m.all (fun r=>r.length == n0&&dK r == 0) then 0 else 50)=y):=⟨_,zh rfl⟩
 rw [Ez.out]
 refine (callsIn_wide (n:=3)).1 ?_
 refine callsIn_of_wp_marks Tryz.func50 rfl trivial ?_ rfl
 simp only [Tryz.ntmps50,List.size_toArray,List.length_cons,List.length_nil,Nat.reduceAdd,Nat.reduceSub,Array.replicate_succ,Array.replicate_zero,List.push_toArray,List.append_toArray,List.nil_append,List.cons_append]
 gi_wp2_with (refine ⟨trivial,?_⟩;gi_at_call 112;refine (Ad Fence.wide 2 trivial rfl _ _ _ _).mono ?_;rintro e w' ⟨rfl,rfl⟩)
 have hB0:Below w.heap.size w (((w.alloc (.cells #[.slice (some ⟨b,off,none⟩) n cap] 44)).alloc (.cells #[.int .i64 0] 45)).alloc (.cells #[.slice (some ⟨b,off,none⟩) n cap] 44)):=aA
 have hbx0:au (((w.alloc (.cells #[.slice (some ⟨b,off,none⟩) n cap] 44)).alloc (.cells #[.int .i64 0] 45)).alloc (.cells #[.slice (some ⟨b,off,none⟩) n cap] 44)) w.heap.size #[.slice (some ⟨b,off,none⟩) n cap] 44:=aJ
 have zw:au (((w.alloc (.cells #[.slice (some ⟨b,off,none⟩) n cap] 44)).alloc (.cells #[.int .i64 0] 45)).alloc (.cells #[.slice (some ⟨b,off,none⟩) n cap] 44)) (w.heap.size+1) #[.int .i64 0] 45:=aJ
 have zu:au (((w.alloc (.cells #[.slice (some ⟨b,off,none⟩) n cap] 44)).alloc (.cells #[.int .i64 0] 45)).alloc (.cells #[.slice (some ⟨b,off,none⟩) n cap] 44)) (w.heap.size+1+1) #[.slice (some ⟨b,off,none⟩) n cap] 44:=aJ
 refine wpIn_rangeFunc_ownF (α:=Fin rs.length) rfl zo (gf:=164) (lb:=#[.pointer (some ⟨w.heap.size+1+1,0,none⟩)]) rfl trivial (enters_of Tryz.func164 zk rfl)
  (su Fence.wide 2 trivial rfl zo (w.heap.size+1+1) w.heap.size _ rs w _ zu.lt hB0.size ((zu.cell 0).trans rfl) HR.out (Nat.le_refl _) hB0) belowK_t (belowK_b hB0.size) (Below.refl _ _) (fun _=>rfl)
  (fun pre W=>(Hid (∀ x∈pre,((m.getD x.1 []).length == n0&&dK (m.getD x.1 []) == 0)=true)∧au W w.heap.size #[.slice (some ⟨b,off,none⟩) n cap] 44∧au W (w.heap.size+1) #[.int .i64 0] 45)∧Below w.heap.size w W)
  (fun c pre W=>(c= .ret∧Hid (∃ x:Fin rs.length,((m.getD x.1 []).length == n0&&dK (m.getD x.1 []) == 0)=false)∧au W (w.heap.size+1) #[.int .i64 50] 45)∧Below w.heap.size w W)
  (OwnFrom.and (Own.from (fun s A B row hs hg hr=>⟨hs.1,dL hs.2.1 hg hr,dL hs.2.2 hg hr⟩) _) (ownFrom_below (Nat.le_refl _) hB0.size))
  (fun c=>OwnFrom.and (Own.from (fun s A B row hs hg hr=>⟨hs.1,hs.2.1,dL hs.2.2 hg hr⟩) _) (ownFrom_below (Nat.le_refl _) hB0.size))
  ⟨⟨zh zi,hbx0,zw⟩,hB0⟩ ?a1 ?assign ?body ?done ?stop
 case assign =>
  intro l x W K hK
  unfold enc
  gi_wp2
  exact hK
 case body =>
  rintro l pre x W ⟨⟨hp,hb0,hb1⟩,hB⟩ _
  have hxm:x.1<m.length:=HM.out ▸ x.2
  have hgd:m.getD x.1 []=m[x.1]:=by simp [hxm]
  have hfr:=HF.out x.1 x.2 hxm
  obtain ⟨a',cap',hre,k5,k6, -⟩:=hfr.read
  have zF:=zh (hfr.later hB)
  have cm:=(hB.cell (p:=⟨b,off,none⟩) lb).trans hc
  have c0:=hb0.cell
  have f1:=hb1.free
  have c1:=hb1.cell
  have e5:∀ y,m.getD x.1 []=y→((y.length == n0&&dK y == 0)=((m.getD x.1 []).length == n0&&dK (m.getD x.1 []) == 0)):=fun y h=>by rw [h]
  have HE5:=zh (e5 _ hgd)
  clear hfr e5 hgd hc
  generalize rs[x.1]=rx at *
  subst hre
  generalize hmx:m[x.1]=mx at *
  have HMX:=zh hmx
  clear hmx
  by_cases hl:mx.length=n0
  ·have b1:((mx.length:Int) != (n0:Int))=false:=by simp [hl]
   have hch:dK mx=0∨dK mx=20:=by unfold dK;split<;>simp
   have HL:=zh hl
   have rO:=zh (fun W h=>nO (.slice a' mx.length cap') mx 36 W h)
   clear hl
   rcases hch with hch|hch
   ·have Uk:=zh hch
    clear hch
    rw [Uk.out] at rO
    gi_wp2_with (refine ⟨trivial,?_⟩;gi_at_call 77;refine (CallsIn.inRound l (callsIn_wide.2 (rO.out _ zF.out))).mono ?_;rintro e w1 ⟨rfl,hc1⟩)
    refine ⟨dB hc1,hc1.mono hB.size,⟨⟨zh fun y hy=>?_,hb0.later hc1,hb1.later hc1⟩,hB.trans (hc1.mono hB.size)⟩⟩
    rcases List.mem_append.1 hy with h|h
    ·exact hp.out y h
    ·rw [List.mem_singleton] at h
     subst h
     rw [← HE5.out,Uk.out,HL.out]
     simp
   ·have Uk:=zh hch
    clear hch
    rw [Uk.out] at rO
    gi_wp2_with (refine ⟨trivial,?_⟩;gi_at_call 77;refine (CallsIn.inRound l (callsIn_wide.2 (rO.out _ zF.out))).mono ?_;rintro e w1 ⟨rfl,hc1⟩;have hb2:=hb1.later hc1;have c2:=hb2.cell;have f2:=hb2.free)
    refine ⟨(dB hc1).trans (KeepsOthers.setCell _ _ _),⟨⟨rfl,zh ⟨x,?_⟩,hb2.set 0 _⟩,(hB.trans (hc1.mono hB.size)).setCell zi _⟩⟩
    rw [← HE5.out,Uk.out,HL.out]
    simp
  ·have b1:((mx.length:Int) != (n0:Int))=true:=by simp;omega
   have HL:=zh hl
   clear hl
   gi_wp2
   refine ⟨trivial,?_⟩
   gi_wp2
   refine ⟨KeepsOthers.setCell _ _ _,⟨⟨rfl,zh ⟨x,?_⟩,hb1.set 0 _⟩,hB.setCell zi _⟩⟩
   rw [← HE5.out]
   have:=HL.out
   simp [this]
 case done =>
  rintro D ys W hD rfl ⟨⟨hp,hb0,hb1⟩,hB⟩ hK
  have c1:=hb1.cell
  have f1:=hb1.free
  have hall:m.all (fun r=>r.length == n0&&dK r == 0)=true:=by
   rw [List.all_eq_true]
   intro r hr
   obtain ⟨i,hi,rfl⟩:=List.getElem_of_mem hr
   have h2:i<rs.length:=by rw [HM.out];exact hi
   have:=hp.out ⟨i,h2⟩ (by unfold upto;rw [List.mem_ofFn];exact ⟨⟨i,h2⟩,rfl⟩)
   simpa [hi] using this
  have hz:z=0:=by rw [← Ez.out,if_pos hall]
  have HZ:=zh hz
  clear hall hz
  gi_wp2
  have hb2:=hb1.set 0 (.int .i64 0)
  have hK':=(KeepsOthers.setCell W ⟨w.heap.size+1,0,none⟩ (.int .i64 0)).same D _ hK rfl
  refine ⟨by simp,.inl ⟨_,_,rfl,run_takeDeferred hK',?_⟩⟩
  have hb3:=dL hb2 (grownBy_putObj' _ D (.deferred none)) (fun r e=>by cases e;exact ⟨_,hK',rfl⟩)
  have kP:=hb3.cell 0
  refine ⟨.int .i64 0,?_,by rw [HZ.out],(hB.setCell (p:=⟨w.heap.size+1,0,none⟩) zi _).trans (belowK_b (w:=w) (Nat.le_refl _) _ D _ _ (by simp at hD;omega) hK' rfl rfl)⟩
  simp [results,Tryz.f50,go_sem,kP]
 case stop =>
  rintro D c pre W hD hpre ⟨⟨rfl,hin,hb1⟩,hB⟩ hK
  have hz:z=50:=by
   rw [← Ez.out,if_neg]
   intro h
   obtain ⟨x,hx⟩:=hin.out
   have hxm:x.1<m.length:=HM.out ▸ x.2
   have h2:=List.all_eq_true.1 h m[x.1] (List.getElem_mem _)
   have hgd:m.getD x.1 []=m[x.1]:=by simp [hxm]
   rw [hgd,h2] at hx
   cases hx
  have HZ:=zh hz
  clear hz
  gi_wp2
  refine ⟨by simp,.inl ⟨_,_,rfl,run_takeDeferred hK,?_⟩⟩
  have hb3:=dL hb1 (grownBy_putObj' _ D (.deferred none)) (fun r e=>by cases e;exact ⟨_,hK,rfl⟩)
  have kP:=hb3.cell 0
  refine ⟨.int .i64 50,?_,by rw [HZ.out],hB.trans (belowK_b (w:=w) (Nat.le_refl _) W D _ _ (by simp at hD;omega) hK rfl rfl)⟩
  simp [results,Tryz.f50,go_sem,kP]
end Go.Proofs.matrix
namespace Go.Proofs.matrix
open Go Go.RowKit Go.SW Go.Num Go.Mem Go.Proofs Go.Dec Go.dx
theorem Jf (a:Option Addr) (n cap:Nat) (w:World) (h:n<1∨4<n) :
  Calls Tryz.prog 50 #[.slice a n cap] w fun e w'=>e= .returned (.int .i64 50)∧Below w.heap.size w w':=by
 rcases h with h|h
 ·have q1:decide ((n:Int)<1)=true:=by simp;omega
  clear h
  go_enter Tryz.func50,Tryz.ntmps50
  go_wp2_with fail
  exact bodyPost_ret (v:=.int .i64 50) (by simp [results,Tryz.results50,go_sem]) rfl ⟨rfl,aA⟩
 ·have q1:decide ((n:Int)<1)=false:=by simp;omega
  have q2:decide ((4:Int)<(n:Int))=true:=by simp;omega
  clear h
  go_enter Tryz.func50,Tryz.ntmps50
  go_wp2_with fail
  exact bodyPost_ret (v:=.int .i64 50) (by simp [results,Tryz.results50,go_sem]) rfl ⟨rfl,aA⟩
theorem Jd (b off cap n:Nat) (a0:Option Addr) (n0 cap0:Nat) (w:World) (h1:1≤n) (h4:n≤4) (lb:b<w.heap.size)
  (hc:w.cell? ⟨b,off,none⟩=some (.slice a0 n0 cap0)) (h:n0<1∨4<n0) :
  Calls Tryz.prog 50 #[.slice (some ⟨b,off,none⟩) n cap] w fun e w'=>e= .returned (.int .i64 50)∧Below w.heap.size w w':=by
 have q1:decide ((n:Int)<1)=false:=by simp;omega
 have q2:decide ((4:Int)<(n:Int))=false:=by simp;omega
 have lb1:b<w.heap.size+1:=by omega
 have h0n:0<n:=by omega
 rcases h with h|h
 ·have q3:decide ((n0:Int)<1)=true:=by simp;omega
  clear h
  go_enter Tryz.func50,Tryz.ntmps50
  go_wp2_with fail
  exact bodyPost_ret (v:=.int .i64 50) (by simp [results,Tryz.results50,go_sem]) rfl ⟨rfl,aA⟩
 ·have q3:decide ((n0:Int)<1)=false:=by simp;omega
  have q4:decide ((4:Int)<(n0:Int))=true:=by simp;omega
  clear h
  go_enter Tryz.func50,Tryz.ntmps50
  go_wp2_with fail
  exact bodyPost_ret (v:=.int .i64 50) (by simp [results,Tryz.results50,go_sem]) rfl ⟨rfl,aA⟩
theorem gW (v:Value) (m:List (List Fr)) (w:World) (h:bQ w v m) :
  Calls Tryz.prog 50 #[v] w fun e w'=>e= .returned (.int .i64 (qz m))∧Below w.heap.size w w':=by
 obtain ⟨rs,hR,hm,hF⟩:=h
 have hR':=hR
 obtain ⟨a,cap,rfl, -⟩:=hR
 by_cases hlen:rs.length<1∨4<rs.length
 ·have e:qz m=50:=by
   unfold qz Fv
   rw [← hm,if_neg]
   intro h
   simp only [Bool.and_eq_true,decide_eq_true_eq] at h
   omega
  rw [e]
  exact Jf _ _ _ w hlen
 ·have h1:1≤rs.length:=by omega
  have h4:rs.length≤4:=by omega
  have h0:0<m.length:=by omega
  rcases hR'.cases with ⟨_,h⟩|⟨b,off,cap',arr,hv,k1,k2,k3,k4⟩
  ·rw [h] at h1;simp at h1
  ·have h0r:0<rs.length:=by omega
   obtain ⟨a0,cap0,e0, -⟩:=(hF 0 h0r h0).read
   have hc:w.cell? ⟨b,off,none⟩=some (.slice a0 m[0].length cap0):=by
    have:=(k3.cell (off+0)).trans (k4 0 h0r)
    rw [e0] at this
    exact this
   have hhd:m.headD []=m[0]:=by cases m with|nil=>simp at h0|cons x t=>rfl
   rw [hv] at hR' ⊢
   by_cases hw:m[0].length<1∨4<m[0].length
   ·have e:qz m=50:=by
     unfold qz Fv
     rw [hhd,if_neg]
     intro h
     simp only [Bool.and_eq_true,decide_eq_true_eq] at h
     omega
    rw [e]
    exact Jd b off cap' _ a0 _ cap0 w h1 h4 k3.lt hc hw
   ·have e:qz m=if m.all (fun r=>r.length == m[0].length&&dK r == 0) then 0 else 50:=by
     unfold qz Fv
     rw [hhd]
     have e1:decide (1≤m.length)=true:=by simp;omega
     have e2:decide (m.length≤4)=true:=by simp;omega
     have e3:decide (1≤m[0].length)=true:=by simp;omega
     have e4:decide (m[0].length≤4)=true:=by simp;omega
     rw [e1,e2,e3,e4]
     simp only [Bool.true_and]
    rw [e]
    exact Lp b off cap' rs.length m rs a0 m[0].length cap0 w rfl h1 h4 hm hR' hc zo zo hF
theorem RU:(Tryz.prog.info? 56).map (fun i=>(i.zero,i.size,i.bytes))=some (some (.slice none 0 0),1,24):=by kernel_rfl
theorem pK:(Tryz.prog.info? 36).map (fun i=>(i.zero,i.size,i.bytes))=some (some (.agg #[.string ⟨#[]⟩,.string ⟨#[]⟩]),2,32):=by kernel_rfl
theorem Dk (vl:Value) (l:List Fr) (T:TypeId) (w:World) (hl:jL w T vl l) (h1:1≤l.length) (h4:l.length≤4) (hc:dK l=0) :
  Calls Tryz.prog 38 #[vl] w (aQ w 0 (oD l)):=by
 obtain ⟨im,im1,im2,im3,im4⟩:=info_parts RU
 obtain ⟨i0,hi,hz0,hz1,hz2⟩:=info_parts pK
 have rO:=zh (fun w' hb=>nO vl l T w' (hl.later hb))
 rw [hc] at rO
 obtain ⟨al,ae7,rfl,Sl,Po,hread⟩:=hl.read
 have LV:Hid (∀ r,r<l.length→∃ b off,al=some ⟨b,off,none⟩∧b<w.heap.size∧w.cell? ⟨b,off+r*2,none⟩=some (.string (l.getD r Fr.no).n)∧w.cell? ⟨b,off+r*2+1,none⟩=some (.string (l.getD r Fr.no).d)):=zh fun r hr=>by
  obtain ⟨b,off,k1,k2,k3,k4⟩:=hread r hr
  have e:l.getD r Fr.no=l[r]:=by simp [hr]
  rw [e]
  exact ⟨b,off,k1,k2,k3,k4⟩
 obtain ⟨n,hn⟩:∃ n,l.length=n:=⟨_,rfl⟩
 have HDR:Hid (∀ r c,c<n→(nM l r).getD c Fr.no=if c=r then l.getD r Fr.no else Fr.zero):=zh fun r c hc=>by
  unfold nM
  simp [hn,hc]
 have BX:Hid (∀ r,(nM l r).length=n):=zh fun r=>by simp [nM,hn]
 have HDM:Hid ((oD l).length=n∧∀ r,r<n→(oD l).getD r []=nM l r):=zh ⟨by simp [oD,hn],fun r hr=>by simp [oD,hn,hr]⟩
 rw [hn] at h1 h4 LV Sl rO ⊢
 have q1:decide ((n:Int)<1)=false:=by simp;omega
 have q2:decide ((4:Int)<(n:Int))=false:=by simp;omega
 clear hl hc hread hn
 go_enter Tryz.func38,Tryz.ntmps38
 go_wp2_with fail
 refine (rO.out _ (Below.refl _ _)).mono ?_
 rintro e v1 ⟨rfl,hc1⟩
 go_wp2_with (at_make;refine wpList_make_full _ rfl _ _ 44 rfl w.heap.size 56 im (.slice none 0 0) 1 Tryz.underlying44 im1 im2 im3 _ _ _ _ n rfl rfl zo zo (by rw [im4];omega) (by unfold maxLen;omega) hc1.size ?_)
 intro w2 hown hgrow
 have hb2:Below w.heap.size w w2:=Bt hc1 ((Below.refl _ _).grown hgrow (Nat.le_refl _) (fun k hk=>by cases hk))
 have HM:=zh (fK.start (f:=nM l) hown)
 obtain ⟨M,EM⟩:∃ y:Nat,Hid (v1.heap.size=y):=⟨_,zh rfl⟩
 rw [EM.out] at HM ⊢
 have hMw:w.heap.size≤M:=by rw [← EM.out];exact hc1.size
 clear hown hgrow hc1 EM
 go_wp2_with fail
 go_loopw [26] (fun iv wr=>∃ r:Nat,iv= .int .i64 (r:Int)∧r≤n∧Hid (fK wr M n r (nM l))∧Below w.heap.size w wr) (fun iv _=>n - (intOf iv).toNat)
 case atStart=>exact ⟨0,rfl,by omega,HM,hb2⟩
 case round =>
  clear HM hb2
  obtain ⟨r,rfl,hr,HM,hb⟩:=hrel
  rcases Nat.lt_or_ge r n with hlt|hge
  ·obtain ⟨wo,hwo⟩:∃ y,y=wr:=⟨_,rfl⟩
   subst hwo
   have hlt2:(r:Int)<(n:Int):=by omega
   have lM:=HM.out.lt
   go_wp2_with (at_make;refine wpList_make_full _ rfl _ _ 56 rfl wo.heap.size 36 i0 (.agg #[.string ⟨#[]⟩,.string ⟨#[]⟩]) 2 Tryz.underlying56 hi hz0 hz1 _ _ _ _ n rfl rfl zo zo (by rw [hz2];omega) (by unfold maxLen;omega) (Nat.le_refl _) ?_)
   intro w3 hown hgrow
   have hb3:Below wo.heap.size wo w3:=(Below.refl _ _).grown hgrow (Nat.le_refl _) (fun k hk=>by cases hk)
   have HF:=zh (Fill.start (ok:=xM (fun c=>(nM l r).getD c Fr.no)) hown)
   obtain ⟨G,EG⟩:∃ y:Nat,Hid (wo.heap.size=y):=⟨_,zh rfl⟩
   rw [EG.out] at HF ⊢
   have hGw:wo.heap.size≤G:=by rw [EG.out];exact Nat.le_refl _
   have Xd:=HM.out.later hb3
   obtain ⟨⟨y1,GD⟩,fy⟩:=Xd.cell hlt
   have lM3:=Xd.lt
   have isM:=Xd.uL
   obtain ⟨qD,bM,hsz, -⟩:=Xd
   have hrs:r<qD.size:=by omega
   have Qc:=zh bM
   have lG:=HF.out.lt
   clear hown hgrow
   have hGM:G≠M:=by omega
   have Pt:M≠G:=by omega
   have hN3:gL wo (w3.setCell ⟨M,r,none⟩ (.slice (some ⟨G,0,none⟩) n n)) M:=((gL.refl wo M).below hb3).set _ _
   have HF4:=zh (((HF.out.BF (f':=fun _=>Fr.zero) (fun i hi=>by omega)).other (a:=⟨M,r,none⟩) (.slice (some ⟨G,0,none⟩) n n) hGM))
   have Yr:=zh (bM.set r (.slice (some ⟨G,0,none⟩) n n))
   go_wp2_with fail
   clear GD fy lM3 isM lG HF hGw
   go_loopw [37] (fun iv wi=>∃ c:Nat,iv= .int .i64 (c:Int)∧c≤n∧Hid (Fill wi G 36 n c (xM fun _=>Fr.zero))∧Hid (au wi M (qD.setIfInBounds r (.slice (some ⟨G,0,none⟩) n n)) 56)∧Hid (gL wo wi M)) (fun iv _=>n - (intOf iv).toNat)
   case atStart=>exact ⟨0,rfl,by omega,HF4,Yr,zh hN3⟩
   case round =>
    clear HF4 Yr hN3 bM
    obtain ⟨c,rfl,hcn,HF,HB,HN⟩:=hrel
    have cM:=HB.out.cell r
    rw [Array.getElem?_setIfInBounds,if_pos rfl,if_pos hrs] at cM
    have lMi:=HB.out.lt
    have lGi:=HF.out.lt
    rcases Nat.lt_or_ge c n with hcl|hcl
    ·obtain ⟨⟨z1,cz1⟩,⟨z2,cz2⟩,fz⟩:=HF.out.cells hcl
     have Po:(c:Int)<(n:Int):=by omega
     go_wp2_with fail
     go_roundw
     case rel=>exact ⟨c+1,by go_num,by omega,zh (HF.out.step hcl (fun _ _ _ h=>h) ⟨rfl,rfl⟩),zh ((HB.out.setOther _ Pt).setOther _ Pt),zh ((HN.out.gI (by rw [EG.out];exact Nat.le_refl _) _ _).gI (by rw [EG.out];exact Nat.le_refl _) _ _)⟩
     case measure=>exact zM
    ·obtain rfl:c=n:=by omega
     obtain ⟨b,off,rfl,lb,cl1,cl2⟩:=LV.out r hlt
     have hbi:Below w.heap.size w wr:=HN.out.toBelow hb hMw
     have ci1:=(hbi.cell (p:=⟨b,off+r*2,none⟩) lb).trans cl1
     have ci2:=(hbi.cell (p:=⟨b,off+r*2+1,none⟩) lb).trans cl2
     clear cl1 cl2
     go_wp2_with fail
     refine aC [(.pure,0),(.pure,1),(.pure,2),(.read,3),(.pure,4),(.pure,5),(.pure,6),(.pure,7),(.read,8),(.pure,9),(.fin,10)] zk zk zR zP ?_
     repeat (first|(refine ah rfl rfl fun J h=>?_;go_simp;refine h _ ?_;clear h J)|(refine aB rfl rfl rfl rfl fun J h=>?_;go_simp;refine h _ ?_;clear h J;try go_simp))
     refine aI [_] rfl (fun w9 gX=>?_)
     have aa9:Below wr.heap.size wr w9:=aA
     replace HF:=zh (HF.out.yc aa9)
     replace HB:=zh (HB.out.later aa9)
     replace HN:=zh (HN.out.below aa9)
     obtain ⟨⟨z1,cz1⟩,⟨z2,cz2⟩,fz⟩:=HF.out.cells hlt
     go_wp2_with fail
     go_roundw
     case rel =>
      have hN2:=(HN.out.gI (P:=G) (by rw [EG.out];exact Nat.le_refl _) (r*2) (.string (l.getD r Fr.no).n)).gI (P:=G) (by rw [EG.out];exact Nat.le_refl _) (r*2+1) (.string (l.getD r Fr.no).d)
      refine ⟨r+1,by go_num,by omega,zh (HM.out.step (v:=.slice (some ⟨G,0,none⟩) c c) hlt hN2 (fun arr hA=>?_) ?_),hN2.toBelow hb hMw⟩
      ·have hAM:arr=qD:=dx.au.uniq (hA.later hb3) Qc.out
       rw [hAM]
       exact (HB.out.setOther _ Pt).setOther _ Pt
      ·refine Fill.C8 ((HF.out.put hlt).BF fun i hi=>?_) (BX.out r) zo
       exact (HDR.out r i hi).symm
     case measure=>exact zM
  ·obtain rfl:r=n:=by omega
   have hmv:bQ wr (.slice (some ⟨M,0,none⟩) r r) (oD l):=by
    obtain ⟨e1,e2⟩:=HDM.out
    have hM:=HM.out
    have:bQ wr (.slice (some ⟨M,0,none⟩) (oD l).length (oD l).length) (oD l):=by
     refine fK.Cy ?_ zo
     rw [e1]
     obtain ⟨arr,k1,k2,k3⟩:=hM
     refine ⟨arr,k1,k2,fun i hi=>?_⟩
     show ∃ v,arr[i]? =some v∧jL wr 36 v ((oD l).getD i [])
     rw [e2 i hi]
     exact k3 i hi
    rw [e1] at this
    exact this
   have vT:=zh hmv
   clear hmv
   go_wp2_with fail
   go_ret2
   exact aQ.yes hb vT.out
theorem Gv (a:Option Addr) (n cap:Nat) (m:List (List Fr)) (w:World) (h:n<1∨4<n) :
  Calls Tryz.prog 38 #[.slice a n cap] w (aQ w 2 m):=by
 rcases h with h|h
 ·have q1:decide ((n:Int)<1)=true:=by simp;omega
  clear h
  go_enter Tryz.func38,Tryz.ntmps38
  go_wp2_with fail
  go_ret2
  exact aQ.no aA zd
 ·have q1:decide ((n:Int)<1)=false:=by simp;omega
  have q2:decide ((4:Int)<(n:Int))=true:=by simp;omega
  clear h
  go_enter Tryz.func38,Tryz.ntmps38
  go_wp2_with fail
  go_ret2
  exact aQ.no aA zd
theorem Gw (vl:Value) (l:List Fr) (m:List (List Fr)) (T:TypeId) (w:World) (hl:jL w T vl l) (h1:1≤l.length) (h4:l.length≤4) (hc:dK l=20) :
  Calls Tryz.prog 38 #[vl] w (aQ w 20 m):=by
 have rO:=zh (fun w' hb=>nO vl l T w' (hl.later hb))
 rw [hc] at rO
 obtain ⟨al,ae7,rfl, -⟩:=hl.read
 obtain ⟨n,hn⟩:∃ n,l.length=n:=⟨_,rfl⟩
 rw [hn] at h1 h4 rO ⊢
 have q1:decide ((n:Int)<1)=false:=by simp;omega
 have q2:decide ((4:Int)<(n:Int))=false:=by simp;omega
 clear hl hc hn
 go_enter Tryz.func38,Tryz.ntmps38
 go_wp2_with fail
 refine (rO.out _ (Below.refl _ _)).mono ?_
 rintro e v1 ⟨rfl,hc1⟩
 go_wp2_with fail
 go_ret2
 exact aQ.no hc1 zd
theorem tX (vl:Value) (l:List Fr) (T:TypeId) (w:World) (hl:jL w T vl l) :
  Calls Tryz.prog 38 #[vl] w (aQ w (Tp l) (oD l)):=by
 unfold Tp
 by_cases h:l.length<1∨4<l.length
 ·rw [if_pos h]
  obtain ⟨al,ae7,rfl, -⟩:=hl.read
  exact Gv _ _ _ _ w h
 ·rw [if_neg h]
  have hc:dK l=0∨dK l=20:=by unfold dK;split<;>simp
  rcases hc with hc|hc
  ·rw [hc]
   exact Dk vl l T w hl zo zo hc
  ·rw [hc]
   exact Gw vl l _ T w hl zo zo hc
end Go.Proofs.matrix
namespace Go.Proofs.matrix
open Go Go.RowKit Go.SW Go.Num Go.Mem Go.Proofs Go.Dec
theorem dV (m:Value) (n:Nat) (b:Bool) (w:World) (h:aM w m n) :
  Calls Tryz.prog 69 #[m,.bool b] w (fun e w'=>∃ v,e= .returned v∧Below w.heap.size w w'∧aX w' v (jg n b)):=ah2
theorem fA (z:Int) (hz:(Lib.decDigits z.natAbs).length≤600) (w:World) :
  Calls Tryz.prog 140 #[sO z] w (fun e w'=>∃ v,e= .returned v∧Below w.heap.size w w'∧aX w' v z):=ah1
theorem oO (v:Value) (z:Int) (w:World) (h:aX w v z) :
  Calls Tryz.prog 72 #[v] w (fun e w'=>∃ v,e= .returned v∧Below w.heap.size w w'∧aX w' v (-z)):=ah0
theorem lg (v u:Value) (z:Int) (n:Nat) (w:World) (h:aX w v z) (hu:aM w u n) (hz:sz 1000000000 z.natAbs≤549755813888) (hn:sz 1000000000 n≤549755813888) :
  Calls Tryz.prog 62 #[v,u] w (fun e w'=>∃ v,e= .returned v∧Below w.heap.size w w'∧aX w' v (z*n)):=ag9
theorem GX (pa pb:Option Addr) (l m ca cb:Nat) (z y:Int) (b:Bool) (w:World) (h:aM w (.slice pa l ca) z.natAbs) (h2:aM w (.slice pb m cb) y.natAbs) (hz:decide (z<0)=b) (hy:decide (y<0)=b) (kz:sz 1000000000 z.natAbs≤549755813888) (ky:sz 1000000000 y.natAbs≤549755813888) :
  Calls Tryz.prog 132 #[.agg #[.slice pa l ca,.bool b],.agg #[.slice pb m cb,.bool b]] w (fun e w'=>∃ v,e= .returned v∧Below w.heap.size w w'∧aX w' v (z+y)):=ag8
theorem GY (pa pb:Option Addr) (l m ca cb:Nat) (z y:Int) (b:Bool) (w:World) (h:aM w (.slice pa l ca) z.natAbs) (h2:aM w (.slice pb m cb) y.natAbs) (hz:decide (z<0)=b) (hy:decide (y<0)= !b) (kz:sz 1000000000 z.natAbs≤549755813888) (ky:sz 1000000000 y.natAbs≤549755813888) :
  Calls Tryz.prog 132 #[.agg #[.slice pa l ca,.bool b],.agg #[.slice pb m cb,.bool !b]] w (fun e w'=>∃ v,e= .returned v∧Below w.heap.size w w'∧aX w' v (z+y)):=ag7
theorem vC (v u:Value) (z y:Int) (w:World) (h:aX w v z) (h2:aX w u y) (kz:sz 1000000000 z.natAbs≤549755813888) (ky:sz 1000000000 y.natAbs≤549755813888) :
  Calls Tryz.prog 132 #[v,u] w (fun e w'=>∃ v,e= .returned v∧Below w.heap.size w w'∧aX w' v (z+y)):=ag6
theorem EK (v:Value) (z:Int) (w:World) (h:aX w v z) (kz:sz 1000000000 z.natAbs≤1099511627776) (ht:pE.Pow w) :
  Calls Tryz.prog 124 #[v] w (fun e w'=>e= .returned (sO z)∧Below w.heap.size w w'):=ag5
theorem og (v u:Value) (z y:Int) (w:World) (h:aX w v z) (h2:aX w u y) (kz:sz 1000000000 z.natAbs≤549755813888) (ky:sz 1000000000 y.natAbs≤549755813888) :
  Calls Tryz.prog 130 #[v,u] w (fun e w'=>∃ v,e= .returned v∧Below w.heap.size w w'∧aX w' v (z*y)):=by
 obtain ⟨Ib,lH,Jk,rfl,H⟩:=h;replace H:=zh H
 obtain ⟨aC4,lH2,aH8,rfl,H2⟩:=h2;replace H2:=zh H2
 have KZ:=zh kz
 have KY:=zh ky
 clear kz ky
 go_enter Tryz.func130,Tryz.ntmps130
 go_wp2_with fail
 refine aC [(.pure,0),(.read,1),(.pure,2),(.read,3),(.pure,5),(.read,6),(.pure,7),(.read,8),(.pure,9),(.ext,4),(.ext,10),(.fin,11)] zk zk zR zP ?_
 repeat (first|(refine ah rfl rfl fun J h=>?_;go_simp;refine h _ ?_;clear h J)|(refine aB rfl rfl rfl rfl fun J h=>?_;go_simp;refine h _ ?_;clear h J;try go_simp))
 refine aD rfl rfl (fun w1 hb1 J hJ=>?_);go_simp
 have BR:=au.later (au.drew (au.at2 _ _ _ _ _)) hb1;have bq:=BR.cell;have bg:=BR.free
 refine (jl _ _ z.natAbs y.natAbs _ aG aG (Nat.le_trans KZ.out zo) (Nat.le_trans KY.out zo)).mono ?_
 rintro e v1 ⟨v,rfl,hc1,hv⟩
 obtain ⟨Vh,lHS,WB,rfl⟩:=hv.slice;have HS:=zh hv;clear hv
 replace BR:=au.later (BR) hc1;replace bq:=BR.cell;replace bg:=BR.free
 refine hJ _ _ hc1 ?_
 clear hJ J
 refine aD rfl rfl (fun w2 hb2 J hJ=>?_);go_simp
 replace BR:=au.later (BR) hb2;replace bq:=BR.cell;replace bg:=BR.free
 refine (dV _ (z.natAbs*y.natAbs) _ _ aG).mono ?_
 rintro e v2 ⟨v,rfl,hc2,hv⟩
 obtain ⟨Vg,lHT,WA,rfl,HT⟩:=hv;replace HT:=zh HT
 replace BR:=au.later (BR) hc2;replace bq:=BR.cell;replace bg:=BR.free
 refine hJ _ _ hc2 ?_
 clear hJ J
 refine aI [_] rfl (fun w5 hb5=>?_)
 replace BR:=au.later (BR) hb5;replace bq:=BR.cell;replace bg:=BR.free
 go_wp2_with fail
 refine bO rfl rfl aJ Tryz.underlying99 rfl zk ?_
 exact ⟨_,rfl,aA,(aX.aV aG).cast (Ar z y)⟩
end Go.Proofs.matrix
namespace Go.Proofs.matrix
open Go Go.RowKit Go.SW Go.Num Go.Mem Go.Proofs Go.Dec Go.dx
theorem Ii (x y:Value) (a b:Nat) (w:World) (hx:aM w x a) (hy:aM w y b) (ha:0<a) (ka:sz 1000000000 a≤549755813888) (kb:sz 1000000000 b≤549755813888) :
  Calls Tryz.prog 139 #[x,y] w (fun e w'=>∃ v,e= .returned v∧Below w.heap.size w w'∧aM w' v (a*(b / a.gcd b))):=by
 obtain ⟨Ib,lH,Jk,rfl⟩:=hx.slice;have H:=zh hx;clear hx
 obtain ⟨JH,lG,JL,rfl⟩:=hy.slice;have G:=zh hy;clear hy
 have hg:0<a.gcd b:=Nat.gcd_pos_of_pos_left _ ha
 have kc:= @fO b (a.gcd b)
 obtain ⟨g,Eg⟩:∃ y:Nat,Hid (a.gcd b=y):=⟨_,zh rfl⟩
 rw [Eg.out] at hg kc ⊢
 obtain ⟨c,Ec⟩:∃ y:Nat,Hid (b / g=y):=⟨_,zh rfl⟩
 rw [Ec.out] at kc ⊢
 obtain ⟨d,Ed⟩:∃ y:Nat,Hid (a*c=y):=⟨_,zh rfl⟩
 rw [Ed.out]
 have HG:=zh hg
 have KC:=zh (Nat.le_trans kc kb)
 have KA:=zh ka
 have KB:=zh kb
 clear hg ha kc ka kb
 go_enter Tryz.func139,Tryz.ntmps139
 go_wp2_with fail
 refine ((mW _ _ a b _ aG aG KA.out KB.out).mono (by rw [Eg.out];exact fun _ _ h=>h)).mono ?_
 rintro e v1 ⟨v,rfl,hc1,hv⟩
 obtain ⟨Q8,lHg,TJ,rfl⟩:=hv.slice;have Hg:=zh hv;clear hv
 replace H:=zh (aM.carry H.out aG hc1)
 replace G:=zh (aM.carry G.out aG hc1)
 go_wp2_with fail
 refine ((dw _ _ b g _ aG aG HG.out KB.out).mono (by rw [Ec.out];exact fun _ _ h=>h)).mono ?_
 rintro e v2 ⟨v,vr,rfl,hc2,hv,jh⟩
 obtain ⟨aC0,lHc,aH4,rfl⟩:=hv.slice;have Hc:=zh hv;clear hv;obtain ⟨an0,aC5,aw8,rfl⟩:=jh.slice;have Hcr:=zh jh;clear jh
 replace H:=zh (aM.later H.out hc2)
 replace G:=zh (aM.later G.out hc2)
 replace Hg:=zh (aM.later Hg.out hc2)
 go_wp2_with fail
 refine ((jl _ _ a c _ aG aG (Nat.le_trans KA.out zo) (Nat.le_trans KC.out zo)).mono (by rw [Ed.out];exact fun _ _ h=>h)).mono ?_
 rintro e v3 ⟨v,rfl,hc3,hv⟩
 obtain ⟨aB9,lHd,aH3,rfl⟩:=hv.slice;have Hd:=zh hv;clear hv
 replace H:=zh (aM.later H.out hc3)
 go_wp2_with fail
 go_ret
 exact ⟨_,rfl,aA,Hd.out⟩
theorem jO (x y:Value) (n d:Int) (w:World) (hx:aX w x n) (hy:aX w y d) (hd:d≠0) (kn:sz 1000000000 n.natAbs≤549755813888) (kd:sz 1000000000 d.natAbs≤549755813888) (ht:pE.Pow w) :
  Calls Tryz.prog 61 #[x,y] w (fun e w'=>e= .returned (Fr.res (wr ((n:Rat) / (d:Rat))))∧Below w.heap.size w w'):=by
 obtain ⟨Ib,lH,Jk,rfl,H⟩:=hx;replace H:=zh H
 obtain ⟨JH,lG,JL,rfl,G⟩:=hy;replace G:=zh G
 have hdp:0<d.natAbs:=by omega
 rw [← MU n d hd]
 have hp:=wG (jg n.natAbs (!(decide (n<0) == decide (d<0)))) hdp
 rw [jr] at hp
 have hg:0<n.natAbs.gcd d.natAbs:=Nat.gcd_pos_of_pos_right _ hdp
 have kt:= @fO n.natAbs (n.natAbs.gcd d.natAbs)
 have kb:= @fO d.natAbs (n.natAbs.gcd d.natAbs)
 obtain ⟨q,Eq⟩:∃ y:Rat,Hid (mkRat (jg n.natAbs (Bool.not (decide (n<0) == decide (d<0)))) d.natAbs=y):=⟨_,zh rfl⟩
 rw [show mkRat (jg n.natAbs (!(decide (n<0) == decide (d<0)))) d.natAbs=q from Eq.out] at hp ⊢
 obtain ⟨g,Eg⟩:∃ y:Nat,Hid (n.natAbs.gcd d.natAbs=y):=⟨_,zh rfl⟩
 rw [Eg.out] at hg kt kb hp
 obtain ⟨t,Et⟩:∃ y:Nat,Hid (n.natAbs / g=y):=⟨_,zh rfl⟩
 rw [Et.out] at kt hp
 obtain ⟨b,Eb⟩:∃ y:Nat,Hid (d.natAbs / g=y):=⟨_,zh rfl⟩
 rw [Eb.out] at kb hp
 have Iw:q.num.natAbs=t:=by rw [hp.1,jr]
 have hden:q.den=b:=hp.2
 have VK:q.num=jg t (!(decide (n<0) == decide (d<0))):=by
  rw [hp.1]
  unfold jg
  by_cases h0:t=0
  ·simp [h0]
  ·have hn0:n.natAbs≠0:=fun e=>h0 (by rw [← Et.out,e];simp)
   by_cases h1:n<0<;>by_cases h2:d<0<;>simp [h1,h2]<;>omega
 have HG:=zh hg
 have KT:=zh (Nat.le_trans kt kn)
 have KB:=zh (Nat.le_trans kb kd)
 have KN:=zh kn
 have KD:=zh kd
 have HT:=zh ht
 clear hg kt kb kn kd ht hp hd hdp
 rcases Nat.lt_or_ge 600 (Lib.decDigits t).length with h1|h1
 ·rw [rZ (by unfold dz;rw [Iw,Fq h1];rfl)]
  clear Iw hden VK
  go_enter Tryz.func61,Tryz.ntmps61
  go_wp2_with fail
  refine ((mW _ _ n.natAbs d.natAbs _ aG aG KN.out KD.out).mono (by rw [Eg.out];exact fun _ _ h=>h)).mono ?_
  rintro e v1 ⟨v,rfl,hc1,hv⟩
  obtain ⟨Q8,lHg,TJ,rfl⟩:=hv.slice;have Hg:=zh hv;clear hv
  replace H:=zh (aM.carry H.out aG hc1)
  replace G:=zh (aM.carry G.out aG hc1)
  have BR:=au.later (au.at2 _ _ _ _ _) hc1;have bq:=BR.cell;have bg:=BR.free;have fI:=BR.lt
  have B1:=au.later (au.alloc (au.fZ _ _ _ _) _) hc1;have cB1:=B1.cell;have mh:=B1.free;have lB1:=B1.lt
  have B0:=au.later (au.alloc (au.alloc (au.new _ _ _) _) _) hc1;have cB0:=B0.cell;have jZ:=B0.free;have lB0:=B0.lt
  go_wp2_with fail
  refine ((dw _ _ n.natAbs g _ aG aG HG.out KN.out).mono (by rw [Et.out];exact fun _ _ h=>h)).mono ?_
  rintro e v2 ⟨v,vr,rfl,hc2,hv,jh⟩
  obtain ⟨YT,lHt,ae9,rfl⟩:=hv.slice;have Ht:=zh hv;clear hv;obtain ⟨Xu,an6,Yd,rfl⟩:=jh.slice;have Htr:=zh jh;clear jh
  replace H:=zh (aM.later H.out hc2)
  replace G:=zh (aM.later G.out hc2)
  replace Hg:=zh (aM.later Hg.out hc2)
  replace BR:=au.later (BR) hc2;replace bq:=BR.cell;replace bg:=BR.free;replace fI:=BR.lt
  replace B1:=au.later (B1) hc2;replace cB1:=B1.cell;replace mh:=B1.free;replace lB1:=B1.lt
  replace B0:=au.later (B0) hc2;replace cB0:=B0.cell;replace jZ:=B0.free;replace lB0:=B0.lt
  go_wp2_with fail
  refine ((dw _ _ d.natAbs g _ aG aG HG.out KD.out).mono (by rw [Eb.out];exact fun _ _ h=>h)).mono ?_
  rintro e v3 ⟨v,vr,rfl,hc3,hv,jh⟩
  obtain ⟨YU,lHb,af0,rfl⟩:=hv.slice;have Hb:=zh hv;clear hv;obtain ⟨Rb,Zk,TK,rfl⟩:=jh.slice;have Hbr:=zh jh;clear jh
  replace Ht:=zh (aM.later Ht.out hc3)
  replace BR:=au.later (BR) hc3;replace bq:=BR.cell;replace bg:=BR.free;replace fI:=BR.lt
  replace B1:=au.later (B1) hc3;replace cB1:=B1.cell;replace mh:=B1.free;replace lB1:=B1.lt
  replace B0:=au.later (B0) hc3;replace cB0:=B0.cell;replace jZ:=B0.free;replace lB0:=B0.lt
  go_wp2_with fail
  refine (iL _ t _ aG (Nat.le_trans KT.out zo) (HT.out.later aA)).mono ?_
  rintro e v4 ⟨rfl,hc4⟩
  replace BR:=au.later (BR) hc4;replace bq:=BR.cell;replace bg:=BR.free;replace fI:=BR.lt
  go_wp2_with fail
  refine aP rfl rfl aJ Tryz.underlying36 rfl zk ?_
  exact ⟨rfl,aA⟩
 ·rcases Nat.lt_or_ge 600 (Lib.decDigits b).length with h2|h2
  ·rw [rZ (by unfold dz;rw [hden,Fq h2,Bool.and_false])]
   clear Iw hden VK
   go_enter Tryz.func61,Tryz.ntmps61
   go_wp2_with fail
   refine ((mW _ _ n.natAbs d.natAbs _ aG aG KN.out KD.out).mono (by rw [Eg.out];exact fun _ _ h=>h)).mono ?_
   rintro e v1 ⟨v,rfl,hc1,hv⟩
   obtain ⟨Q8,lHg,TJ,rfl⟩:=hv.slice;have Hg:=zh hv;clear hv
   replace H:=zh (aM.carry H.out aG hc1)
   replace G:=zh (aM.carry G.out aG hc1)
   have BR:=au.later (au.at2 _ _ _ _ _) hc1;have bq:=BR.cell;have bg:=BR.free;have fI:=BR.lt
   have B1:=au.later (au.alloc (au.fZ _ _ _ _) _) hc1;have cB1:=B1.cell;have mh:=B1.free;have lB1:=B1.lt
   have B0:=au.later (au.alloc (au.alloc (au.new _ _ _) _) _) hc1;have cB0:=B0.cell;have jZ:=B0.free;have lB0:=B0.lt
   go_wp2_with fail
   refine ((dw _ _ n.natAbs g _ aG aG HG.out KN.out).mono (by rw [Et.out];exact fun _ _ h=>h)).mono ?_
   rintro e v2 ⟨v,vr,rfl,hc2,hv,jh⟩
   obtain ⟨YT,lHt,ae9,rfl⟩:=hv.slice;have Ht:=zh hv;clear hv;obtain ⟨Xu,an6,Yd,rfl⟩:=jh.slice;have Htr:=zh jh;clear jh
   replace H:=zh (aM.later H.out hc2)
   replace G:=zh (aM.later G.out hc2)
   replace Hg:=zh (aM.later Hg.out hc2)
   replace BR:=au.later (BR) hc2;replace bq:=BR.cell;replace bg:=BR.free;replace fI:=BR.lt
   replace B1:=au.later (B1) hc2;replace cB1:=B1.cell;replace mh:=B1.free;replace lB1:=B1.lt
   replace B0:=au.later (B0) hc2;replace cB0:=B0.cell;replace jZ:=B0.free;replace lB0:=B0.lt
   go_wp2_with fail
   refine ((dw _ _ d.natAbs g _ aG aG HG.out KD.out).mono (by rw [Eb.out];exact fun _ _ h=>h)).mono ?_
   rintro e v3 ⟨v,vr,rfl,hc3,hv,jh⟩
   obtain ⟨YU,lHb,af0,rfl⟩:=hv.slice;have Hb:=zh hv;clear hv;obtain ⟨Rb,Zk,TK,rfl⟩:=jh.slice;have Hbr:=zh jh;clear jh
   replace Ht:=zh (aM.later Ht.out hc3)
   replace BR:=au.later (BR) hc3;replace bq:=BR.cell;replace bg:=BR.free;replace fI:=BR.lt
   replace B1:=au.later (B1) hc3;replace cB1:=B1.cell;replace mh:=B1.free;replace lB1:=B1.lt
   replace B0:=au.later (B0) hc3;replace cB0:=B0.cell;replace jZ:=B0.free;replace lB0:=B0.lt
   go_wp2_with fail
   refine (iL _ t _ aG (Nat.le_trans KT.out zo) (HT.out.later aA)).mono ?_
   rintro e v4 ⟨rfl,hc4⟩
   replace Ht:=zh (aM.later Ht.out hc4)
   replace Hb:=zh (aM.later Hb.out hc4)
   replace BR:=au.later (BR) hc4;replace bq:=BR.cell;replace bg:=BR.free;replace fI:=BR.lt
   go_wp2_with fail
   refine (iL _ b _ aG (Nat.le_trans KB.out zo) (HT.out.later aA)).mono ?_
   rintro e v5 ⟨rfl,kP⟩
   replace BR:=au.later (BR) kP;replace bq:=BR.cell;replace bg:=BR.free;replace fI:=BR.lt
   go_wp2_with fail
   refine aP rfl rfl aJ Tryz.underlying36 rfl zk ?_
   exact ⟨rfl,aA⟩
  ·rw [Xn (by unfold dz;rw [Iw,hden,eX.2 h1,eX.2 h2];rfl),VK,hden]
   obtain ⟨s,Es⟩:∃ y:Int,Hid (jg t (Bool.not (decide (n<0) == decide (d<0)))=y):=⟨_,zh rfl⟩
   rw [show jg t (!(decide (n<0) == decide (d<0)))=s from Es.out]
   have KS:Hid (sz 1000000000 s.natAbs≤549755813888):=by unfold Hid;rw [← Es.out,jr];exact KT.out
   clear Iw hden VK
   go_enter Tryz.func61,Tryz.ntmps61
   go_wp2_with fail
   refine ((mW _ _ n.natAbs d.natAbs _ aG aG KN.out KD.out).mono (by rw [Eg.out];exact fun _ _ h=>h)).mono ?_
   rintro e v1 ⟨v,rfl,hc1,hv⟩
   obtain ⟨Q8,lHg,TJ,rfl⟩:=hv.slice;have Hg:=zh hv;clear hv
   replace H:=zh (aM.carry H.out aG hc1)
   replace G:=zh (aM.carry G.out aG hc1)
   have BR:=au.later (au.at2 _ _ _ _ _) hc1;have bq:=BR.cell;have bg:=BR.free;have fI:=BR.lt
   have B1:=au.later (au.alloc (au.fZ _ _ _ _) _) hc1;have cB1:=B1.cell;have mh:=B1.free;have lB1:=B1.lt
   have B0:=au.later (au.alloc (au.alloc (au.new _ _ _) _) _) hc1;have cB0:=B0.cell;have jZ:=B0.free;have lB0:=B0.lt
   go_wp2_with fail
   refine ((dw _ _ n.natAbs g _ aG aG HG.out KN.out).mono (by rw [Et.out];exact fun _ _ h=>h)).mono ?_
   rintro e v2 ⟨v,vr,rfl,hc2,hv,jh⟩
   obtain ⟨YT,lHt,ae9,rfl⟩:=hv.slice;have Ht:=zh hv;clear hv;obtain ⟨Xu,an6,Yd,rfl⟩:=jh.slice;have Htr:=zh jh;clear jh
   replace H:=zh (aM.later H.out hc2)
   replace G:=zh (aM.later G.out hc2)
   replace Hg:=zh (aM.later Hg.out hc2)
   replace BR:=au.later (BR) hc2;replace bq:=BR.cell;replace bg:=BR.free;replace fI:=BR.lt
   replace B1:=au.later (B1) hc2;replace cB1:=B1.cell;replace mh:=B1.free;replace lB1:=B1.lt
   replace B0:=au.later (B0) hc2;replace cB0:=B0.cell;replace jZ:=B0.free;replace lB0:=B0.lt
   go_wp2_with fail
   refine ((dw _ _ d.natAbs g _ aG aG HG.out KD.out).mono (by rw [Eb.out];exact fun _ _ h=>h)).mono ?_
   rintro e v3 ⟨v,vr,rfl,hc3,hv,jh⟩
   obtain ⟨YU,lHb,af0,rfl⟩:=hv.slice;have Hb:=zh hv;clear hv;obtain ⟨Rb,Zk,TK,rfl⟩:=jh.slice;have Hbr:=zh jh;clear jh
   replace Ht:=zh (aM.later Ht.out hc3)
   replace BR:=au.later (BR) hc3;replace bq:=BR.cell;replace bg:=BR.free;replace fI:=BR.lt
   replace B1:=au.later (B1) hc3;replace cB1:=B1.cell;replace mh:=B1.free;replace lB1:=B1.lt
   replace B0:=au.later (B0) hc3;replace cB0:=B0.cell;replace jZ:=B0.free;replace lB0:=B0.lt
   go_wp2_with fail
   refine (iL _ t _ aG (Nat.le_trans KT.out zo) (HT.out.later aA)).mono ?_
   rintro e v4 ⟨rfl,hc4⟩
   replace Ht:=zh (aM.later Ht.out hc4)
   replace Hb:=zh (aM.later Hb.out hc4)
   replace BR:=au.later (BR) hc4;replace bq:=BR.cell;replace bg:=BR.free;replace fI:=BR.lt
   replace B1:=au.later (B1) hc4;replace cB1:=B1.cell;replace mh:=B1.free;replace lB1:=B1.lt
   replace B0:=au.later (B0) hc4;replace cB0:=B0.cell;replace jZ:=B0.free;replace lB0:=B0.lt
   go_wp2_with fail
   refine (iL _ b _ aG (Nat.le_trans KB.out zo) (HT.out.later aA)).mono ?_
   rintro e v5 ⟨rfl,kP⟩
   replace Ht:=zh (aM.later Ht.out kP)
   replace Hb:=zh (aM.later Hb.out kP)
   replace BR:=au.later (BR) kP;replace bq:=BR.cell;replace bg:=BR.free;replace fI:=BR.lt
   replace B1:=au.later (B1) kP;replace cB1:=B1.cell;replace mh:=B1.free;replace lB1:=B1.lt
   replace B0:=au.later (B0) kP;replace cB0:=B0.cell;replace jZ:=B0.free;replace lB0:=B0.lt
   go_wp2_with fail
   refine ((dV _ t _ _ aG).mono (by rw [show jg t (!(decide (n<0) == decide (d<0)))=s from Es.out];exact fun _ _ h=>h)).mono ?_
   rintro e v6 ⟨v,rfl,hc6,hv⟩
   obtain ⟨OH,lHs,PK,rfl,Hs⟩:=hv;replace Hs:=zh Hs
   replace Hb:=zh (aM.later Hb.out hc6)
   replace BR:=au.later (BR) hc6;replace bq:=BR.cell;replace bg:=BR.free;replace fI:=BR.lt
   go_wp2_with fail
   refine ((EK _ s _ (aX.aV aG) (Nat.le_trans KS.out zo) (HT.out.later aA)).mono (fun _ _ h=>by unfold sO at h;exact h)).mono ?_
   rintro e v7 ⟨rfl,Ci⟩
   replace Hb:=zh (aM.later Hb.out Ci)
   replace BR:=au.later (BR) Ci;replace bq:=BR.cell;replace bg:=BR.free;replace fI:=BR.lt
   go_wp2_with fail
   refine (qx _ b _ aG (Nat.le_trans KB.out zo) (HT.out.later aA)).mono ?_
   rintro e v8 ⟨rfl,hc8⟩
   replace BR:=au.later (BR) hc8;replace bq:=BR.cell;replace bg:=BR.free;replace fI:=BR.lt
   go_wp2_with fail
   refine aP rfl rfl aJ Tryz.underlying36 rfl zk ?_
   exact ⟨rfl,aA⟩
theorem oQ:(Tryz.prog.info? 99).map (fun i=>(i.zero,i.size,i.bytes))=some (some (.agg #[.slice none 0 0,.bool false]),2,32):=by kernel_rfl
theorem Py (pa:Option Addr) (l ca:Nat) (b:Bool) (w:World):(Instr.field 99 (.agg #[.slice pa l ca,.bool b]) 0).run Tryz.prog w= .ok (.slice pa l ca) w:=by kernel_rfl
def Ce (w:World) (qs:List Rat) (e:Ending) (w':World):Prop:=∃ vt vb,e= .returned (.tuple #[vt,vb])∧Below w.heap.size w w'∧bZ w' vt (qs.map (jN (cB qs)))∧aM w' vb (cB qs)
theorem DW (v:Value) (qs:List Rat) (T:TypeId) (w:World) (h:jL w T v (qs.map Fr.of)) (hq:∀ q∈qs,dz q=true) (hl:qs.length≤1000) :
  Calls Tryz.prog 78 #[v] w (Ce w qs):=by
 obtain ⟨i0,hi,hz0,hz1,hz2⟩:=info_parts oQ
 obtain ⟨a,cap,rfl,hc1,hc2,hread⟩:=h.read
 have hln:(qs.map Fr.of).length=qs.length:=List.length_map _
 have RY:∀ k (h:k<qs.length),∃ b off,a=some ⟨b,off,none⟩∧b<w.heap.size∧w.cell? ⟨b,off+k*2,none⟩=some (.string ⟨(Lib.itoa qs[k].num).toArray⟩)∧w.cell? ⟨b,off+k*2+1,none⟩=some (.string ⟨(Lib.itoa (qs[k].den:Int)).toArray⟩):=fun k hk=>by
  obtain ⟨b,off,e1,e2,e3,e4⟩:=hread k zo
  simp only [List.getElem_map] at e3 e4
  exact ⟨b,off,e1,e2,e3,e4⟩
 rw [hln] at hc1 ⊢
 have LV:=zh RY
 have hlen:∀ k (h:k<qs.length),(Lib.decDigits qs[k].num.natAbs).length≤600∧(Lib.decDigits ((qs[k].den:Nat):Int).natAbs).length≤600:=fun k h=>by
  have hq1:=hq _ (List.getElem_mem h)
  unfold dz at hq1
  rw [Bool.and_eq_true,eX,eX] at hq1
  exact ⟨hq1.1,(Int.natAbs_natCast qs[k].den).symm ▸ hq1.2⟩
 have HLEN:=zh hlen
 have HSZ:Hid (∀ k,k≤qs.length→sz 1000000000 (cB (qs.take k))≤549755813888):=zh fun k hk=>by
  have:=rz (qs.take k) (fun q h=>hq q (List.mem_of_mem_take h))
  rw [List.length_take] at this
  omega
 have ax9:Hid (∀ k,0<cB (qs.take k)):=zh fun k=>(jD _).1
 have ag1:Hid (∀ k (h:k<qs.length),sz 1000000000 qs[k].den≤549755813888∧sz 1000000000 qs[k].num.natAbs≤549755813888):=zh fun k h=>by
  have:=gy (hq _ (List.getElem_mem h))
  exact ⟨Nat.le_trans this.2 zo,Nat.le_trans this.1 zo⟩
 have HDP:Hid (∀ k (h:k<qs.length),0<qs[k].den):=zh fun k h=>qs[k].den_pos
 clear hread RY hlen hq h hln
 have hfd:=Py
 go_enter Tryz.func78,Tryz.ntmps78
 go_wp2_with fail
 go_loopw [13,3] (fun iv bv wr=>∃ k:Nat,iv= .int .i64 (k:Int)∧k≤qs.length∧Hid (aM wr bv (cB (qs.take k)))∧Below w.heap.size w wr) (fun iv _ _=>qs.length - (intOf iv).toNat)
 case atStart=>exact ⟨0,rfl,by omega,zh (show aM _ _ 1 from aM.lit (d:=1) zo zo),aA⟩
 case round =>
  obtain ⟨k,rfl,hk,HB,hb⟩:=hrel
  have hbm:=HB.out
  obtain ⟨pb,lb,cb,rfl⟩:=hbm.slice
  clear hbm
  rcases Nat.lt_or_ge k qs.length with hlt|hge
  ·obtain ⟨b,off,rfl,hbl,hx1,hx2⟩:=LV.out k hlt
   have cx1:=(hb.cell (p:=⟨b,off+k*2,none⟩) hbl).trans hx1
   have cx2:=(hb.cell (p:=⟨b,off+k*2+1,none⟩) hbl).trans hx2
   have HL2:=zh (HLEN.out k hlt).2
   have HS:=zh (HSZ.out k zo)
   have HP:=zh (ax9.out k)
   have HD:=zh (ag1.out k hlt).1
   have HT:=zh (PI hlt)
   clear hx1 hx2
   generalize cB (qs.take k)=ck at *
   generalize qs[k]=q at *
   go_wp2_with fail
   refine (fA (q.den:Int) HL2.out _).mono ?_
   rintro e v1 ⟨v,rfl,hc1,hv⟩
   obtain ⟨Kh,Zm,Ls,rfl,HN⟩:=hv;replace HN:=zh HN
   rw [Int.natAbs_natCast] at HN
   replace HB:=zh (aM.carry HB.out aG hc1)
   go_wp2_with fail
   refine ((Ii _ _ ck q.den _ aG aG HP.out HS.out HD.out).mono (by rw [← HT.out];exact fun _ _ h=>h)).mono ?_
   rintro e v2 ⟨v,rfl,hc2,hv⟩
   obtain ⟨OI,lHM,PN,rfl⟩:=hv.slice;have HM:=zh hv;clear hv
   go_wp2_with fail
   go_roundw
   case rel=>exact ⟨k+1,by go_num,by omega,HM,Bt hb aA⟩
   case measure=>exact zM
  ·obtain rfl:k=qs.length:=by omega
   rw [List.take_length] at HB
   have Gr:=zh (jD qs).2
   have HP:=zh (ax9.out qs.length)
   have HS:=zh (HSZ.out qs.length (Nat.le_refl _))
   rw [List.take_length] at HP HS
   have HX:Hid (∀ (k:Nat) (h:k<qs.length),jN (cB qs) qs[k]=(qs.map (jN (cB qs))).getD k 0):=zh fun k h=>by simp [h]
   have HXL:Hid ((qs.map (jN (cB qs))).length=qs.length):=zh (List.length_map _)
   obtain ⟨xs,EXS⟩:∃ y:List Int,Hid (qs.map (jN (cB qs))=y):=⟨_,zh rfl⟩
   obtain ⟨D,Yq⟩:∃ y:Nat,Hid (cB qs=y):=⟨_,zh rfl⟩
   rw [EXS.out] at HX HXL
   rw [Yq.out] at HX HB Gr HP HS
   go_wp2_with (at_make;refine wpList_make_full _ rfl _ _ 103 rfl w.heap.size 99 i0 (.agg #[.slice none 0 0,.bool false]) 2 Tryz.underlying103 hi hz0 hz1 _ _ _ _ qs.length rfl rfl zo zo (by rw [hz2];omega) (by unfold maxLen;omega) hb.size ?_)
   intro w1 hown hgrow
   have hbg:Below wr.heap.size wr w1:=(Below.refl _ _).grown hgrow (Nat.le_refl _) (fun k hk=>by cases hk)
   have HF:=zh (Fill.start (ok:=iA (fun i=>xs.getD i 0)) hown)
   replace HB:=zh (HB.out.later hbg)
   have hb1:Below w.heap.size w w1:=Bt hb hbg
   have hgb:w.heap.size≤wr.heap.size:=hb.size
   generalize wr.heap.size=G at *
   clear hown hgrow hbg hb
   go_wp2_with fail
   go_loopw [29] (fun iv wr2=>∃ k:Nat,iv= .int .i64 (k:Int)∧k≤qs.length∧Hid (Fill wr2 G 99 qs.length k (iA (fun i=>xs.getD i 0)))∧Hid (aM wr2 (.slice pb lb cb) D)∧Below w.heap.size w wr2) (fun iv _=>qs.length - (intOf iv).toNat)
   case atStart=>exact ⟨0,rfl,by omega,HF,HB,hb1⟩
   case round =>
    obtain ⟨k,rfl,hk,HF,HB,hb⟩:=hrel
    rcases Nat.lt_or_ge k qs.length with hlt|hge
    ·obtain ⟨b,off,rfl,hbl,hx1,hx2⟩:=LV.out k hlt
     have cx1:=(hb.cell (p:=⟨b,off+k*2,none⟩) hbl).trans hx1
     have cx2:=(hb.cell (p:=⟨b,off+k*2+1,none⟩) hbl).trans hx2
     have UN:=zh (HLEN.out k hlt).1
     have HL2:=zh (HLEN.out k hlt).2
     have HD1:=zh (ag1.out k hlt).1
     have HD2:=zh (ag1.out k hlt).2
     have HQ:=zh (HDP.out k hlt)
     have Ua:=zh (HX.out k hlt)
     have lG:=HF.out.lt
     clear hx1 hx2
     generalize qs[k]=q at *
     have hks:= @fO D q.den
     have HKS:=zh (Nat.le_trans hks HS.out)
     clear hks
     obtain ⟨c,Ec⟩:∃ y:Nat,Hid (D / q.den=y):=⟨_,zh rfl⟩
     have LU:Hid (q.num*(c:Int)=xs.getD k 0):=zh (by rw [← Ua.out,← Ec.out];rfl)
     rw [Ec.out] at HKS
     go_wp2_with fail
     refine (fA (q.den:Int) HL2.out _).mono ?_
     rintro e v1 ⟨v,rfl,hc1,hv⟩
     obtain ⟨Kh,Zm,Ls,rfl,HN⟩:=hv;replace HN:=zh HN
     rw [Int.natAbs_natCast] at HN
     replace HB:=zh (aM.carry HB.out aG hc1)
     have hbx:=au.later (au.new _ _ _) hc1
     have cbx:=hbx.cell
     have lbx:=hbx.lt
     replace HF:=zh (HF.out.later (Bt aA hc1) (iA.later (Bt aA hc1)))
     go_wp2_with fail
     refine ((dw _ _ D q.den _ aG aG HQ.out HS.out).mono (by rw [Ec.out];exact fun _ _ h=>h)).mono ?_
     rintro e v2 ⟨v,vr,rfl,hc2,hv,jh⟩
     obtain ⟨aC3,lHC,aH7,rfl⟩:=hv.slice;have HC:=zh hv;clear hv
     obtain ⟨aJ7,aT1,aL5,rfl⟩:=jh.slice;have HCr:=zh jh;clear jh
     clear HCr
     replace HB:=zh (HB.out.later hc2)
     replace hbx:=hbx.later hc2
     replace cbx:=hbx.cell
     replace lbx:=hbx.lt
     replace HF:=zh (HF.out.later hc2 (iA.later hc2))
     go_wp2_with fail
     refine (fA q.num UN.out _).mono ?_
     rintro e v3 ⟨v,rfl,hc3,hv⟩
     obtain ⟨OI,lHM,PN,rfl,HM⟩:=hv;replace HM:=zh HM
     replace HB:=zh (HB.out.later hc3)
     replace HC:=zh (HC.out.later hc3)
     replace HF:=zh (HF.out.later hc3 (iA.later hc3))
     go_wp2_with fail
     refine ((lg _ _ q.num c _ (aX.aV aG) aG HD2.out HKS.out).mono (by rw [LU.out];exact fun _ _ h=>h)).mono ?_
     rintro e v4 ⟨v,rfl,hc4,hv⟩
     obtain ⟨Fp,Vy,Ga,rfl,HV⟩:=hv;replace HV:=zh HV
     replace HB:=zh (HB.out.later hc4)
     replace HF:=zh (HF.out.later hc4 (iA.later hc4))
     obtain ⟨⟨y1,GD⟩,⟨y2,Ya⟩,fy⟩:=HF.out.cells hlt
     go_wp2_with fail
     have MX:=HF.out.uL
     go_roundw
     case rel =>
      exact ⟨k+1,by go_num,by omega,zh (HF.out.step hlt (fun i x y h=>iA.kZ MX.setCell zd _ _ _ (iA.kZ MX zd _ _ _ h)) ⟨_,_,_,rfl,rfl,(HV.out.kZ MX zd).kZ MX.setCell zd⟩),
       zh ((HB.out.kZ MX zd).kZ MX.setCell zd),(by have hG:wr.heap.size≥0:=Nat.zero_le _;exact ((Bt (Bt (Bt (Bt (bL hb _) hc1) hc2) hc3) hc4).setCell hgb _).setCell hgb _)⟩
     case measure=>exact zM
    ·obtain rfl:k=qs.length:=by omega
     have hxl:=HXL.out
     have hfin:bZ wr (.slice (some ⟨G,0,none⟩) qs.length qs.length) xs:=by
      have:=HF.out
      rw [← hxl] at this ⊢
      exact bZ.um this zo
     have ag0:=zh hfin
     clear hfin hxl
     go_wp2_with fail
     go_ret2
     exact ⟨_,_,rfl,hb,by rw [EXS.out];exact ag0.out,by rw [Yq.out];exact HB.out⟩
def xH (w:World) (z:Int) (e:Ending) (w':World):Prop:=∃ v,e= .returned (.tuple #[v,.int .i64 0])∧Below w.heap.size w w'∧aX w' v z
theorem Wp (bx by':Nat) (vx vy:Value) (xs ys:List Int) (i:Nat) (w:World) (hx:bZ w vx xs) (hy:bZ w vy ys) (hbx:au w bx #[vx] 103) (hby:au w by' #[vy] 103)
  (h1:i<xs.length) (h2:i<ys.length) (k1:sz 1000000000 (xs.getD i 0).natAbs≤549755813888) (k2:sz 1000000000 (ys.getD i 0).natAbs≤549755813888) :
  Calls Tryz.prog 129 #[.int .i64 (i:Int),.pointer (some ⟨bx,0,none⟩),.pointer (some ⟨by',0,none⟩)] w (xH w (xs.getD i 0*ys.getD i 0)):=by
 obtain ⟨a,cap,rfl,hc1,hc2,hread⟩:=hx.read
 obtain ⟨a',cap',rfl,hc1',hc2',FN⟩:=hy.read
 obtain ⟨b,off,pa,n,ca,rfl,hbl,cx1,cx2,hm⟩:=hread i h1
 obtain ⟨b',off',pa',n',ca',rfl,sS,GD,Ya,hm'⟩:=FN i h2
 have H:=zh hm
 have H':=zh hm'
 have cbx:=hbx.cell
 have cby:=hby.cell
 have lx:=hbx.lt
 have ly:=hby.lt
 generalize xs.getD i 0=x at *
 generalize ys.getD i 0=u at *
 have K1:=zh k1
 have K2:=zh k2
 obtain ⟨z,Ez⟩:∃ y:Int,Hid (x*u=y):=⟨_,zh rfl⟩
 rw [Ez.out]
 clear hm hm' hread FN hx hy k1 k2 hbx hby
 go_enter Tryz.func129,Tryz.ntmps129
 go_wp2_with fail
 refine aC [(.read,0),(.pure,1),(.pure,2),(.read,3),(.read,4),(.pure,5),(.pure,6),(.read,7),(.ext,8),(.fin,9),(.fin,10)] zk zk zR zP ?_
 repeat (first|(refine ah rfl rfl fun J h=>?_;go_simp;refine h _ ?_;clear h J)|(refine aB rfl rfl rfl rfl fun J h=>?_;go_simp;refine h _ ?_;clear h J;try go_simp))
 refine aD rfl rfl (fun w1 hb1 J hJ=>?_);go_simp
 have BR:=au.later (au.drew (au.new _ _ _)) hb1;have bq:=BR.cell;have bg:=BR.free;have fI:=BR.lt
 refine ((og _ _ x u _ (aX.aV aG) (aX.aV aG) K1.out K2.out).mono (by rw [Ez.out];exact fun _ _ h=>h)).mono ?_
 rintro e v1 ⟨v,rfl,hc1,hv⟩
 obtain ⟨Fp,Vy,Ga,rfl,HV⟩:=hv;replace HV:=zh HV
 replace BR:=au.later (BR) hc1;replace bq:=BR.cell;replace bg:=BR.free;replace fI:=BR.lt
 refine hJ _ _ hc1 ?_
 clear hJ J
 refine aI [_,_] rfl (fun w5 hb5=>?_)
 replace BR:=au.later (BR) hb5;replace bq:=BR.cell;replace bg:=BR.free;replace fI:=BR.lt
 go_wp2_with fail
 refine aP rfl rfl aJ Tryz.underlying99 rfl zk ?_
 exact ⟨_,rfl,aA,aX.aV aG⟩
theorem Wo (vx vy:Value) (x y:Int) (w:World) (hx:aX w vx x) (hy:aX w vy y) (k1:sz 1000000000 x.natAbs≤549755813888) (k2:sz 1000000000 y.natAbs≤549755813888) :
  Calls Tryz.prog 131 #[vx,vy] w (xH w (x+y)):=by
 obtain ⟨Ib,lH,Jk,rfl,H⟩:=hx;replace H:=zh H
 obtain ⟨JH,lG,JL,rfl,G⟩:=hy;replace G:=zh G
 have K1:=zh k1
 have K2:=zh k2
 obtain ⟨z,Ez⟩:∃ z:Int,Hid (x+y=z):=⟨_,zh rfl⟩
 rw [Ez.out]
 clear k1 k2
 go_enter Tryz.func131,Tryz.ntmps131
 go_wp2_with fail
 refine ((vC _ _ x y _ (aX.aV aG) (aX.aV aG) K1.out K2.out).mono (by rw [Ez.out];exact fun _ _ h=>h)).mono ?_
 rintro e v1 ⟨v,rfl,hc1,hv⟩
 obtain ⟨Fp,Vy,Ga,rfl,HV⟩:=hv;replace HV:=zh HV
 have BR:=au.later (au.at2 _ _ _ _ _) hc1;have bq:=BR.cell;have bg:=BR.free;have fI:=BR.lt
 go_wp2_with fail
 refine aP rfl rfl aJ Tryz.underlying99 rfl zk ?_
 exact ⟨_,rfl,aA,aX.aV aG⟩
def qW (f:Nat→Int):Nat→Int
 | 0=>0
 | k+1=>qW f k+f k
theorem oM (f:Nat→Int) (K:Nat) (h:∀ j,sz 1000000000 (f j).natAbs≤K):∀ k,sz 1000000000 (qW f k).natAbs≤K+k
 | 0=>by simp [qW,ji]
 | k+1=>by
  have h1:=oM f K h k
  have h2:=h k
  have h3:=qj (qW f k) (f k)
  simp only [qW]
  omega
def xw (w:World) (z:Int) (e:Ending) (w':World):Prop:=∃ v,e= .returned (.tuple #[v,.int .i64 0])∧Below w.heap.size w w'∧aX w' v z
theorem U9 (bx by':Nat) (vx vy:Value) (xs ys:List Int) (n:Nat) (w:World) (hx:bZ w vx xs) (hy:bZ w vy ys) (hbx:au w bx #[vx] 103) (hby:au w by' #[vy] 103)
  (h1:xs.length=n) (h2:ys.length=n) (h0:0<n) (hn:n≤1000) (k1:∀ i,sz 1000000000 (xs.getD i 0).natAbs≤1000000) (k2:∀ i,sz 1000000000 (ys.getD i 0).natAbs≤1000000) :
  Calls Tryz.prog 128 #[.int .i64 (n:Int),.func (.func 129) #[] #[.pointer (some ⟨bx,0,none⟩),.pointer (some ⟨by',0,none⟩)],.func (.func 131) #[] #[]] w (xw w (qW (fun i=>xs.getD i 0*ys.getD i 0) n)):=by
 have HD:Hid (∀ i,i<n→∀ w',Below w.heap.size w w'→Calls Tryz.prog 129 #[.int .i64 (i:Int),.pointer (some ⟨bx,0,none⟩),.pointer (some ⟨by',0,none⟩)] w' (xH w' (xs.getD i 0*ys.getD i 0))) :=
  zh fun i hi w' hb=>Wp bx by' vx vy xs ys i w' (hx.later hb) (hy.later hb) (hbx.later hb) (hby.later hb) zo zo (Nat.le_trans (k1 i) zo) (Nat.le_trans (k2 i) zo)
 obtain ⟨f,hf⟩:∃ f:Nat→Int,f=fun i=>xs.getD i 0*ys.getD i 0:=⟨_,rfl⟩
 have hfz:∀ i,sz 1000000000 (f i).natAbs≤2000000:=fun i=>by
  rw [hf]
  have:=jo (xs.getD i 0) (ys.getD i 0)
  have:=k1 i
  have:=k2 i
  simp only
  omega
 have HFZ:Hid (∀ i,sz 1000000000 (f i).natAbs≤549755813888):=zh fun i=>Nat.le_trans (hfz i) zo
 have HPZ:Hid (∀ i,i≤n→sz 1000000000 (qW f i).natAbs≤549755813888):=zh fun i hi=>by
  have:=oM f _ hfz i
  omega
 have HD2:Hid (∀ i,i<n→∀ w',Below w.heap.size w w'→Calls Tryz.prog 129 #[.int .i64 (i:Int),.pointer (some ⟨bx,0,none⟩),.pointer (some ⟨by',0,none⟩)] w' (xH w' (f i))):=by
  rw [hf]
  exact HD
 rw [← hf]
 clear hf hfz HD hx hy hbx hby h1 h2 k1 k2
 have XM:f 0=qW f (0+1):=by simp [qW]
 have HP0:=zh XM
 clear XM
 go_enter Tryz.func128,Tryz.ntmps128
 go_wp2_with fail
 refine (HD2.out 0 h0 _ aA).mono ?_
 rintro e v1 ⟨v,rfl,hc1,hv⟩
 obtain ⟨Fp,Vy,Ga,rfl,HV⟩:=hv;replace HV:=zh HV
 rw [HP0.out] at HV ⊢
 have BR:=au.later (au.alloc (au.new _ _ _) _) hc1;have bq:=BR.cell;have bg:=BR.free;have fI:=BR.lt
 go_wp2_with fail
 have hbt:=au.new v1 #[.slice Fp Vy Ga,.bool (decide (qW f (0+1)<0))] 99
 have hbr:=BR.alloc (.cells #[.slice Fp Vy Ga,.bool (decide (qW f (0+1)<0))] 99 (0,0))
 have hbw:Below w.heap.size w v1:=Bt aA hc1
 have hnd:=fI
 clear BR bq bg fI
 obtain ⟨B9,hB9⟩:∃ b,v1.heap.size=b:=⟨_,rfl⟩
 rw [hB9] at hbt hnd ⊢
 have HB9:=zh hB9
 clear hB9
 go_loopw [11] (fun iv wr=>∃ (k:Nat) (pa:Option Addr) (l ca:Nat),iv= .int .i64 (k:Int)∧1≤k∧k≤n∧Hid (au wr B9 #[.slice pa l ca,.bool (decide (qW f k<0))] 99)∧Hid (aM wr (.slice pa l ca) (qW f k).natAbs)∧Hid (au wr w.heap.size #[.slice none 0 0,.bool false] 99)∧Below w.heap.size w wr) (fun iv _=>n - (intOf iv).toNat)
 case atStart=>exact ⟨1,_,_,_,rfl,by omega,by omega,zh hbt,zh aG,zh hbr,bL hbw _⟩
 case round =>
  obtain ⟨k,pa,l,ca,rfl,hk1,hk2,HT,HM,HR,hb⟩:=hrel
  have ct:=HT.out.cell
  have ft:=HT.out.free
  have lt:=HT.out.lt
  have cr:=HR.out.cell
  have fr:=HR.out.free
  have lr:=HR.out.lt
  have hne:w.heap.size≠B9:=by omega
  have hne2:B9≠w.heap.size:=by omega
  rcases Nat.lt_or_ge k n with hlt|hge
  ·have HF:=zh (HFZ.out k)
   have HP:=zh (HPZ.out k zo)
   have HS:Hid (qW f k+f k=qW f (k+1)):=zh rfl
   go_wp2_with fail
   refine (HD2.out k hlt _ hb).mono ?_
   rintro e v2 ⟨v,rfl,hc2,hv⟩
   obtain ⟨aQ9,lHX,aX4,rfl,HX⟩:=hv;replace HX:=zh HX
   have ht2:=HT.out.later hc2
   replace ct:=ht2.cell
   replace ft:=ht2.free
   replace lt:=ht2.lt
   have hr2:=HR.out.later hc2
   replace HM:=zh (HM.out.later hc2)
   go_wp2_with fail
   refine ((Wo _ _ (qW f k) (f k) _ (aX.aV aG) (aX.aV aG) HP.out HF.out).mono (by rw [HS.out];exact fun _ _ h=>h)).mono ?_
   rintro e v3 ⟨v,rfl,hc3,hv⟩
   obtain ⟨aQ8,lHY,aX3,rfl,HY⟩:=hv;replace HY:=zh HY
   have ht3:=(ht2.alloc _).later hc3
   replace ct:=ht3.cell
   replace ft:=ht3.free
   replace lt:=ht3.lt
   have hr3:=(hr2.alloc _).later hc3
   have is3:=ht3.uL
   clear ht2 hr2 cr fr lr
   go_wp2_with fail
   go_roundw
   case rel =>
    refine ⟨k+1,_,_,_,by go_num,by omega,by omega,zh ((ht3.set 0 _).set 1 _),zh ((HY.out.kZ is3 zd).kZ is3.setCell zd),zh ((hr3.setOther _ hne).setOther _ hne),?_⟩
    exact ((Bt (bL (Bt hb hc2) _) hc3).setCell (by simp;omega) _).setCell (by simp;omega) _
   case measure=>exact zM
  ·obtain rfl:k=n:=by omega
   have isr:=HR.out.uL
   go_wp2_with fail
   refine aP rfl rfl ((HR.out.set 0 _).set 1 _) Tryz.underlying99 rfl zk ?_
   exact ⟨_,rfl,(hb.setCell zi _).setCell zi _,aX.aV ((HM.out.kZ isr zd).kZ isr.setCell zd)⟩
def yu (xs ys:List Int):Int:=qW (fun i=>xs.getD i 0*ys.getD i 0) xs.length
theorem Tj (vx vy:Value) (xs ys:List Int) (w:World) (hx:bZ w vx xs) (hy:bZ w vy ys)
  (h2:ys.length=xs.length) (h0:0<xs.length) (hn:xs.length≤1000) (k1:∀ i,sz 1000000000 (xs.getD i 0).natAbs≤1000000) (k2:∀ i,sz 1000000000 (ys.getD i 0).natAbs≤1000000) :
  Calls Tryz.prog 68 #[vx,vy] w (fun e w'=>∃ v,e= .returned v∧Below w.heap.size w w'∧aX w' v (yu xs ys)):=by
 obtain ⟨a,cap,rfl,hc1,hc2, -⟩:=hx.read
 obtain ⟨a',cap',rfl,hc1',hc2', -⟩:=hy.read
 have HS:Hid (∀ bx by' w',Below w.heap.size w w'→au w' bx #[.slice a xs.length cap] 103→au w' by' #[.slice a' ys.length cap'] 103→Calls Tryz.prog 128 #[.int .i64 (xs.length:Int),.func (.func 129) #[] #[.pointer (some ⟨bx,0,none⟩),.pointer (some ⟨by',0,none⟩)],.func (.func 131) #[] #[]] w' (xw w' (yu xs ys))) :=
  zh fun bx by' w' hb h3 h4=>U9 bx by' _ _ xs ys xs.length w' (hx.later hb) (hy.later hb) h3 h4 rfl h2 h0 hn k1 k2
 obtain ⟨z,Ez⟩:∃ z:Int,Hid (yu xs ys=z):=⟨_,zh rfl⟩
 rw [Ez.out] at HS ⊢
 clear hx hy k1 k2 h0 h2
 have M4:∀ (fn:Fn) (first cap:Array Value) (w:World),(Instr.makeFunc fn first cap).run Tryz.prog w= .ok (.func fn first cap) w:=fun _ _ _ _=>rfl
 go_enter Tryz.func68,Tryz.ntmps68
 go_wp2_with fail
 refine (HS.out _ _ _ aA aJ aJ).mono ?_
 rintro e v1 ⟨v,rfl,hc1,hv⟩
 obtain ⟨Fp,Vy,Ga,rfl,HV⟩:=hv;replace HV:=zh HV
 have BR:=au.later (au.at2 _ _ _ _ _) hc1;have bq:=BR.cell;have bg:=BR.free;have fI:=BR.lt
 go_wp2_with fail
 refine bO rfl rfl aJ Tryz.underlying99 rfl zk ?_
 exact ⟨_,rfl,aA,aX.aV aG⟩
end Go.Proofs.matrix
namespace Go.Proofs.matrix
open Go Go.RowKit Go.Shelf Go.SW Go.Num Go.Mem Go.Proofs Go.Dec Go.dx
attribute [local go_sem] Oper.semAt_some
theorem MZ:(Tryz.prog.info? 103).map (fun i=>(i.zero,i.size,i.bytes))=some (some (.slice none 0 0),1,24):=by kernel_rfl
theorem VD:(Tryz.prog.info? 97).map (fun i=>(i.zero,i.size,i.bytes))=some (some (.slice none 0 0),1,24):=by kernel_rfl
abbrev RM:=List (List Rat)
def RM.fr (m:RM):List (List Fr):=m.map fun r=>r.map Fr.of
def gU (r:List Rat):List Int:=r.map (jN (cB r))
def ax0 (w:World) (v:Value) (m:RM):Prop:=∃ va na ca vb nb cb,v= .agg #[.slice va na ca,.slice vb nb cb]∧BQ w (.slice va na ca) (m.map gU)∧zl w (.slice vb nb cb) (m.map cB)
theorem au.keep {l:List TypeId} {w w':World} {b:Nat} {cs:Array Value} {T:TypeId} (h:au w b cs T) (k:Keep l w w') (hT:T∉l):au w' b cs T:=k _ _ _ hT h
theorem yT {w w':World} {base k:Nat} {e:TypeId} {s:Nat} {v:Value} {xs:List Value} (hown:w.ownsRow base e s v k xs) (hg:w.grownBy w' v.ownBlock):KeepsOthers w w' :=
 ⟨hg.size,fun i o hi ho=>by
  rw [hg.block i (Array.getElem?_eq_some_iff.1 hi).1 ?_]
  ·exact hi
  ·intro he
   obtain ⟨-, ⟨rfl, -⟩|⟨g,cap,cur,rfl, -, hgg, -⟩⟩:=hown
   ·cases he
   ·simp only [Value.ownBlock,Option.some.injEq] at he
    subst he
    rw [hi] at hgg
    cases hgg
    cases ho⟩
theorem DZ {β γ:Type} {R:γ→β→Prop} (f:List Rat→γ) (m:RM) {n:Nat} (hn:n=m.length) {rs:List β} (h:jH (fun (i:Fin n) r=>R (f (m.getD i.1 [])) r) (upto n (Nat.le_refl _)) rs):jH R (m.map f) rs:=by
 obtain ⟨h1,h2⟩:=h
 rw [iV] at h1
 refine ⟨by rw [h1,hn,List.length_map],fun i hi hi'=>?_⟩
 have hin:i<n:=by rw [List.length_map] at hi;omega
 have:=h2 i (by rw [iV];exact hin) hi'
 have e:((upto n (Nat.le_refl _))[i]'(by rw [iV];exact hin))=⟨i,hin⟩:=by simp [upto]
 rw [e] at this
 have him:i<m.length:=by omega
 simpa [him] using this
def Nw (w:World) (Bt:Nat) (m:RM) (n:Nat) (pre:List (Fin n)) (W:World):Prop :=
 ∃ va na ca vb nb cb rs bs,au W Bt #[.slice va na ca,.slice vb nb cb] 93∧W.ownsRow w.heap.size 103 1 (.slice va na ca) pre.length rs∧W.ownsRow w.heap.size 97 1 (.slice vb nb cb) pre.length bs ∧
  jH (fun (i:Fin n) r=>bZ W r (gU (m.getD i.1 []))) pre rs∧jH (fun (i:Fin n) r=>aM W r (cB (m.getD i.1 []))) pre bs
theorem Nw.kept {w:World} {Bt:Nat} {m:RM} {n:Nat} {pre:List (Fin n)} {W W':World} (h:Nw w Bt m n pre W) (k:Keep [] W W'):Nw w Bt m n pre W':=by
 obtain ⟨va,na,ca,vb,nb,cb,rs,bs,h1,h2,h3,h4,h5⟩:=h
 exact ⟨va,na,ca,vb,nb,cb,rs,bs,k _ _ _ zi h1,je h2 k zi,je h3 k zi,h4.mono fun _ _ h=>h.kept k zi zi,h5.mono fun _ _ h=>dx.aM.kept h k zi⟩
def Uo (n:Nat) (v:Value):Prop:=∀ pa k c s,v= .agg #[.slice (some pa) k c,s]→n≤pa.block
theorem IJ {w:World} {base k n c:Nat} {T:TypeId} {va:Option Addr} {s:Value} {xs:List Value} (h:w.ownsRow base T 1 (.slice va n c) k xs):Uo base (.agg #[.slice va n c,s]):=by
 intro pa k' c' s' e
 simp only [Value.agg.injEq] at e
 have e1:Value.slice va n c= .slice (some pa) k' c':=by
  have:=congrArg (fun a=>a[0]?) e
  simpa using this
 obtain ⟨-, ⟨h2, -⟩|⟨g,cap,cur,h3,h4, -⟩⟩:=h
 ·rw [e1] at h2;cases h2
 ·rw [e1] at h3
  simp only [Value.slice.injEq,Option.some.injEq] at h3
  rw [h3.1]
  exact h4
theorem QV (v:Value) (m:RM) (w:World) (h:bQ w v m.fr) (hm:m.length≤4) (hq:∀ r∈m,r.length≤4∧∀ q∈r,dz q=true) :
  Calls Tryz.prog 57 #[v] w fun e w'=>∃ v,e= .returned v∧Below w.heap.size w w'∧ax0 w' v m∧Uo w.heap.size v:=by
 obtain ⟨ir,ir1,ir2,ir3,ir4⟩:=info_parts MZ
 obtain ⟨im,im1,im2,im3,im4⟩:=info_parts VD
 obtain ⟨rs,hR,hlen,hF⟩:=h
 have hlm:rs.length=m.length:=hlen.trans (List.length_map _)
 have zF:Hid (∀ i (h:i<rs.length),jL w 36 rs[i] ((m.getD i []).map Fr.of)∧(m.getD i []).length≤4∧∀ q∈m.getD i [],dz q=true):=zh fun i hi=>by
  have him:i<m.length:=by omega
  have e:m.getD i []=m[i]:=by simp [him]
  rw [e]
  refine ⟨?_,hq _ (List.getElem_mem _)⟩
  have:=hF i hi (by rw [← hlen];exact hi)
  simpa [RM.fr] using this
 have HR:=zh hR
 have HLM:=zh hlm
 have hR2:=hR
 obtain ⟨a,cap,rfl, -⟩:=hR2
 clear hR hF hlen hlm hq
 refine (callsIn_wide (n:=3)).1 ?_
 refine callsIn_of_wp_marks Tryz.func57 rfl trivial ?_ rfl
 simp only [Tryz.ntmps57,List.size_toArray,List.length_cons,List.length_nil,Nat.reduceAdd,Nat.reduceSub,Array.replicate_succ,Array.replicate_zero,List.push_toArray,List.append_toArray,List.nil_append,List.cons_append]
 gi_wp2_with (refine ⟨trivial,?_⟩;gi_at_call 112;refine (Ad Fence.wide 2 trivial rfl _ _ _ _).mono ?_;rintro e w' ⟨rfl,rfl⟩)
 obtain ⟨W0,hW0⟩:∃ W0,((w.alloc (.cells #[.slice none 0 0,.slice none 0 0] 93)).alloc (.cells #[.slice none 0 0,.slice none 0 0] 93)).alloc (.cells #[.slice a rs.length cap] 44)=W0:=⟨_,rfl⟩
 have hB0:Below w.heap.size w W0:=by rw [← hW0];exact aA
 have hbx0:au W0 w.heap.size #[.slice none 0 0,.slice none 0 0] 93:=by rw [← hW0];exact aJ
 have zw:au W0 (w.heap.size+1) #[.slice none 0 0,.slice none 0 0] 93:=by rw [← hW0];exact aJ
 have zu:au W0 (w.heap.size+1+1) #[.slice a rs.length cap] 44:=by rw [← hW0];exact aJ
 rw [hW0]
 refine wpIn_rangeFunc_ownF (α:=Fin rs.length) rfl zo (gf:=164) (lb:=#[.pointer (some ⟨w.heap.size+1+1,0,none⟩)]) rfl trivial (enters_of Tryz.func164 zk rfl)
  (su Fence.wide 2 trivial rfl zo (w.heap.size+1+1) w.heap.size _ rs w _ zu.lt hB0.size ((zu.cell 0).trans rfl) HR.out (Nat.le_refl _) hB0) belowK_t (belowK_b hB0.size) (Below.refl _ _) (fun _=>rfl)
  (fun pre W=>(Nw w (w.heap.size+1) m rs.length pre W∧au W w.heap.size #[.slice none 0 0,.slice none 0 0] 93)∧Below w.heap.size w W)
  (fun _ _ _=>False)
  (OwnFrom.and (Own.from (fun s A B row hs hg hr=>⟨hs.1.kept (Keep.others hg hr),dL hs.2 hg hr⟩) _) (ownFrom_below (Nat.le_refl _) hB0.size))
  (fun _ _ _ _ _ hs _ _=>hs)
  ⟨⟨⟨_,_,_,_,_,_,[],[],zw,World.ownsRow_nil _ _ _ _,World.ownsRow_nil _ _ _ _,jH.nil,jH.nil⟩,hbx0⟩,hB0⟩ ?a1 ?assign ?body ?done ?stop
 case assign =>
  intro l x W K hK
  unfold enc
  gi_wp2
  exact hK
 case body =>
  rintro l pre x W ⟨⟨hI,hb0⟩,hB⟩ hpl
  obtain ⟨va,na,ca,vb,nb,cb,xs,bs,hT,ho1,ho2,h4,h5⟩:=hI
  obtain ⟨hfr,hq1,hq2⟩:=zF.out x.1 x.2
  have hpn:pre.length<4:=by have:=HLM.out;omega
  have hx0:gU (m.getD x.1 [])=(m.getD x.1 []).map (jN (cB (m.getD x.1 []))):=rfl
  obtain ⟨a',cap',hre, -⟩:=hfr.read
  have HCM:=zh (DW rs[x.1] (m.getD x.1 []) 36 W (hfr.later hB) hq2 zo)
  rw [hre] at HCM
  clear hfr hq1 hq2
  generalize rs[x.1]=rx at *
  subst hre
  unfold Ce at HCM
  rw [← hx0] at HCM
  have H4:=zh h4
  have H5:=zh h5
  have Xb:=zh ho1
  have mU:=zh ho2
  clear h4 h5 ho1 ho2 hx0
  have hlr:((m.getD x.1 []).map Fr.of).length=(m.getD x.1 []).length:=List.length_map _
  rw [hlr] at HCM ⊢
  have HX:Hid (∃ r:List Rat,m.getD x.1 []=r):=zh ⟨_,rfl⟩
  obtain ⟨r,hr⟩:=HX.out
  rw [hr] at HCM ⊢
  have HRR:=zh hr
  clear hr HX hlr
  gi_wp2_with (first
   | (refine ⟨trivial,?_⟩;gi_at_call 78;refine (CallsIn.inRound l (callsIn_wide.2 HCM.out)).mono ?_;rintro e w1 ⟨vt,vd,rfl,hc1,hv1,hv2⟩;obtain ⟨at',ct',rfl, -⟩:=hv1.read;obtain ⟨ad,nd,cd,rfl⟩:=hv2.slice;have HV1:=zh hv1;have zm:=zh hv2;clear hv1 hv2;have hT1:=hT.later hc1;have cT:=hT1.cell;have fT:=hT1.free;have lT:=hT1.lt)
   | (gi_at_builtin;refine wpListIn_append_own _ rfl (.tmp 18) (.tmp 20) 90 rfl w.heap.size 103 ir (.slice none 0 0) 1 24 Tryz.underlying90 ir1 ir2 ir3 ir4 rfl zd _ _ _ rfl ((vH Xb.out hc1).alloc _) ⟨w1.heap.size,0,none⟩ 1 1 [.slice at' (gU r).length ct'] rfl rfl (by intro t u ht;match t,ht with|0,ht=>simp at ht;subst ht;simp [Addr.add]) (by intro u hu;simp at hu;subst hu;rfl) (by unfold maxLen;omega) zo (by have:=hB.size;have:=hc1.size;simp;omega) ?_))
  intro v2 w2 hown2 hgrow2 _
  obtain ⟨g2,c2,rfl⟩:=ownsRow_succ hown2
  have k2:Keep [103] w1 w2:=Keep.trans (Keep.of_below aA) (Keep.grown ((vH Xb.out hc1).alloc _) hgrow2)
  have K2:Hid (Keep [103] W w2):=zh (Keep.trans (Keep.of_below hc1) k2)
  have XL:=k2 _ _ _ zd hT1
  replace cT:=XL.cell
  replace fT:=XL.free
  replace lT:=XL.lt
  have uL:=XL.uL
  have V5:Below w.heap.size w w1:=hB.trans (hc1.mono hB.size)
  have hbw2:Below w.heap.size w w2:=(bL V5 _).grown hgrow2 (by have:=V5.size;simp;omega) (fun k hk=>(Xb.out.lt k hk).1)
  have ko2:KeepsOthers w1 w2:=(KeepsOthers.alloc _ _).trans (yT ((vH Xb.out hc1).alloc _) hgrow2)
  have aG8:Below w.heap.size W w2:=(Below.alloc (hc1.mono hB.size) V5.size _).grown hgrow2 (by have:=V5.size;simp;omega) (fun k hk=>(Xb.out.lt k hk).1)
  have HW2:=zh hown2
  have KV:=zh k2
  have Uh:Hid ((w2.setCell ⟨w.heap.size+1,0,none⟩ (.slice (some ⟨g2,0,none⟩) (pre.length+1) c2)).ownsRow w.heap.size 97 1 (.slice vb nb cb) pre.length bs):=zh (je (je mU.out K2.out zd) (Keep.setCell uL) zd)
  have aO5:=hbw2.size
  clear hown2 hgrow2 k2 hT1
  gi_wp2_with (gi_at_builtin;refine wpListIn_append_own _ rfl (.tmp 24) (.tmp 26) 91 rfl w.heap.size 97 im (.slice none 0 0) 1 24 Tryz.underlying91 im1 im2 im3 im4 rfl zd _ _ _ rfl (Uh.out.alloc _) ⟨w2.heap.size,0,none⟩ 1 1 [.slice ad nd cd] rfl rfl (by intro t u ht;match t,ht with|0,ht=>(simp at ht;subst ht;exact ((au.pJ (b:=w2.heap.size) zi).cell 0).trans rfl)) (by intro u hu;simp at hu;subst hu;rfl) (by unfold maxLen;omega) zo (by simp;omega) ?_)
  intro v3 w3 hown3 hgrow3 _
  obtain ⟨g3,c3,rfl⟩:=ownsRow_succ hown3
  have k3:Keep [97] (w2.setCell ⟨w.heap.size+1,0,none⟩ (.slice (some ⟨g2,0,none⟩) (pre.length+1) c2)) w3:=Keep.trans (Keep.of_below aA) (Keep.grown (Uh.out.alloc _) hgrow3)
  have hT3:=k3 _ _ _ zd (XL.set 0 (.slice (some ⟨g2,0,none⟩) (pre.length+1) c2))
  replace cT:=hT3.cell
  replace fT:=hT3.free
  replace lT:=hT3.lt
  have Vz:=hT3.uL
  have aF1:Below w.heap.size w w3:=(bL (hbw2.setCell zi _) _).grown hgrow3 (by simp;omega) (fun k hk=>(Uh.out.lt k hk).1)
  have ko3:KeepsOthers (w2.setCell ⟨w.heap.size+1,0,none⟩ (.slice (some ⟨g2,0,none⟩) (pre.length+1) c2)) w3:=(KeepsOthers.alloc _ _).trans (yT (Uh.out.alloc _) hgrow3)
  have aG7:Below w.heap.size W w3:=(Below.alloc (aG8.setCell zi _) (by simp;omega) _).grown hgrow3 (by simp;omega) (fun k hk=>(Uh.out.lt k hk).1)
  have HW3:=zh hown3
  have K3:Hid (Keep [97] (w2.setCell ⟨w.heap.size+1,0,none⟩ (.slice (some ⟨g2,0,none⟩) (pre.length+1) c2)) w3):=zh k3
  clear hown3 hgrow3 k3
  gi_wp2
  have aF0:=au.keep (hb0.later hc1) KV.out zd
  have aE9:=aF0.setOther (.slice (some ⟨g2,0,none⟩) (pre.length+1) c2) (a:=⟨w.heap.size+1,0,none⟩) zi
  have aE8:=au.keep aE9 K3.out zd
  have hbz:=aE8.setOther (.slice (some ⟨g3,0,none⟩) (pre.length+1) c3) (a:=⟨w.heap.size+1,1,none⟩) zi
  refine ⟨((((dB hc1).trans ko2).trans (KeepsOthers.setCell _ _ _)).trans ko3).trans (KeepsOthers.setCell _ _ _),aG7.setCell zi _,⟨⟨_,_,_,_,_,_,xs++[.slice at' (gU r).length ct'],bs++[.slice ad nd cd],hT3.set 1 _,?_,?_,?_,?_⟩,hbz⟩,aF1.setCell zi _⟩
  ·rw [List.length_append]
   exact je (je (je HW2.out (Keep.setCell uL) zd) K3.out zd) (Keep.setCell Vz) zd
  ·rw [List.length_append]
   exact je HW3.out (Keep.setCell Vz) zd
  ·have kk:Keep [103,93,97] w1 (w3.setCell ⟨w.heap.size+1,1,none⟩ (.slice (some ⟨g3,0,none⟩) (pre.length+1) c3)) :=
    (((KV.out.mono zi).trans ((Keep.setCell uL).mono zi)).trans (K3.out.mono zi)).trans ((Keep.setCell Vz).mono zi)
   refine jH.snoc ((H4.out.mono fun _ _ h=>h.later hc1).mono fun _ _ h=>bZ.kept h kk zd zd) ?_
   rw [HRR.out]
   exact bZ.kept HV1.out kk zd zd
  ·have kk:Keep [103,93,97] w1 (w3.setCell ⟨w.heap.size+1,1,none⟩ (.slice (some ⟨g3,0,none⟩) (pre.length+1) c3)) :=
    (((KV.out.mono zi).trans ((Keep.setCell uL).mono zi)).trans (K3.out.mono zi)).trans ((Keep.setCell Vz).mono zi)
   refine jH.snoc ((H5.out.mono fun _ _ h=>h.later hc1).mono fun _ _ h=>dx.aM.kept h kk zd) ?_
   rw [HRR.out]
   exact dx.aM.kept zm.out kk zd
 case done =>
  rintro D ys W hD rfl ⟨⟨hI,hb0⟩,hB⟩ hK
  obtain ⟨va,na,ca,vb,nb,cb,xs,bs,hT,ho1,ho2,h4,h5⟩:=hI
  have cT:=hT.cell
  have fT:=hT.free
  have c0:=hb0.cell
  have f0:=hb0.free
  have is0:=hb0.uL
  have H4:=zh (DZ (R:=fun zs r=>bZ W r zs) gU m HLM.out h4)
  have H5:=zh (DZ (R:=fun d r=>aM W r d) cB m HLM.out h5)
  have Xb:=zh (Row.dN ho1)
  have mU:=zh (Row.dN ho2)
  have HFT:=zh (IJ (s:=.slice vb nb cb) ho1)
  clear h4 h5 ho1 ho2
  gi_wp2
  have hK':=((KeepsOthers.setCell W ⟨w.heap.size,0,none⟩ (.slice va na ca)).trans (KeepsOthers.setCell _ ⟨w.heap.size,1,none⟩ (.slice vb nb cb))).same D _ hK rfl
  refine ⟨by simp,.inl ⟨_,_,rfl,run_takeDeferred hK',?_⟩⟩
  have hk5:Keep [93] W (((W.setCell ⟨w.heap.size,0,none⟩ (.slice va na ca)).setCell ⟨w.heap.size,1,none⟩ (.slice vb nb cb)).putObj D (.deferred none)) :=
   ((Keep.setCell is0).trans (Keep.setCell is0.setCell)).trans ((Keep.others (grownBy_putObj' _ D (.deferred none)) (fun r e=>by cases e;exact ⟨_,hK',rfl⟩)).mono zi)
  have hb3:=dL ((hb0.set 0 (.slice va na ca)).set 1 (.slice vb nb cb)) (grownBy_putObj' _ D (.deferred none)) (fun r e=>by cases e;exact ⟨_,hK',rfl⟩)
  refine ⟨_,results_cell_row rfl _ _ w.heap.size 93 _ (0,0) _ rfl hb3 Tryz.underlying93 rfl zk,⟨_,rfl,?_,⟨_,_,_,_,_,_,rfl,⟨xs,dx.Row.kept Xb.out hk5 zd,H4.out.mono fun _ _ h=>bZ.kept h hk5 zd zd⟩,⟨bs,dx.Row.kept mU.out hk5 zd,H5.out.mono fun _ _ h=>dx.aM.kept h hk5 zd⟩⟩,HFT.out⟩⟩
  exact ((hB.setCell zi _).setCell zi _).trans (belowK_b (w:=w) (Nat.le_refl _) _ D _ _ (by have:=hB0.size;omega) hK' rfl rfl)
 case stop =>
  rintro D c pre W _ _ h _
  exact h.elim
theorem uh (v:Value) (m:RM) (w:World) (h:bQ w v m.fr) (hm:m.length≤4) (hq:∀ r∈m,r.length≤4∧∀ q∈r,dz q=true) :
  Calls Tryz.prog 57 #[v] w fun e w'=>∃ v,e= .returned v∧Below w.heap.size w w'∧ax0 w' v m :=
 (QV v m w h hm hq).mono fun _ _ ⟨v,h1,h2,h3,_⟩=>⟨v,h1,h2,h3⟩
attribute [local go_sem] Oper.semAt_some
def mZ (w:World) (g:Nat) (T:TypeId) (n:Nat) (D:Nat→Prop) (f:Nat→Fr):Prop :=
 ∃ arr,au w g arr T∧arr.size=n*2∧∀ i,i<n→D i→arr[i*2]? =some (.string (f i).n)∧arr[i*2+1]? =some (.string (f i).d)
theorem mZ.kept {w w':World} {g:Nat} {T:TypeId} {n:Nat} {D:Nat→Prop} {f:Nat→Fr} (h:mZ w g T n D f) (k:Keep [] w w'):mZ w' g T n D f:=by
 obtain ⟨arr,h1,h2⟩:=h
 exact ⟨arr,k _ _ _ zi h1,h2⟩
theorem mZ.cells {w:World} {g:Nat} {T:TypeId} {n j:Nat} {D:Nat→Prop} {f:Nat→Fr} (h:mZ w g T n D f) (hj:j<n) :
  (∃ x,w.cell? ⟨g,j*2,none⟩=some x)∧(∃ y,w.cell? ⟨g,j*2+1,none⟩=some y)∧(∀ o,w.frozen? ⟨g,o,none⟩=false)∧g<w.heap.size:=by
 obtain ⟨arr,h1,h2,h3⟩:=h
 refine ⟨⟨arr[j*2]'zo,?_⟩,⟨arr[j*2+1]'zo,?_⟩,h1.free,h1.lt⟩
 ·rw [h1.cell];exact Array.getElem?_eq_getElem _
 ·rw [h1.cell];exact Array.getElem?_eq_getElem _
theorem mZ.put {w:World} {g n j:Nat} {T:TypeId} {D D':Nat→Prop} {f:Nat→Fr} {s t:ByteArray} (h:mZ w g T n D f) (hj:j<n) (hs:s=(f j).n) (ht:t=(f j).d) (hD:∀ i,D' i→i=j∨D i) :
  mZ ((w.setCell ⟨g,j*2,none⟩ (.string s)).setCell ⟨g,j*2+1,none⟩ (.string t)) g T n D' f:=by
 subst hs ht
 obtain ⟨arr,h1,h2,h3⟩:=h
 refine ⟨(arr.setIfInBounds (j*2) (.string (f j).n)).setIfInBounds (j*2+1) (.string (f j).d),(h1.set _ _).set _ _,by simp [h2],fun i hi hd=>?_⟩
 by_cases e:i=j
 ·subst e
  refine ⟨?_,?_⟩
  ·rw [Array.getElem?_setIfInBounds,if_neg zo,Array.getElem?_setIfInBounds,if_pos rfl,if_pos zo]
  ·rw [Array.getElem?_setIfInBounds,if_pos rfl,if_pos (by simp;omega)]
 ·obtain ⟨k1,k2⟩:=h3 i hi ((hD i hd).resolve_left e)
  refine ⟨?_,?_⟩
  ·rw [Array.getElem?_setIfInBounds,if_neg zo,Array.getElem?_setIfInBounds,if_neg zo,k1]
  ·rw [Array.getElem?_setIfInBounds,if_neg zo,Array.getElem?_setIfInBounds,if_neg zo,k2]
theorem mZ.start {w:World} {base g n:Nat} {T:TypeId} {z:Array Value} {f:Nat→Fr} (h:w.ownsRow base T 2 (.slice (some ⟨g,0,none⟩) n n) n (madeCells z (n*2)).toList):mZ w g T n (fun _=>False) f:=by
 obtain ⟨arr,h1,h2, -⟩:=Fill.start (ok:=xM f) h
 exact ⟨arr,h1,h2,fun i _ h=>h.elim⟩
theorem mZ.C8 {w:World} {g n:Nat} {T:TypeId} {D:Nat→Prop} {l:List Fr} (h:mZ w g T n D (fun i=>l.getD i Fr.no)) (hD:∀ i,i<n→D i) (hn:l.length=n) (hl:n≤1000000):jL w T (.slice (some ⟨g,0,none⟩) n n) l:=by
 obtain ⟨arr,h1,h2,h3⟩:=h
 refine Fill.C8 ⟨arr,h1,h2,fun i hi=>?_⟩ hn hl
 obtain ⟨k1,k2⟩:=h3 i hi (hD i hi)
 exact ⟨_,_,k1,k2,rfl,rfl⟩
theorem getD_lt {α:Type} {l:List α} {c:Nat} {d:α} (h:c<l.length):l.getD c d=l[c]:=by simp [h]
def Da (m:List (List Fr)) (c:Nat):List Fr:=m.map fun r=>r.getD c Fr.no
theorem mZ.xS {w:World} {g n:Nat} {T:TypeId} {cs:Array Value} {f:Nat→Fr} (h:au w g cs T) (hs:cs.size=n*2):mZ w g T n (fun _=>False) f:=⟨cs,h,hs,fun i _ h=>h.elim⟩
theorem wK (n:Nat) (hn:n≤1000):∃ cs:Array Value,cs.size=n*2∧∀ W:World,(Instr.makeSlice 56 (.int .i64 (n:Int)) (.int .i64 (n:Int))).run Tryz.prog W= .ok (.slice (some ⟨W.heap.size,0,none⟩) n n) (W.alloc (.cells cs 36)):=by
 obtain ⟨i0,hi,hz0,hz1,hz2⟩:=info_parts pK
 refine ⟨madeCells (Value.agg #[.string ⟨#[]⟩,.string ⟨#[]⟩]).cells (n*2),size_madeCells _ _,fun W=>?_⟩
 have:=run_makeSlice (P:=Tryz.prog) W 56 36 i0 (.agg #[.string ⟨#[]⟩,.string ⟨#[]⟩]) Tryz.underlying56 hi hz0 .i64 .i64 (n:Int) (n:Int) zo (Int.le_refl _) (by rw [hz1];simp;omega) (by rw [hz2];omega) zo
 rw [hz1] at this
 simpa using this
theorem Ah (bm c:Nat) (v:Value) (m:List (List Fr)) (w:World) (h:bQ w v m) (hb:au w bm #[v] 44) (hm:m.length≤4) (hc:∀ r∈m,c<r.length) :
  Calls Tryz.prog 126 #[.int .i64 (c:Int),.pointer (some ⟨bm,0,none⟩)] w (fun e w'=>∃ v',e= .returned v'∧Below w.heap.size w w'∧jL w' 36 v' (Da m c)):=by
 obtain ⟨i0,hi,hz0,hz1,hz2⟩:=info_parts pK
 obtain ⟨rs,hR,hlen,hF⟩:=h
 obtain ⟨f,Ef⟩:∃ f:Nat→Fr,Hid ((fun i=>(Da m c).getD i Fr.no)=f):=⟨_,zh rfl⟩
 have zF:Hid (∀ i (h:i<rs.length),jL w 36 rs[i] (m.getD i [])∧c<(m.getD i []).length∧f i=(m.getD i []).getD c Fr.no):=zh fun i hi=>by
  have him:i<m.length:=by omega
  have e:m.getD i []=m[i]:=by simp [him]
  rw [e]
  exact ⟨hF i hi him,hc _ (List.getElem_mem _),by rw [← Ef.out];simp [Da,him]⟩
 have HCL:Hid ((Da m c).length=rs.length):=zh (by rw [hlen];simp [Da])
 have HR:=zh hR
 obtain ⟨a,cap,rfl, -⟩:=hR
 have HLM:Hid (rs.length≤4):=zh zo
 have hl4:rs.length≤4:=by omega
 have cbm:=hb.cell
 have lbm:=hb.lt
 have aS1:bm<w.heap.size+1:=by omega
 have aS0:bm<w.heap.size+1+1:=by omega
 have Qc:=zh hb
 clear hF hlen hc hb
 refine (callsIn_wide (n:=3)).1 ?_
 refine callsIn_of_wp_marks Tryz.func126 rfl trivial ?_ rfl
 simp only [Tryz.ntmps126,List.size_toArray,List.length_cons,List.length_nil,Nat.reduceAdd,Nat.reduceSub,Array.replicate_succ,Array.replicate_zero,List.push_toArray,List.append_toArray,List.nil_append,List.cons_append]
 obtain ⟨cs,hcs,hmk⟩:=wK rs.length zo
 have LX:=zh hcs
 clear hcs
 gi_wp2_with (refine ⟨trivial,?_⟩;gi_at_call 112;refine (Ad Fence.wide 2 trivial rfl _ _ _ _).mono ?_;rintro e w' ⟨rfl,rfl⟩)
 clear hmk
 obtain ⟨W0,hW0⟩:∃ W0,(((w.alloc (.cells #[.int .i64 (c:Int)] 3)).alloc (.cells cs 36)).alloc (.cells #[.slice (some ⟨w.heap.size+1,0,none⟩) rs.length rs.length] 56)).alloc (.cells #[.slice a rs.length cap] 44)=W0:=⟨_,rfl⟩
 have hB0:Below w.heap.size w W0:=by rw [← hW0];exact aA
 have hbx0:au W0 w.heap.size #[.int .i64 (c:Int)] 3:=by rw [← hW0];exact aJ
 have zw:au W0 (w.heap.size+1) cs 36:=by rw [← hW0];exact aJ
 have zu:au W0 (w.heap.size+1+1) #[.slice (some ⟨w.heap.size+1,0,none⟩) rs.length rs.length] 56:=by rw [← hW0];exact aJ
 have Sn:au W0 (w.heap.size+1+1+1) #[.slice a rs.length cap] 44:=by rw [← hW0];exact au.at3 _ _ _ _ _ _
 rw [hW0]
 clear hW0 cbm
 refine wpIn_rangeFunc_ownF (α:=Fin rs.length) rfl zo (gf:=164) (lb:=#[.pointer (some ⟨w.heap.size+1+1+1,0,none⟩)]) rfl trivial (enters_of Tryz.func164 zk rfl)
  (su Fence.wide 2 trivial rfl zo (w.heap.size+1+1+1) w.heap.size _ rs w _ Sn.lt hB0.size ((Sn.cell 0).trans rfl) HR.out (Nat.le_refl _) hB0) belowK_t (belowK_b hB0.size) (Below.refl _ _) (fun _=>rfl)
  (fun pre W=>(mZ W (w.heap.size+1) 36 rs.length (fun i=>∃ x∈pre,x.1=i) f∧au W w.heap.size #[.int .i64 (c:Int)] 3∧au W (w.heap.size+1+1) #[.slice (some ⟨w.heap.size+1,0,none⟩) rs.length rs.length] 56)∧Below w.heap.size w W)
  (fun _ _ _=>False)
  (OwnFrom.and (Own.from (fun s A B row hs hg hr=>⟨hs.1.kept (Keep.others hg hr),dL hs.2.1 hg hr,dL hs.2.2 hg hr⟩) _) (ownFrom_below (Nat.le_refl _) hB0.size))
  (fun _ _ _ _ _ hs _ _=>hs)
  ⟨⟨?f0,hbx0,zu⟩,hB0⟩ ?a1 ?assign ?body ?done ?stop
 case f0 =>
  obtain ⟨arr,k1,k2,k3⟩:=mZ.xS (f:=f) zw LX.out
  exact ⟨arr,k1,k2,fun i hi ⟨x,hx,_⟩=>by cases hx⟩
 case assign =>
  intro l x W K hK
  unfold enc
  gi_wp2
  exact hK
 case body =>
  rintro l pre x W ⟨⟨hF,hb0,hb2⟩,hB⟩ hpl
  obtain ⟨hfr,hcl,at6⟩:=zF.out x.1 x.2
  obtain ⟨a',cap',hre,aU8,aU7,hread⟩:=hfr.read
  obtain ⟨b,off,rfl,lb,hx1,hx2⟩:=hread c hcl
  have cx1:=(hB.cell (p:=⟨b,off+c*2,none⟩) lb).trans hx1
  have cx2:=(hB.cell (p:=⟨b,off+c*2+1,none⟩) lb).trans hx2
  have hgd:(m.getD x.1 [])[c]=f x.1:=(at6.trans (getD_lt hcl)).symm
  rw [hgd] at cx1 cx2
  have c0:=hb0.cell
  have c2:=hb2.cell
  have lbW:=Nat.lt_of_lt_of_le lb hB.size
  have qK:=x.2
  have HF:=zh hF
  obtain ⟨s1,N9⟩:∃ s:ByteArray,Hid ((f x.1).n=s):=⟨_,zh rfl⟩
  obtain ⟨s2,N8⟩:∃ s:ByteArray,Hid ((f x.1).d=s):=⟨_,zh rfl⟩
  rw [N9.out] at cx1
  rw [N8.out] at cx2
  clear hfr at6 hread hx1 hx2 hgd hF
  generalize rs[x.1]=rx at *
  subst hre
  generalize (m.getD x.1 []).length=n' at *
  refine wpIn_block ?_
  refine xO [(.read,0),(.pure,1),(.pure,2),(.read,3),(.pure,4),(.read,5),(.pure,6),(.fin,7)] zk zk zk zR (fun ⟨_,_,h⟩=>h) (fun _ _ _ _ _ h=>h) ?_
  repeat (first|(refine ah rfl rfl fun J h=>?_;go_simp;refine h _ ?_;clear h J)|(refine aB rfl rfl rfl rfl fun J h=>?_;go_simp;refine h _ ?_;clear h J;try go_simp))
  refine aI [_] rfl (fun w2 hbd=>?_)
  have hb2':Below W.heap.size W w2:=iW (Below.drew (Below.refl _ _)) hbd
  have hF2:=HF.out.kept (Keep.of_below hb2')
  have HF2:=zh hF2
  obtain ⟨⟨y1,GD⟩,⟨y2,Ya⟩,fy,ly⟩:=hF2.cells qK
  have aG6:=hb0.later hb2'
  have aG5:=au.later hb2 hb2'
  clear hF2
  go_wp2_with fail
  refine ⟨((dB hb2').trans (KeepsOthers.setCell _ _ _)).trans (KeepsOthers.setCell _ _ _),((hb2'.mono hB.size).setCell zi _).setCell zi _,⟨HF2.out.put qK N9.out.symm N8.out.symm ?_,(aG6.setOther _ zi).setOther _ zi,(aG5.setOther _ zi).setOther _ zi⟩,((hB.trans (hb2'.mono hB.size)).setCell zi _).setCell zi _⟩
  rintro i ⟨y,hy,rfl⟩
  rcases List.mem_append.1 hy with h|h
  ·exact .inr ⟨y,h,rfl⟩
  ·rw [List.mem_singleton] at h
   exact .inl (by rw [h])
 case done =>
  rintro D ys W hD rfl ⟨⟨hF,hb0,hb2⟩,hB⟩ hK
  have c2:=hb2.cell
  have HF:=zh hF
  clear hF
  gi_wp2
  refine ⟨by simp,.inl ⟨_,_,rfl,run_takeDeferred hK,?_⟩⟩
  have hF2:=HF.out.kept (Keep.others (grownBy_putObj' _ D (.deferred none)) (fun r e=>by cases e;exact ⟨_,hK,rfl⟩))
  refine ⟨.slice (some ⟨w.heap.size+1,0,none⟩) rs.length rs.length,?_,_,rfl,hB.trans (belowK_b (w:=w) (Nat.le_refl _) W D _ _ (by have:=hB0.size;omega) hK rfl rfl),?_⟩
  ·simp [results,Tryz.f126,go_sem]
  ·rw [← Ef.out] at hF2
   exact hF2.C8 (fun i hi=>⟨⟨i,hi⟩,by unfold upto;rw [List.mem_ofFn];exact ⟨⟨i,hi⟩,rfl⟩,rfl⟩) HCL.out (by have:=HLM.out;omega)
 case stop =>
  rintro D c pre W _ _ h _
  exact h.elim
theorem bQ.first {w:World} {v:Value} {m:List (List Fr)} (h:bQ w v m) (h0:0<m.length) :
  ∃ b off cap a0 cap0,v= .slice (some ⟨b,off,none⟩) m.length cap∧m.length≤cap∧b<w.heap.size∧w.cell? ⟨b,off,none⟩=some (.slice a0 (m.headD []).length cap0):=by
 obtain ⟨rs,hR,hlen,hF⟩:=h
 rcases hR.cases with ⟨rfl,rfl⟩|⟨b,off,cap,arr,rfl,k1,k2,k3,k4⟩
 ·simp at hlen;omega
 ·have h0r:0<rs.length:=by omega
  obtain ⟨a0,cap0,e0, -⟩:=(hF 0 h0r zo).read
  refine ⟨b,off,cap,a0,cap0,by rw [hlen],by omega,k3.lt,?_⟩
  have:=(k3.cell (off+0)).trans (k4 0 h0r)
  rw [e0] at this
  cases m with
  | nil=>simp at h0
  | cons r t=>simpa using this
theorem wJ (n:Nat) (hn:n≤1000):∃ cs:Array Value,cs.size=n∧∀ W:World,(Instr.makeSlice 44 (.int .i64 (n:Int)) (.int .i64 (n:Int))).run Tryz.prog W= .ok (.slice (some ⟨W.heap.size,0,none⟩) n n) (W.alloc (.cells cs 56)):=by
 obtain ⟨i0,hi,hz0,hz1,hz2⟩:=info_parts RU
 refine ⟨madeCells (Value.slice none 0 0).cells n,size_madeCells _ _,fun W=>?_⟩
 have:=run_makeSlice (P:=Tryz.prog) W 44 56 i0 (.slice none 0 0) Tryz.underlying44 hi hz0 .i64 .i64 (n:Int) (n:Int) zo (Int.le_refl _) (by rw [hz1];simp;omega) (by rw [hz2];omega) zo
 rw [hz1] at this
 simpa using this
theorem fK.xS {w:World} {g n:Nat} {cs:Array Value} {f:Nat→List Fr} (h:au w g cs 56) (hs:cs.size=n):fK w g n 0 f:=⟨cs,h,hs,fun i h=>by omega⟩
def kG (m:List (List Fr)) (n:Nat):List (List Fr):=(List.range n).map (Da m)
theorem Ct (v:Value) (m:List (List Fr)) (n:Nat) (w:World) (h:bQ w v m) (h1:1≤m.length) (h4:m.length≤4) (n4:n≤4) (hn:∀ r∈m,r.length=n) :
  Calls Tryz.prog 66 #[v] w (fun e w'=>∃ v',e= .returned v'∧Below w.heap.size w w'∧bQ w' v' (kG m n)):=by
 obtain ⟨b,off,cap,a0,cap0,rfl,hcap,lb,hc0⟩:=bQ.first h zo
 have hhd:(m.headD []).length=n:=by
  cases m with
  | nil=>simp at h1
  | cons r t=>exact hn r zi
 rw [hhd] at hc0
 have HT:=zh (fun bm c w' (hb:Below w.heap.size w w') (hc:c<n) (hx:au w' bm #[.slice (some ⟨b,off,none⟩) m.length cap] 44)=>Ah bm c _ m w' (h.later hb) hx h4 (fun r hr=>by rw [hn r hr];exact hc))
 obtain ⟨cs,hcs,hmk⟩:=wJ n zo
 have LX:=zh hcs
 have lb1:b<w.heap.size+1:=by omega
 have M4:∀ (fn:Fn) (first cap:Array Value) (w:World),(Instr.makeFunc fn first cap).run Tryz.prog w= .ok (.func fn first cap) w:=fun _ _ _ _=>rfl
 have h0m:0<m.length:=by omega
 have HN4:=zh n4
 clear h hn hcs
 go_enter Tryz.func66,Tryz.ntmps66
 go_wp2_with fail
 obtain ⟨W0,hW0⟩:∃ W0,(w.alloc (.cells #[.slice (some ⟨b,off,none⟩) m.length cap] 44)).alloc (.cells cs 56)=W0:=⟨_,rfl⟩
 have hB0:Below w.heap.size w W0:=by rw [← hW0];exact aA
 have HX0:Hid (au W0 w.heap.size #[.slice (some ⟨b,off,none⟩) m.length cap] 44):=zh (by rw [← hW0];exact aJ)
 have zw:au W0 (w.heap.size+1) cs 56:=by rw [← hW0];exact aJ
 have HM:=zh (fK.xS (f:=Da m) zw LX.out)
 rw [hW0]
 clear hW0 zw hmk
 go_loopw [14] (fun iv wr=>∃ c:Nat,iv= .int .i64 (c:Int)∧c≤n∧Hid (fK wr (w.heap.size+1) n c (Da m))∧Hid (au wr w.heap.size #[.slice (some ⟨b,off,none⟩) m.length cap] 44)∧Below w.heap.size w wr) (fun iv _=>n - (intOf iv).toNat)
 case atStart=>exact ⟨0,rfl,by omega,HM,HX0,hB0⟩
 case round =>
  clear HM HX0 hB0
  obtain ⟨c,rfl,hcn,HM,HX,hb⟩:=hrel
  have lM:=HM.out.lt
  rcases Nat.lt_or_ge c n with hlt|hge
  ·have hlt2:(c:Int)<(n:Int):=by omega
   go_wp2_with fail
   refine (HT.out _ c _ hb hlt HX.out).mono ?_
   rintro e w2 ⟨v',rfl,hc2,hfr⟩
   obtain ⟨a',cap',rfl, -⟩:=hfr.read
   have zF:=zh hfr
   have hM2:=HM.out.later hc2
   obtain ⟨⟨y1,GD⟩,fy⟩:=hM2.cell hlt
   have P7:=zh hM2
   have lM2:=hM2.lt
   have isM:=hM2.uL
   have hx2:=HX.out.later hc2
   clear hM2 hfr
   go_wp2_with fail
   go_roundw
   case rel =>
    refine ⟨c+1,by go_num,by omega,zh (P7.out.step hlt ((gL.refl w2 _).set c _) (fun arr hA=>hA.set c _) (zF.out.kept (Keep.setCell isM) zd)),zh (hx2.setOther _ zi),(Bt hb hc2).setCell zi _⟩
   case measure=>exact zM
  ·have hnc:n=c:=by omega
   subst hnc
   have hmv:bQ wr (.slice (some ⟨w.heap.size+1,0,none⟩) n n) (kG m n):=by
    have e1:(kG m n).length=n:=by simp [kG]
    have:bQ wr (.slice (some ⟨w.heap.size+1,0,none⟩) (kG m n).length (kG m n).length) (kG m n):=by
     refine fK.Cy ?_ (by have:=HN4.out;omega)
     rw [e1]
     obtain ⟨arr,k1,k2,k3⟩:=HM.out
     refine ⟨arr,k1,k2,fun i hi=>?_⟩
     have e2:(kG m n).getD i []=Da m i:=by simp [kG,hi]
     show ∃ v,arr[i]? =some v∧jL wr 36 v ((kG m n).getD i [])
     rw [e2]
     exact k3 i hi
    rw [e1] at this
    exact this
   have vT:=zh hmv
   clear hmv
   go_wp2_with fail
   go_ret
   exact ⟨_,rfl,hb,vT.out⟩
end Go.Proofs.matrix
namespace Go.Proofs.matrix
open Go Go.RowKit Go.SW Go.Num Go.Mem Go.Proofs Go.Dec Go.dx
theorem Fh (f:Nat→Int):∀ n,qW f n=wE f n
 | 0=>rfl
 | n+1=>by simp only [qW,wE];rw [Fh f n]
theorem an7:(Tryz.prog.info? 36).map (fun i=>(i.zero,i.size,i.bytes))=some (some (.agg #[.string ⟨#[]⟩,.string ⟨#[]⟩]),2,32):=by kernel_rfl
def xI (w:World) (xs:List Rat) (e:Ending) (w':World):Prop :=
 (xs.all dz=true∧∃ vo,e= .returned (.tuple #[vo,.int .i64 0])∧Below w.heap.size w w'∧jL w' 36 vo (xs.map Fr.of)) ∨
 (xs.all dz=false∧e= .returned (.tuple #[.slice none 0 0,.int .i64 6])∧Below w.heap.size w w')
def RM.ok (m:RM) (n:Nat):Prop:=1≤m.length∧m.length≤4∧1≤n∧n≤4∧∀ r∈m,r.length=n∧∀ q∈r,dz q=true
theorem F9 {qs:List Rat} (h:∀ q∈qs,dz q=true):dK (qs.map Fr.of)=0:=by
 unfold dK
 rw [if_pos]
 rw [List.all_eq_true]
 intro a ha
 obtain ⟨q,hq,rfl⟩:=List.mem_map.1 ha
 rw [jc (h q hq)]
 rfl
theorem RM.ok.za {m:RM} {n:Nat} (h:m.ok n):qz m.fr=0:=by
 obtain ⟨h1,h2,h3,h4,h5⟩:=h
 unfold qz
 rw [if_pos]
 unfold Fv RM.fr
 cases m with
 | nil=>simp at h1
 | cons r t =>
  have hr:=h5 r zi
  simp only [List.map_cons,List.headD_cons,List.length_map,Bool.and_eq_true,decide_eq_true_eq]
  refine ⟨⟨⟨⟨by simp,by simpa using h2⟩,by omega⟩,by omega⟩,?_⟩
  rw [List.all_eq_true]
  intro x hx
  have key:∀ s∈r::t,((s.map Fr.of).length == r.length&&dK (s.map Fr.of) == 0)=true:=fun s hs=>by
   have hs2:=h5 s hs
   rw [F9 hs2.2,List.length_map,hs2.1,hr.1]
   simp
  rcases List.mem_cons.1 hx with rfl|hx
  ·exact key r zi
  ·obtain ⟨s,hs,rfl⟩:=List.mem_map.1 hx
   exact key s (by simp [hs])
theorem bQ.head {w:World} {v:Value} {m:RM} (h:bQ w v m.fr) (h0:0<m.length) :
  ∃ b off cap a0 cap0,v= .slice (some ⟨b,off,none⟩) m.length cap∧b<w.heap.size∧w.cell? ⟨b,off,none⟩=some (.slice a0 (m.headD []).length cap0):=by
 obtain ⟨rs,hR,hlen,hF⟩:=h
 have hl:m.fr.length=m.length:=List.length_map _
 rcases hR.cases with ⟨rfl,rfl⟩|⟨b,off,cap,arr,rfl,k1,k2,k3,k4⟩
 ·simp at hlen;omega
 ·have h0r:0<rs.length:=by omega
  obtain ⟨a0,cap0,e0, -⟩:=(hF 0 h0r zo).read
  refine ⟨b,off,cap,a0,cap0,by rw [hlen,hl],k3.lt,?_⟩
  have:=(k3.cell (off+0)).trans (k4 0 h0r)
  rw [e0] at this
  cases m with
  | nil=>simp at h0
  | cons r t=>simpa [RM.fr] using this
theorem Cb {w:World} {g:Nat} {T:TypeId} {n k:Nat} {f:Nat→Fr} (h:Fill w g T n k (xM f)) {a:Addr} (u:Value) (hne:g≠a.block):Fill (w.setCell a u) g T n k (xM f):=by
 obtain ⟨arr,h1,h2,h3⟩:=h
 exact ⟨arr,h1.setOther u hne,h2,h3⟩
theorem rD {w:World} {va:Option Addr} {na ca:Nat} {xss:List (List Int)} (h:BQ w (.slice va na ca) xss) :
  na=xss.length∧∀ k (_:k<xss.length),∃ b off pa n cc,va=some ⟨b,off,none⟩∧b<w.heap.size∧w.cell? ⟨b,off+k,none⟩=some (.slice pa n cc)∧bZ w (.slice pa n cc) xss[k]:=by
 obtain ⟨rs,hR,hl,hF⟩:=h
 rcases hR.cases with ⟨h1,h2⟩|⟨b,off,cap,arr,h1, -, -, h4,h5⟩
 ·simp only [Value.slice.injEq] at h1
  subst h2
  have hl0:0=xss.length:=hl
  exact ⟨by omega,fun k hk=>absurd hk zo⟩
 ·simp only [Value.slice.injEq] at h1
  refine ⟨by rw [h1.2.1,hl],fun k hk=>?_⟩
  have hk2:k<rs.length:=by omega
  have hi:=hF k hk hk2
  obtain ⟨pa,cc,e, -⟩:=hi.read
  refine ⟨b,off,pa,_,cc,h1.1,h4.lt,?_,e ▸ hi⟩
  rw [h4.cell,h5 k hk2,e]
theorem rH {w:World} {va:Option Addr} {na ca:Nat} {ds:List Nat} (h:zl w (.slice va na ca) ds) :
  na=ds.length∧∀ k (_:k<ds.length),∃ b off pa n cc,va=some ⟨b,off,none⟩∧b<w.heap.size∧w.cell? ⟨b,off+k,none⟩=some (.slice pa n cc)∧aM w (.slice pa n cc) ds[k]:=by
 obtain ⟨rs,hR,hl,hF⟩:=h
 rcases hR.cases with ⟨h1,h2⟩|⟨b,off,cap,arr,h1, -, -, h4,h5⟩
 ·simp only [Value.slice.injEq] at h1
  subst h2
  have hl0:0=ds.length:=hl
  exact ⟨by omega,fun k hk=>absurd hk zo⟩
 ·simp only [Value.slice.injEq] at h1
  refine ⟨by rw [h1.2.1,hl],fun k hk=>?_⟩
  have hk2:k<rs.length:=by omega
  have hi:=hF k hk hk2
  obtain ⟨pa,n,cc,e⟩:=hi.slice
  refine ⟨b,off,pa,n,cc,h1.1,h4.lt,?_,e ▸ hi⟩
  rw [h4.cell,h5 k hk2,e]
theorem BJ (v vl:Value) (m:RM) (qs:List Rat) (T:TypeId) (w:World) (h:bQ w v m.fr) (hl:jL w T vl (qs.map Fr.of)) (hm:m.ok qs.length) (hq:∀ q∈qs,dz q=true) (ht:pE.Pow w) :
  Calls Tryz.prog 33 #[v,vl] w (xI w (m.map fun r=>dH r qs)):=by
 have hm2:=hm
 obtain ⟨m1,m4,n1,n4,hrows⟩:=hm2
 obtain ⟨i0,hi,hz0,hz1,hz2⟩:=info_parts an7
 obtain ⟨b,off,cap,a0,cap0,rfl,lb,hc0⟩:=bQ.head h zo
 have hw0:(m.headD []).length=qs.length:=by
  cases m with
  | nil=>simp at m1
  | cons r t=>exact (hrows r zi).1
 rw [hw0] at hc0
 obtain ⟨al,ae7,rfl,Sl,Po, -⟩:=hl.read
 have Qo:=zh (fun w' hb=>gW _ m.fr w' (h.later hb))
 rw [hm.za] at Qo
 have Ul:=zh (fun w' hb=>nO _ (qs.map Fr.of) T w' (hl.later hb))
 rw [F9 hq] at Ul
 have LV:=zh (fun w' hb=>uh _ m w' (h.later hb) m4 (fun r hr=>⟨by have:=(hrows r hr).1;omega,(hrows r hr).2⟩))
 have HCM:=zh (fun w' hb=>DW _ qs T w' (hl.later hb) hq zo)
 have hln:(qs.map Fr.of).length=qs.length:=List.length_map _
 rw [hln] at Ul HCM Sl ⊢
 have ax5:=zh hrows
 have HQ:=zh hq
 have HT:=zh ht
 clear h hl hm hq ht hrows hw0 hln
 have h0m:0<m.length:=by omega
 go_enter Tryz.func33,Tryz.ntmps33
 go_wp2_with fail
 refine (Qo.out _ (Below.refl _ _)).mono ?_
 rintro e v1 ⟨rfl,hc1⟩
 go_wp2_with fail
 refine (Ul.out _ hc1).mono ?_
 rintro e v2 ⟨rfl,hc2⟩
 have c0:=((Bt hc1 hc2).cell (p:=⟨b,off,none⟩) lb).trans hc0
 go_wp2_with fail
 refine (LV.out _ (Bt hc1 hc2)).mono ?_
 rintro e v3 ⟨vt,rfl,hc3,htab⟩
 obtain ⟨va,na,ca,vb,nb,cb,rfl,hrw,hmg⟩:=htab
 have HRW:=zh hrw
 have HMG:=zh hmg
 clear hrw hmg
 go_wp2_with fail
 refine (HCM.out _ (bL (Bt (Bt hc1 hc2) hc3) _)).mono ?_
 rintro e v4 ⟨vtt,vd,rfl,hc4,hv1,hv2⟩
 obtain ⟨at',ct',rfl, -⟩:=hv1.read
 obtain ⟨ad,nd,cd,rfl⟩:=hv2.slice
 have Xy:=(au.new v3 #[.slice va na ca,.slice vb nb cb] 93).later hc4
 have hbv:Below v3.heap.size v3 v4:=Bt (bL (Below.refl _ _) _) hc4
 replace HRW:=zh (HRW.out.later hbv)
 replace HMG:=zh (HMG.out.later hbv)
 have HVT:=zh hv1
 have HVD:=zh hv2
 have hbw:Below w.heap.size w v4:=Bt (Bt (Bt hc1 hc2) hc3) hbv
 have htl:(qs.map (jN (cB qs))).length=qs.length:=List.length_map _
 rw [htl] at HVT ⊢
 obtain ⟨B8,hB8⟩:∃ x,v3.heap.size=x:=⟨_,rfl⟩
 rw [hB8] at Xy ⊢
 have HX8:=zh Xy
 clear hv1 hv2 hbv Xy hB8 htl
 go_wp2_with (at_make;refine wpList_make_full _ rfl _ _ 56 rfl w.heap.size 36 i0 (.agg #[.string ⟨#[]⟩,.string ⟨#[]⟩]) 2 Tryz.underlying56 hi hz0 hz1 _ _ _ _ m.length rfl rfl zo zo (by rw [hz2];omega) (by unfold maxLen;omega) hbw.size ?_)
 intro w5 hown hgrow
 have hb5:Below v4.heap.size v4 w5:=(Below.refl _ _).grown hgrow (Nat.le_refl _) (fun k hk=>by cases hk)
 have HF:=zh (Fill.start (ok:=xM (fun i=>Fr.of (dH (m.getD i []) qs))) hown)
 have hG:w.heap.size≤v4.heap.size:=hbw.size
 obtain ⟨hna,ap3⟩:=rD HRW.out
 obtain ⟨hnb,ap2⟩:=rH HMG.out
 have hl1:(m.map gU).length=m.length:=List.length_map _
 have hl2:(m.map cB).length=m.length:=List.length_map _
 rw [hl1] at hna
 rw [hl2] at hnb
 subst hna hnb
 have HR1:=zh ap3
 have HR2:=zh ap2
 clear hown hgrow ap3 ap2 hl1 hl2 HRW HMG
 go_wp2_with fail
 go_loopw [44] (fun iv wr=>∃ k:Nat,iv= .int .i64 (k:Int)∧k≤m.length∧Hid (Fill wr v4.heap.size 36 m.length k (xM (fun i=>Fr.of (dH (m.getD i []) qs))))∧Hid (∀ i,i<k→dz (dH (m.getD i []) qs)=true)∧Below v4.heap.size v4 wr) (fun iv _=>m.length - (intOf iv).toNat)
 case atStart=>exact ⟨0,rfl,by omega,HF,zh (fun i h=>by omega),hb5⟩
 case round =>
  obtain ⟨k,rfl,hk,HF,HK,hb⟩:=hrel
  have Xy:=HX8.out.later hb
  have c8:=Xy.cell
  have l8:=Xy.lt
  rcases Nat.lt_or_ge k m.length with hlt|hge
  ·obtain ⟨b1,off1,p1,n1,d1,rfl,e2,e3,e4⟩:=HR1.out k (by rw [List.length_map];exact hlt)
   obtain ⟨b2,off2,p2,n2,d2,rfl,f2,f3,f4⟩:=HR2.out k (by rw [List.length_map];exact hlt)
   have cr:=(hb.cell (p:=⟨b1,off1+k,none⟩) e2).trans e3
   have cm:=(hb.cell (p:=⟨b2,off2+k,none⟩) f2).trans f3
   have hlt2:(k:Int)<(m.length:Int):=by omega
   have hrow:=ax5.out m[k] (List.getElem_mem _)
   have hgd:m.getD k []=m[k]:=by simp [hlt]
   simp only [List.getElem_map] at e4 f4
   have H4:=zh (e4.later hb)
   have G4:=zh (f4.later hb)
   have VI:=HVT.out.later hb
   have aI0:=zh VI
   have WU:=zh (HVD.out.later hb)
   have WW:=zh hrow
   have HGD:=zh hgd
   have lG:=HF.out.lt
   clear e2 e3 e4 f2 f3 f4 hrow hgd VI
   generalize m[k]=r at *
   have hrl:=WW.out.1
   have htl:(gU r).length=r.length:=List.length_map _
   have Qa:=zh (fun w' hb=>Tj _ _ (gU r) (qs.map (jN (cB qs))) w' (H4.out.later hb) (aI0.out.later hb) (by rw [htl,List.length_map,hrl]) zo zo
    (fun i=>Nat.le_trans (nN WW.out.2 zo i) zo) (fun i=>Nat.le_trans (nN HQ.out n4 i) zo))
   have hcr:=rz r WW.out.2
   have hcq:=rz qs HQ.out
   have hpr:=(jD r).1
   have hpq:=(jD qs).1
   have hprod:=Nat.mul_pos hpr hpq
   have hsp:=qO (B:=1000000000) zo (cB r) (cB qs)
   have Bg:=Tk (r:=r) (s:=qs) hrl.symm
   have KR:=zh (show sz 1000000000 (cB r)≤1099511627776 by omega)
   have KQ:=zh (show sz 1000000000 (cB qs)≤1099511627776 by omega)
   have hz1:sz 1000000000 (yu (gU r) (qs.map (jN (cB qs)))).natAbs≤549755813888:=by
    unfold yu
    have:=oM (fun i=>(gU r).getD i 0*(qs.map (jN (cB qs))).getD i 0) 2000 (fun i=>by
     have h1:=jo ((gU r).getD i 0) ((qs.map (jN (cB qs))).getD i 0)
     have h2:=nN WW.out.2 zo i
     have h3:=nN HQ.out n4 i
     unfold gU at *
     omega) (gU r).length
    omega
   have hzd:yu (gU r) (qs.map (jN (cB qs)))=wE (fun i=>(r.map (jN (cB r))).getD i 0*(qs.map (jN (cB qs))).getD i 0) r.length:=by
    unfold yu
    rw [htl,Fh]
    rfl
   rw [← hzd] at Bg
   obtain ⟨z,EZ⟩:∃ x:Int,Hid (yu (gU r) (qs.map (jN (cB qs)))=x):=⟨_,zh rfl⟩
   obtain ⟨D,ED⟩:∃ x:Nat,Hid (cB r*cB qs=x):=⟨_,zh rfl⟩
   rw [EZ.out] at Qa hz1 Bg
   rw [ED.out] at hprod hsp Bg
   have KZ:=zh hz1
   have KD:Hid (sz 1000000000 ((D:Nat):Int).natAbs≤549755813888):=zh (by rw [Int.natAbs_natCast];omega)
   have ND:Hid (((D:Nat):Int)≠0):=zh zo
   have SD:Hid (jg D false=((D:Nat):Int)):=zh rfl
   have HW:Hid ((z:Rat) / ((((D:Nat):Int)):Rat)=dH r qs):=zh (by rw [Rat.intCast_natCast];exact Bg)
   clear hrl htl hcr hcq hpr hpq hprod hsp Bg hz1 hzd
   obtain ⟨q,EQ⟩:∃ x:Rat,Hid (dH r qs=x):=⟨_,zh rfl⟩
   rw [EQ.out] at HW
   go_wp2_with fail
   refine aC [(.pure,0),(.read,1),(.pure,2),(.pure,3),(.read,4),(.pure,5),(.pure,7),(.read,8),(.pure,9),(.pure,10),(.read,11),(.pure,12),(.ext,6),(.ext,13),(.ext,14),(.ext,15),(.pure,16),(.pure,17),(.pure,18),(.alloc #[.string ⟨#[]⟩,.string ⟨#[]⟩] 36,19),(.fin,20),(.fin,21)] zk zk zR zP ?_
   repeat (first|(refine ah rfl rfl fun J h=>?_;go_simp;refine h _ ?_;clear h J)|(refine aB rfl rfl rfl rfl fun J h=>?_;go_simp;refine h _ ?_;clear h J;try go_simp))
   refine aD rfl rfl (fun w11 zx J hJ=>?_);go_simp
   replace G4:=zh (aM.carry G4.out aG zx)
   replace WU:=zh (aM.carry WU.out aG zx)
   refine (Qa.out _ aA).mono ?_
   rintro e v11 ⟨v,rfl,uN,hv⟩
   obtain ⟨am8,lHz,aw6,rfl,Hz⟩:=hv;replace Hz:=zh Hz
   replace G4:=zh (aM.later G4.out uN)
   replace WU:=zh (aM.later WU.out uN)
   refine hJ _ _ uN ?_
   clear hJ J
   refine aD rfl rfl (fun w12 iE J hJ=>?_);go_simp
   replace Hz:=zh (aM.later Hz.out iE)
   refine ((jl _ _ (cB r) (cB qs) _ aG aG KR.out KQ.out).mono (by rw [ED.out];exact fun _ _ h=>h)).mono ?_
   rintro e v12 ⟨v,rfl,CY,hv⟩
   obtain ⟨am9,lHm,aw7,rfl⟩:=hv.slice;have Hm:=zh hv;clear hv
   replace Hz:=zh (aM.later Hz.out CY)
   refine hJ _ _ CY ?_
   clear hJ J
   refine aD rfl rfl (fun w13 fF J hJ=>?_);go_simp
   replace Hz:=zh (aM.later Hz.out fF)
   refine ((dV _ D false _ aG).mono (by rw [SD.out];exact fun _ _ h=>h)).mono ?_
   rintro e v13 ⟨v,rfl,V3,hv⟩
   obtain ⟨OH,lHs,PK,rfl,Hs⟩:=hv;replace Hs:=zh Hs
   replace Hz:=zh (aM.later Hz.out V3)
   refine hJ _ _ V3 ?_
   clear hJ J
   have hq2:dz q=true∨dz q=false:=by cases dz q<;>simp
   rcases hq2 with hq2|hq2
   ·have NJ:Hid (Fr.res (dx.wr q)= .tuple #[.agg #[.string (Fr.of q).n,.string (Fr.of q).d],.int .i64 0]):=zh (by unfold dx.wr;rw [if_pos hq2];rfl)
    have Gm:=zh hq2
    clear hq2
    obtain ⟨s1,N9⟩:∃ x:ByteArray,Hid ((Fr.of q).n=x):=⟨_,zh rfl⟩
    obtain ⟨s2,N8⟩:∃ x:ByteArray,Hid ((Fr.of q).d=x):=⟨_,zh rfl⟩
    rw [N9.out,N8.out] at NJ
    refine aD rfl rfl (fun Xp IB J hJ=>?_);go_simp
    refine ((jO _ _ z ((D:Nat):Int) _ (aX.aV aG) (aX.aV aG) ND.out KZ.out KD.out (HT.out.later aA)).mono (by rw [HW.out,NJ.out];exact fun _ _ h=>h)).mono ?_
    rintro e v14 ⟨rfl,aa7⟩
    refine hJ _ _ aa7 ?_
    clear hJ J
    repeat (first|(refine ah rfl rfl fun J h=>?_;go_simp;refine h _ ?_;clear h J)|(refine aB rfl rfl rfl rfl fun J h=>?_;go_simp;refine h _ ?_;clear h J;try go_simp))
    refine aR rfl (fun b13 w6 O7 DJ R5 XP eF=>?_);go_simp;replace eF:au _ _ _ _:=eF;have M6:w.heap.size≤b13:=(by first|omega|exact Nat.le_trans (Below.size (B:=w.heap.size) aA) DJ)
    refine aI [_,_] rfl (fun w7 dQ=>?_)
    replace eF:=au.later (eF) dQ;replace BH:=eF.cell;replace Bu:=eF.free;replace AZ:=eF.lt
    replace HF:Hid (Fill w7 v4.heap.size 36 m.length k (xM (fun i=>Fr.of (dH (m.getD i []) qs)))):=zh (HF.out.later aA (fun _ _ _ h=>h))
    have hN:wr.heap.size≤b13:=DJ
    have ne1:v4.heap.size≠b13:=by omega
    have ne2:b13≠v4.heap.size:=by omega
    obtain ⟨⟨y1,GD⟩,⟨y2,Ya⟩,fy⟩:=HF.out.cells hlt
    have hF2:=zh (Cb (Cb HF.out (a:=⟨b13,0,none⟩) (.string s1) ne1) (a:=⟨b13,1,none⟩) (.string s2) ne1)
    have dQ:Below v4.heap.size v4 w7:=aA
    have hle:v4.heap.size≤b13:=by omega
    go_wp2_with fail
    go_roundw
    case rel =>
     refine ⟨k+1,by go_num,by omega,zh (hF2.out.step hlt (fun _ _ _ h=>h) ⟨?_,?_⟩),zh fun i hi=>?_,(((dQ.setCell hle _).setCell hle _).setCell (Nat.le_refl _) _).setCell (Nat.le_refl _) _⟩
     ·show Value.string s1= .string (Fr.of (dH (m.getD k []) qs)).n
      rw [HGD.out,EQ.out,N9.out]
     ·show Value.string s2= .string (Fr.of (dH (m.getD k []) qs)).d
      rw [HGD.out,EQ.out,N8.out]
     ·rcases Nat.lt_or_ge i k with h|h
      ·exact HK.out i h
      ·obtain rfl:i=k:=by omega
       rw [HGD.out,EQ.out]
       exact Gm.out
    case measure=>exact zM
   ·have NJ:Hid (Fr.res (dx.wr q)= .tuple #[.agg #[.string ⟨#[]⟩,.string ⟨#[]⟩],.int .i64 6]):=zh (rZ hq2)
    have hbad:(m.map fun r=>dH r qs).all dz=false:=by
     rw [List.all_eq_false]
     have hkm:k<(m.map fun r=>dH r qs).length:=by rw [List.length_map];exact hlt
     refine ⟨(m.map fun r=>dH r qs)[k],List.getElem_mem _,?_⟩
     have e1:(m.map fun r=>dH r qs)[k]=dH (m.getD k []) qs:=by simp [hlt]
     rw [e1,HGD.out,EQ.out,hq2]
     simp
    have HBAD:=zh hbad
    clear hq2 hbad
    refine aD rfl rfl (fun Xp IB J hJ=>?_);go_simp
    refine ((jO _ _ z ((D:Nat):Int) _ (aX.aV aG) (aX.aV aG) ND.out KZ.out KD.out (HT.out.later aA)).mono (by rw [HW.out,NJ.out];exact fun _ _ h=>h)).mono ?_
    rintro e v14 ⟨rfl,aa7⟩
    refine hJ _ _ aa7 ?_
    clear hJ J
    repeat (first|(refine ah rfl rfl fun J h=>?_;go_simp;refine h _ ?_;clear h J)|(refine aB rfl rfl rfl rfl fun J h=>?_;go_simp;refine h _ ?_;clear h J;try go_simp))
    refine aR rfl (fun b13 w6 O7 DJ R5 XP eF=>?_);go_simp;replace eF:au _ _ _ _:=eF;have M6:w.heap.size≤b13:=(by first|omega|exact Nat.le_trans (Below.size (B:=w.heap.size) aA) DJ)
    refine aI [_,_] rfl (fun w7 dQ=>?_)
    replace eF:=au.later (eF) dQ;replace BH:=eF.cell;replace Bu:=eF.free;replace AZ:=eF.lt
    have aF4:Below w.heap.size w w7:=aA
    go_wp2_with fail
    go_ret2
    exact .inr ⟨HBAD.out,rfl,(aF4.setCell M6 _).setCell M6 _⟩
  ·obtain rfl:k=m.length:=by omega
   have hall:(m.map fun r=>dH r qs).all dz=true:=by
    rw [List.all_eq_true]
    intro q hq
    obtain ⟨i,hi,rfl⟩:=List.getElem_of_mem hq
    have hi2:i<m.length:=by rw [List.length_map] at hi;exact hi
    have:=HK.out i hi2
    simpa [hi2] using this
   have hfr:jL wr 36 (.slice (some ⟨v4.heap.size,0,none⟩) m.length m.length) ((m.map fun r=>dH r qs).map Fr.of):=by
    have hll:((m.map fun r=>dH r qs).map Fr.of).length=m.length:=by simp
    have as4:Fill wr v4.heap.size 36 ((m.map fun r=>dH r qs).map Fr.of).length ((m.map fun r=>dH r qs).map Fr.of).length (xM fun i=>((m.map fun r=>dH r qs).map Fr.of).getD i Fr.no):=by
     rw [hll]
     obtain ⟨arr,g1,g2,g3⟩:=HF.out
     refine ⟨arr,g1,g2,fun i hi=>?_⟩
     obtain ⟨x,y,y1,y2,y3,y4⟩:=g3 i hi
     refine ⟨x,y,y1,y2,?_⟩
     have e:((m.map fun r=>dH r qs).map Fr.of).getD i Fr.no=Fr.of (dH (m.getD i []) qs):=by simp [hi]
     exact ⟨by show x= .string (((m.map fun r=>dH r qs).map Fr.of).getD i Fr.no).n;rw [e];exact y3,by show y= .string (((m.map fun r=>dH r qs).map Fr.of).getD i Fr.no).d;rw [e];exact y4⟩
    have:=jL.um as4 (by rw [hll];omega)
    rw [hll] at this
    exact this
   have zF:=zh hfr
   have Ca:=zh hall
   clear hfr hall
   go_wp2_with fail
   go_ret2
   exact .inl ⟨Ca.out,_,rfl,Bt hbw hb,zF.out⟩
def F8 (m:RM) (c:Nat):List Rat:=m.map fun r=>r.getD c 0
def jK (m:RM) (n:Nat):RM:=(List.range n).map (F8 m)
def jd (a b:RM) (n:Nat):RM:=a.map fun r=>(List.range n).map fun c=>dH r (F8 b c)
def iF (m:RM):Bool:=m.all fun r=>r.all dz
theorem Dl {m:RM} {n:Nat} (h:m.ok n):kG m.fr n=(jK m n).fr:=by
 obtain ⟨-, -, -, -, h5⟩:=h
 unfold kG jK RM.fr
 rw [List.map_map]
 refine List.map_congr_left fun c hc=>?_
 have hcn:c<n:=List.mem_range.1 hc
 unfold Da F8
 simp only [Function.comp,List.map_map]
 refine List.map_congr_left fun r hr=>?_
 have:=(h5 r hr).1
 simp [this,hcn]
theorem Jc {m:RM} {n:Nat} (h:m.ok n):(jK m n).ok m.length:=by
 obtain ⟨h1,h2,h3,h4,h5⟩:=h
 refine ⟨by simp [jK];omega,by simp [jK];omega,h1,h2,fun r hr=>?_⟩
 obtain ⟨c,hc,rfl⟩:=List.mem_map.1 hr
 have hcn:c<n:=List.mem_range.1 hc
 refine ⟨by simp [F8],fun q hq=>?_⟩
 obtain ⟨s,hs,rfl⟩:=List.mem_map.1 hq
 obtain ⟨k1,k2⟩:=h5 s hs
 have e:s.getD c 0=s[c]'zo:=by simp [k1,hcn]
 rw [e]
 exact k2 _ (List.getElem_mem _)
theorem Ij (va vb:Value) (ma mb:RM) (n:Nat) (w:World) (ha:bQ w va ma.fr) (hb:bQ w vb mb.fr) (Rk:ma.ok mb.length) (UD:mb.ok n) (ht:pE.Pow w) :
  Calls Tryz.prog 25 #[va,vb] w (aQ w (if iF (jd ma mb n) then 0 else 6) (jd ma mb n).fr):=by
 have Kk:=Rk
 obtain ⟨a1,a4,b1,b4,oz⟩:=Rk
 have Vn:=UD
 obtain ⟨_,_,n1,n4,K7⟩:=UD
 obtain ⟨ba,Za,aH1,a0,cap0,rfl,lba,Yf⟩:=bQ.head ha zo
 obtain ⟨bb,an1,aV8,b0,aK5,rfl,RO,cb0⟩:=bQ.head hb zo
 have hwa:(ma.headD []).length=mb.length:=by
  cases ma with
  | nil=>simp at a1
  | cons r t=>exact (oz r zi).1
 have hwb:(mb.headD []).length=n:=by
  cases mb with
  | nil=>simp at b1
  | cons r t=>exact (K7 r zi).1
 rw [hwa] at Yf
 rw [hwb] at cb0
 have Qo:=zh (fun w' hx=>gW _ ma.fr w' (ha.later hx))
 rw [Kk.za] at Qo
 have Ul:=zh (fun w' hx=>gW _ mb.fr w' (hb.later hx))
 rw [Vn.za] at Ul
 have xJ:=zh (fun w' hx=>uh _ ma w' (ha.later hx) a4 (fun r hr=>⟨by have:=(oz r hr).1;omega,(oz r hr).2⟩))
 have HTR:=zh (fun w' hx=>Ct _ mb.fr n w' (hb.later hx) (by simpa [RM.fr] using b1) (by simpa [RM.fr] using b4) n4 (fun r hr=>by
  obtain ⟨s,hs,rfl⟩:=List.mem_map.1 hr
  simpa using (K7 s hs).1))
 rw [Dl Vn] at HTR
 have MH:=Jc Vn
 obtain ⟨mc,Emc⟩:∃ y:RM,Hid (jK mb n=y):=⟨_,zh rfl⟩
 have hcl:mc.length=n:=by rw [← Emc.out];simp [jK]
 have hcg:∀ c,c<n→mc.getD c []=F8 mb c:=fun c hc=>by rw [← Emc.out];simp [jK,hc]
 rw [Emc.out] at HTR MH
 have HRC:=zh (fun v w' (hx:bQ w' v mc.fr)=>uh v mc w' hx zo (fun r hr=>⟨by have:=(MH.2.2.2.2 r hr).1;omega,(MH.2.2.2.2 r hr).2⟩))
 obtain ⟨E,EE⟩:∃ E:Nat→Nat→Rat,E=fun i c=>dH (ma.getD i []) (mc.getD c []):=⟨_,rfl⟩
 have JM:Hid (∀ i,i<ma.length→(jd ma mb n).getD i []=(List.range n).map (E i)):=zh fun i hi=>by
  rw [EE]
  simp only [jd,List.getD_eq_getElem?_getD,List.getElem?_map,List.getElem?_eq_getElem hi,Option.map_some,Option.getD_some]
  refine List.map_congr_left fun c hc=>?_
  have:=hcg c (List.mem_range.1 hc)
  rw [List.getD_eq_getElem?_getD] at this
  rw [this]
 have Gn:Hid ((jd ma mb n).length=ma.length):=zh (by simp [jd])
 have HAR:=zh oz
 have HOC:=zh MH
 have HT:=zh ht
 have HEE:Hid (∀ i c,dH (ma.getD i []) (mc.getD c [])=E i c):=zh fun i c=>by rw [EE]
 have Xh:=zh hcl
 clear ha hb Kk Vn oz K7 hwa hwb MH ht hcl hcg EE
 obtain ⟨na,hna⟩:∃ y,ma.length=y:=⟨_,rfl⟩
 obtain ⟨nb,hnb⟩:∃ y,mb.length=y:=⟨_,rfl⟩
 have Ym:=zh hna
 have HNB:=zh hnb
 rw [hna] at Qo xJ a1 a4 JM Gn ⊢
 rw [hnb] at b1 b4 Yf Ul HTR HAR HOC ⊢
 clear hna hnb
 have b0n:0<nb:=by omega
 have a0n:0<na:=by omega
 obtain ⟨er,vU⟩:∃ y:Int,Hid ((if iF (jd ma mb n) then 0 else 6)=y):=⟨_,zh rfl⟩
 obtain ⟨MM,EMM⟩:∃ y:RM,Hid (jd ma mb n=y):=⟨_,zh rfl⟩
 rw [vU.out]
 rw [EMM.out] at vU JM Gn ⊢
 clear EMM
 go_enter Tryz.func25,Tryz.ntmps25
 go_wp2_with fail
 refine (Qo.out _ (Below.refl _ _)).mono ?_
 rintro e v1 ⟨rfl,hc1⟩
 go_wp2_with fail
 refine (Ul.out _ hc1).mono ?_
 rintro e v2 ⟨rfl,hc2⟩
 have hw2:Below w.heap.size w v2:=Bt hc1 hc2
 have c1:=(hw2.cell (p:=⟨ba,Za,none⟩) lba).trans Yf
 have c2:=(hw2.cell (p:=⟨bb,an1,none⟩) RO).trans cb0
 go_wp2_with fail
 refine (xJ.out _ hw2).mono ?_
 rintro e v3 ⟨vt,rfl,hc3,htab⟩
 obtain ⟨Xv,Zd,Ye,YW,Zc,ca2,rfl,hra,hma⟩:=htab
 have LW:=zh hra
 have Gp:=zh hma
 have hw3:Below w.heap.size w v3:=Bt hw2 hc3
 clear hra hma c1 c2
 go_wp2_with fail
 refine (HTR.out _ hw3).mono ?_
 rintro e v4 ⟨vtr,rfl,hc4,hmt⟩
 have HMT:=zh hmt
 clear hmt
 go_wp2_with fail
 refine (HRC.out _ _ HMT.out).mono ?_
 rintro e v5 ⟨vt,rfl,kP,htab⟩
 obtain ⟨pb1,nb1,cb1,pb2,nb2,cb2,rfl,hrb,hmb⟩:=htab
 have ax7:=zh hrb
 have ay2:=zh hmb
 have h45:=Bt hc4 kP
 replace LW:=zh (LW.out.later h45)
 replace Gp:=zh (Gp.out.later h45)
 have UG:Below w.heap.size w v5:=Bt hw3 h45
 obtain ⟨PD,Bh,hmk⟩:=wJ na zo
 have LX:=zh Bh
 clear hrb hmb h45 Bh
 go_wp2_with fail
 obtain ⟨vb,Qq⟩:∃ y,(v5.alloc (.cells #[.slice Xv Zd Ye,.slice YW Zc ca2] 93)).alloc (.cells #[.slice pb1 nb1 cb1,.slice pb2 nb2 cb2] 93)=y:=⟨_,rfl⟩
 have hM:v5.heap.size+1+1=vb.heap.size:=by rw [← Qq];simp
 have h5b:Below v5.heap.size v5 vb:=by rw [← Qq];exact aA
 have WL:Hid (au vb v5.heap.size #[.slice Xv Zd Ye,.slice YW Zc ca2] 93):=zh (by rw [← Qq];exact aJ)
 have HX7:Hid (au vb (v5.heap.size+1) #[.slice pb1 nb1 cb1,.slice pb2 nb2 cb2] 93):=zh (by rw [← Qq];exact aJ)
 rw [Qq,hM]
 have hwb:Below w.heap.size w vb:=Bt UG h5b
 obtain ⟨hn1,hr1⟩:=rD (LW.out.later h5b)
 obtain ⟨hn2,hr2⟩:=rH (Gp.out.later h5b)
 obtain ⟨hn3,hr3⟩:=rD (ax7.out.later h5b)
 obtain ⟨Gz,hr4⟩:=rH (ay2.out.later h5b)
 rw [List.length_map,Ym.out] at hn1 hn2
 rw [List.length_map,Xh.out] at hn3 Gz
 replace hn1:=hn1.symm
 replace hn2:=hn2.symm
 replace hn3:=hn3.symm
 replace Gz:=Gz.symm
 subst hn1 hn2 hn3 Gz
 have HR1:=zh hr1
 have HR2:=zh hr2
 have HR3:=zh hr3
 have HR4:=zh hr4
 have HM:=zh (fK.xS (f:=fun i=>((List.range n).map (E i)).map Fr.of) (au.new vb PD 56) LX.out)
 have XQ:Below vb.heap.size vb (vb.alloc (.cells PD 56)):=aA
 obtain ⟨X6,EX6⟩:∃ y,v5.heap.size=y:=⟨_,rfl⟩
 rw [EX6] at WL HX7 ⊢
 have l6:X6<vb.heap.size:=WL.out.lt
 have l7:X6+1<vb.heap.size:=HX7.out.lt
 have csz:=hwb.size
 clear hr1 hr2 hr3 hr4 LW Gp ax7 ay2 HMT UG hw3 hw2 hc1 hc2 hc3 hc4 kP h5b hM EX6 Qo Ul xJ HTR HRC hmk LX Qq
 obtain ⟨GH,Iz,hmk⟩:=wK n zo
 have LX:=zh Iz
 clear Iz
 go_loopw [39] (fun iv wr=>∃ r:Nat,iv= .int .i64 (r:Int)∧r≤na∧Hid (fK wr vb.heap.size na r (fun i=>((List.range n).map (E i)).map Fr.of))∧Hid (∀ i,i<r→∀ c,c<n→dz (E i c)=true)∧Below vb.heap.size vb wr) (fun iv _=>na - (intOf iv).toNat)
 case atStart=>exact ⟨0,rfl,by omega,HM,zh (fun i h=>by omega),XQ⟩
 case round =>
  clear HM XQ
  obtain ⟨r,rfl,hr,HM,HK,hb⟩:=hrel
  obtain ⟨wo,hwo⟩:∃ y,y=wr:=⟨_,rfl⟩
  subst hwo
  have lM:=HM.out.lt
  rcases Nat.lt_or_ge r na with hlt|hge
  ·have hlt2:(r:Int)<(na:Int):=by omega
   have cbo:=((Bt hwb hb).cell (p:=⟨bb,an1,none⟩) RO).trans cb0
   have Zj:bb<wo.heap.size:=Nat.lt_of_lt_of_le RO (Bt hwb hb).size
   obtain ⟨⟨y1,GD⟩,fy⟩:=HM.out.cell hlt
   obtain ⟨qD,bM,hsz, -⟩:=HM.out
   have Qc:=zh bM
   have hrs:r<qD.size:=by omega
   clear bM hsz
   go_wp2_with fail
   clear GD fy cbo Zj
   have hGM:wo.heap.size≠vb.heap.size:=by omega
   have Pt:vb.heap.size≠wo.heap.size:=by omega
   have XO:au ((wo.setCell ⟨vb.heap.size,r,none⟩ (.slice (some ⟨wo.heap.size,0,none⟩) n n)).alloc (.cells GH 36 (0,0))) wo.heap.size GH 36:=au.pJ zi
   have HF:=zh (show Fill _ wo.heap.size 36 n 0 (xM fun i=>Fr.of (E r i)) from ⟨GH,XO,LX.out,fun i hi=>by omega⟩)
   have HB:=zh ((Qc.out.set r (.slice (some ⟨wo.heap.size,0,none⟩) n n)).alloc (.cells GH 36 (0,0)))
   have HN:=zh (((gL.refl wo vb.heap.size).set r (.slice (some ⟨wo.heap.size,0,none⟩) n n)).below (w':=(wo.setCell ⟨vb.heap.size,r,none⟩ (.slice (some ⟨wo.heap.size,0,none⟩) n n)).alloc (.cells GH 36 (0,0))) aA)
   clear XO
   go_loopw [55] (fun iv wr=>∃ c:Nat,iv= .int .i64 (c:Int)∧c≤n∧Hid (Fill wr wo.heap.size 36 n c (xM fun i=>Fr.of (E r i)))∧Hid (∀ i,i<c→dz (E r i)=true)∧Hid (au wr vb.heap.size (qD.setIfInBounds r (.slice (some ⟨wo.heap.size,0,none⟩) n n)) 56)∧Hid (gL wo wr vb.heap.size)) (fun iv _=>n - (intOf iv).toNat)
   case atStart=>exact ⟨0,rfl,by omega,HF,zh (fun i h=>by omega),HB,HN⟩
   case round =>
    clear HF HB HN
    obtain ⟨c,rfl,hcn,HF,HKc,HB,HN⟩:=hrel
    rcases Nat.lt_or_ge c n with hcl|hcl
    ·have Po:(c:Int)<(n:Int):=by omega
     have hbv:Below vb.heap.size vb wr:=HN.out.toBelow hb (Nat.le_refl _)
     obtain ⟨b1,o1,p1,m1,d1,rfl,e2,e3,e4⟩:=HR1.out r (by rw [List.length_map,Ym.out];exact hlt)
     obtain ⟨b2,o2,p2,m2,d2,rfl,f2,f3,f4⟩:=HR2.out r (by rw [List.length_map,Ym.out];exact hlt)
     obtain ⟨b3,o3,p3,m3,d3,rfl,g2,g3,g4⟩:=HR3.out c (by rw [List.length_map,Xh.out];exact hcl)
     obtain ⟨b4',o4,p4,m4,d4,rfl,k2,k3,k4⟩:=HR4.out c (by rw [List.length_map,Xh.out];exact hcl)
     simp only [List.getElem_map] at e4 f4 g4 k4
     have q1:=(hbv.cell (p:=⟨b1,o1+r,none⟩) e2).trans e3
     have q2:=(hbv.cell (p:=⟨b2,o2+r,none⟩) f2).trans f3
     have q3:=(hbv.cell (p:=⟨b3,o3+c,none⟩) g2).trans g3
     have q4:=(hbv.cell (p:=⟨b4',o4+c,none⟩) k2).trans k3
     have x6:=(WL.out.later hbv).cell
     have x7:=(HX7.out.later hbv).cell
     have G1:=zh (e4.later hbv)
     have G2:=zh (f4.later hbv)
     have G3:=zh (g4.later hbv)
     have G4:=zh (k4.later hbv)
     have l1:=Nat.lt_of_lt_of_le e2 hbv.size
     have l2:=Nat.lt_of_lt_of_le f2 hbv.size
     have l3:=Nat.lt_of_lt_of_le g2 hbv.size
     have l4:=Nat.lt_of_lt_of_le k2 hbv.size
     have z6:=Nat.lt_of_lt_of_le l6 hbv.size
     have z7:=Nat.lt_of_lt_of_le l7 hbv.size
     clear e2 e3 e4 f2 f3 f4 g2 g3 g4 k2 k3 k4
     have HWB:=zh (show Below vb.heap.size vb wr from hbv)
     have hrm:r<ma.length:=by rw [Ym.out];exact hlt
     have hcm:c<mc.length:=by rw [Xh.out];exact hcl
     have hra:=HAR.out ma[r] (List.getElem_mem _)
     have hcc:=HOC.out.2.2.2.2 mc[c] (List.getElem_mem _)
     have hee:dH ma[r] mc[c]=E r c:=by
      have:=HEE.out r c
      rw [getD_lt hrm,getD_lt hcm] at this
      exact this
     have xJ:=zh hra
     have HCC:=zh hcc
     have Xf:=zh hee
     clear hra hcc hee HR1 HR2 HR3 HR4 WL HX7
     generalize ma[r]=ra at *
     generalize mc[c]=cc at *
     clear hrm hcm
     have htl:(gU ra).length=ra.length:=List.length_map _
     have htc:(gU cc).length=cc.length:=List.length_map _
     have hrl:=xJ.out.1
     have Sk:=HCC.out.1
     have Qa:=zh (fun w' (hx:Below wr.heap.size wr w')=>Tj _ _ (gU ra) (gU cc) w' (G1.out.later hx) (G3.out.later hx) (by rw [htl,htc,hrl,Sk]) zo zo
      (fun i=>Nat.le_trans (nN xJ.out.2 zo i) zo) (fun i=>Nat.le_trans (nN HCC.out.2 zo i) zo))
     have hcr:=rz ra xJ.out.2
     have hcq:=rz cc HCC.out.2
     have hpr:=(jD ra).1
     have hpq:=(jD cc).1
     have hprod:=Nat.mul_pos hpr hpq
     have hsp:=qO (B:=1000000000) zo (cB ra) (cB cc)
     have Bg:=Tk (r:=ra) (s:=cc) (by rw [Sk,hrl])
     have KR:=zh (show sz 1000000000 (cB ra)≤1099511627776 by omega)
     have KQ:=zh (show sz 1000000000 (cB cc)≤1099511627776 by omega)
     have hz1:sz 1000000000 (yu (gU ra) (gU cc)).natAbs≤549755813888:=by
      unfold yu
      have:=oM (fun i=>(gU ra).getD i 0*(gU cc).getD i 0) 2000 (fun i=>by
       have h1:=jo ((gU ra).getD i 0) ((gU cc).getD i 0)
       have h2:=nN xJ.out.2 zo i
       have h3:=nN HCC.out.2 zo i
       unfold gU at *
       omega) (gU ra).length
      omega
     have hzd:yu (gU ra) (gU cc)=wE (fun i=>(ra.map (jN (cB ra))).getD i 0*(cc.map (jN (cB cc))).getD i 0) ra.length:=by
      unfold yu
      rw [htl,Fh]
      rfl
     rw [← hzd] at Bg
     obtain ⟨z,EZ⟩:∃ x:Int,Hid (yu (gU ra) (gU cc)=x):=⟨_,zh rfl⟩
     obtain ⟨D,ED⟩:∃ x:Nat,Hid (cB ra*cB cc=x):=⟨_,zh rfl⟩
     rw [EZ.out] at Qa hz1 Bg
     rw [ED.out] at hprod hsp Bg
     have KZ:=zh hz1
     have KD:Hid (sz 1000000000 ((D:Nat):Int).natAbs≤549755813888):=zh (by rw [Int.natAbs_natCast];omega)
     have ND:Hid (((D:Nat):Int)≠0):=zh zo
     have SD:Hid (jg D false=((D:Nat):Int)):=zh rfl
     have HW:Hid ((z:Rat) / ((((D:Nat):Int)):Rat)=dH ra cc):=zh (by rw [Rat.intCast_natCast];exact Bg)
     clear htl htc hrl Sk hcr hcq hpr hpq hprod hsp Bg hz1 hzd
     rw [Xf.out] at HW
     obtain ⟨q,EQ⟩:∃ x:Rat,Hid (E r c=x):=⟨_,zh rfl⟩
     rw [EQ.out] at HW
     have Xa:=zh (HT.out.later (Bt hwb hbv))
     go_wp2_with fail
     refine aC [(.pure,0),(.read,1),(.pure,2),(.pure,3),(.read,4),(.pure,5),(.read,6),(.pure,7),(.pure,8),(.read,9),(.ext,10),(.fin,11)] zk zk zR zP ?_
     repeat (first|(refine ah rfl rfl fun J h=>?_;go_simp;refine h _ ?_;clear h J)|(refine aB rfl rfl rfl rfl fun J h=>?_;go_simp;refine h _ ?_;clear h J;try go_simp))
     refine aD rfl rfl (fun w21 Lc J hJ=>?_);go_simp
     replace G2:=zh (aM.carry G2.out aG Lc)
     replace G4:=zh (aM.carry G4.out aG Lc)
     refine ((jl _ _ (cB ra) (cB cc) _ aG aG KR.out KQ.out).mono (by rw [ED.out];exact fun _ _ h=>h)).mono ?_
     rintro e v21 ⟨v,rfl,hc21,hv⟩
     obtain ⟨am9,lHm,aw7,rfl⟩:=hv.slice;have Hm:=zh hv;clear hv
     replace G2:=zh (aM.later G2.out hc21)
     replace G4:=zh (aM.later G4.out hc21)
     refine hJ _ _ hc21 ?_
     clear hJ J
     refine aI [_] rfl (fun Xp IB=>?_)
     have vJ:Below wr.heap.size wr Xp:=aA
     replace Hm:=zh (Hm.out.later IB)
     have q1':=(vJ.cell (p:=⟨b1,o1+r,none⟩) l1).trans q1
     have q3':=(vJ.cell (p:=⟨b3,o3+c,none⟩) l3).trans q3
     have x6':=(vJ.cell (p:=⟨X6,0,none⟩) z6).trans (x6 0)
     have x7':=(vJ.cell (p:=⟨X6+1,0,none⟩) z7).trans (x7 0)
     clear q1 q2 q3 q4 x6 x7 IB Lc hc21 G2 G4
     have lG:=HF.out.lt
     have lMr:=HB.out.lt
     have aV3:=vJ.size
     go_wp2_with fail
     refine aC [(.pure,0),(.read,1),(.pure,2),(.pure,3),(.read,4),(.pure,5),(.read,6),(.pure,7),(.pure,8),(.read,9),(.pure,11),(.ext,10),(.ext,12),(.ext,13),(.pure,14),(.pure,15),(.pure,16),(.alloc #[.string ⟨#[]⟩,.string ⟨#[]⟩] 36,17),(.fin,18),(.fin,19)] zk zk zR zP ?_
     repeat (first|(refine ah rfl rfl fun J h=>?_;go_simp;refine h _ ?_;clear h J)|(refine aB rfl rfl rfl rfl fun J h=>?_;go_simp;refine h _ ?_;clear h J;try go_simp))
     refine aD rfl rfl (fun w31 SF J hJ=>?_);go_simp
     replace Hm:=zh (aM.carry Hm.out aG SF)
     refine (Qa.out _ aA).mono ?_
     rintro e v31 ⟨v,rfl,hc31,hv⟩
     obtain ⟨am8,lHz,aw6,rfl,Hz⟩:=hv;replace Hz:=zh Hz
     replace Hm:=zh (aM.later Hm.out hc31)
     refine hJ _ _ hc31 ?_
     clear hJ J
     refine aD rfl rfl (fun w32 ac1 J hJ=>?_);go_simp
     replace Hz:=zh (aM.later Hz.out ac1)
     refine ((dV _ D false _ aG).mono (by rw [SD.out];exact fun _ _ h=>h)).mono ?_
     rintro e v32 ⟨v,rfl,hc32,hv⟩
     obtain ⟨OH,lHs,PK,rfl,Hs⟩:=hv;replace Hs:=zh Hs
     replace Hz:=zh (aM.later Hz.out hc32)
     refine hJ _ _ hc32 ?_
     clear hJ J
     have hq2:dz q=true∨dz q=false:=by cases dz q<;>simp
     rcases hq2 with hq2|hq2
     ·have NJ:Hid (Fr.res (dx.wr q)= .tuple #[.agg #[.string (Fr.of q).n,.string (Fr.of q).d],.int .i64 0]):=zh (by unfold dx.wr;rw [if_pos hq2];rfl)
      have Gm:=zh hq2
      clear hq2
      obtain ⟨s1,N9⟩:∃ x:ByteArray,Hid ((Fr.of q).n=x):=⟨_,zh rfl⟩
      obtain ⟨s2,N8⟩:∃ x:ByteArray,Hid ((Fr.of q).d=x):=⟨_,zh rfl⟩
      rw [N9.out,N8.out] at NJ
      refine aD rfl rfl (fun w33 Lb J hJ=>?_);go_simp
      refine ((jO _ _ z ((D:Nat):Int) _ (aX.aV aG) (aX.aV aG) ND.out KZ.out KD.out (Xa.out.later aA)).mono (by rw [HW.out,NJ.out];exact fun _ _ h=>h)).mono ?_
      rintro e v33 ⟨rfl,K6⟩
      refine hJ _ _ K6 ?_
      clear hJ J
      repeat (first|(refine ah rfl rfl fun J h=>?_;go_simp;refine h _ ?_;clear h J)|(refine aB rfl rfl rfl rfl fun J h=>?_;go_simp;refine h _ ?_;clear h J;try go_simp))
      refine aR rfl (fun b17 w17 Zu DI ZG aw1 mI=>?_);go_simp;replace mI:au _ _ _ _:=mI;have av6:w.heap.size≤b17:=(by first|omega|exact Nat.le_trans (Below.size (B:=w.heap.size) aA) DI)
      refine aI [_,_] rfl (fun UC nI=>?_)
      replace mI:=au.later (mI) nI;replace TB:=mI.cell;replace Td:=mI.free;replace RL:=mI.lt
      have yg:Below wr.heap.size wr UC:=aA
      have ac9:Xp.heap.size≤b17:=DI
      replace HF:=zh (HF.out.yc yg)
      replace HB:=zh (HB.out.later yg)
      replace HN:=zh (HN.out.below yg)
      have ne1:wo.heap.size≠b17:=by omega
      have ne2:vb.heap.size≠b17:=by omega
      have Qk:wo.heap.size≤b17:=by omega
      clear q1' q3' x6' x7' vJ yg DI Qa Xa
      go_wp2_with fail
      obtain ⟨U2,E19⟩:∃ y,(UC.setCell ⟨b17,0,none⟩ (.string s1)).setCell ⟨b17,1,none⟩ (.string s2)=y:=⟨_,rfl⟩
      replace HF:=zh ((HF.out.other (a:=⟨b17,0,none⟩) (.string s1) ne1).other (a:=⟨b17,1,none⟩) (.string s2) ne1)
      replace HB:=zh ((HB.out.setOther (a:=⟨b17,0,none⟩) (.string s1) ne2).setOther (a:=⟨b17,1,none⟩) (.string s2) ne2)
      replace HN:=zh ((HN.out.gI Qk 0 (.string s1)).gI Qk 1 (.string s2))
      have qY:=(mI.set 0 (.string s1)).set 1 (.string s2)
      simp only [List.setIfInBounds_toArray,List.set_cons_zero,List.set_cons_succ] at qY
      rw [E19] at HF HB HN qY ⊢
      clear E19 mI TB Td RL
      have c17:=qY.cell
      have l17:=qY.lt
      have cM:=HB.out.cell r
      rw [Array.getElem?_setIfInBounds,if_pos rfl,if_pos hrs] at cM
      have lM9:=HB.out.lt
      refine aC [(.pure,0),(.pure,1),(.pure,2),(.read,3),(.pure,4),(.read,5),(.pure,6),(.fin,7)] zk zk zR zP ?_
      repeat (first|(refine ah rfl rfl fun J h=>?_;go_simp;refine h _ ?_;clear h J)|(refine aB rfl rfl rfl rfl fun J h=>?_;go_simp;refine h _ ?_;clear h J;try go_simp))
      refine aI [_] rfl (fun w20 sU=>?_)
      have FL:Below U2.heap.size U2 w20:=aA
      replace HF:=zh (HF.out.yc FL)
      replace HB:=zh (HB.out.later FL)
      replace HN:=zh (HN.out.below FL)
      obtain ⟨⟨y1,GD⟩,⟨y2,Ya⟩,fy⟩:=HF.out.cells hcl
      have aC6:=HF.out.lt
      clear sU FL c17 l17 cM lM9 qY
      go_wp2_with fail
      go_roundw
      case rel =>
       refine ⟨c+1,by go_num,by omega,zh (HF.out.step hcl (fun _ _ _ h=>h) ⟨?_,?_⟩),zh fun i hi=>?_,zh ((HB.out.setOther _ Pt).setOther _ Pt),zh ((HN.out.gI (Nat.le_refl _) _ _).gI (Nat.le_refl _) _ _)⟩
       ·show Value.string s1= .string (Fr.of (E r c)).n
        rw [EQ.out,N9.out]
       ·show Value.string s2= .string (Fr.of (E r c)).d
        rw [EQ.out,N8.out]
       ·rcases Nat.lt_or_ge i c with h|h
        ·exact HKc.out i h
        ·obtain rfl:i=c:=by omega
         rw [EQ.out]
         exact Gm.out
      case measure=>exact zM
     ·have NJ:Hid (Fr.res (dx.wr q)= .tuple #[.agg #[.string ⟨#[]⟩,.string ⟨#[]⟩],.int .i64 6]):=zh (rZ hq2)
      have hbad:iF MM=false:=by
       unfold iF
       rw [List.all_eq_false]
       refine ⟨MM.getD r [],?_,?_⟩
       ·rw [getD_lt (show r<MM.length by rw [Gn.out];exact hlt)]
        exact List.getElem_mem _
       ·rw [JM.out r hlt]
        simp only [List.all_map,Bool.not_eq_true]
        rw [List.all_eq_false]
        exact ⟨c,List.mem_range.2 hcl,by simp only [Function.comp];rw [EQ.out,hq2];simp⟩
      have her:er=6:=by rw [← vU.out,if_neg (by rw [hbad];simp)]
      have Gq:=zh her
      clear hq2 hbad her
      refine aD rfl rfl (fun w33 Lb J hJ=>?_);go_simp
      refine ((jO _ _ z ((D:Nat):Int) _ (aX.aV aG) (aX.aV aG) ND.out KZ.out KD.out (Xa.out.later aA)).mono (by rw [HW.out,NJ.out];exact fun _ _ h=>h)).mono ?_
      rintro e v33 ⟨rfl,K6⟩
      refine hJ _ _ K6 ?_
      clear hJ J
      repeat (first|(refine ah rfl rfl fun J h=>?_;go_simp;refine h _ ?_;clear h J)|(refine aB rfl rfl rfl rfl fun J h=>?_;go_simp;refine h _ ?_;clear h J;try go_simp))
      refine aR rfl (fun b17 w17 Zu DI ZG aw1 mI=>?_);go_simp;replace mI:au _ _ _ _:=mI;have av6:w.heap.size≤b17:=(by first|omega|exact Nat.le_trans (Below.size (B:=w.heap.size) aA) DI)
      refine aI [_,_] rfl (fun UC nI=>?_)
      replace mI:=au.later (mI) nI;replace TB:=mI.cell;replace Td:=mI.free;replace RL:=mI.lt
      have yg:Below w.heap.size w UC:=Bt (Bt hwb hbv) aA
      have ac9:Xp.heap.size≤b17:=DI
      have hwr:=(Bt hwb hbv).size
      clear q1' q3' x6' x7' vJ
      go_wp2_with fail
      go_ret2
      rw [Gq.out]
      exact aQ.no ((yg.setCell (by simp;omega) _).setCell (by simp;omega) _) zd
    ·have Sj:n=c:=by omega
     subst Sj
     go_wp2_with fail
     go_roundw
     case rel =>
      have hbv:Below vb.heap.size vb wr:=HN.out.toBelow hb (Nat.le_refl _)
      refine ⟨r+1,by go_num,by omega,zh (HM.out.step (v:=.slice (some ⟨wo.heap.size,0,none⟩) n n) hlt HN.out (fun arr hA=>?_) ?_),zh fun i hi c hc=>?_,hbv⟩
      ·have hAM:arr=qD:=dx.au.uniq hA Qc.out
       rw [hAM]
       exact HB.out
      ·refine Fill.C8 (HF.out.BF fun i hi=>?_) zi zo
       simp [hi]
      ·rcases Nat.lt_or_ge i r with h|h
       ·exact HK.out i h c hc
       ·obtain rfl:i=r:=by omega
        exact HKc.out c hc
     case measure=>exact zM
  ·have hrn:na=r:=by omega
   subst hrn
   have hall:iF MM=true:=by
    unfold iF
    rw [List.all_eq_true]
    intro x hx
    obtain ⟨i,hi,rfl⟩:=List.getElem_of_mem hx
    rw [Gn.out] at hi
    have e:=JM.out i hi
    rw [getD_lt (show i<MM.length by rw [Gn.out];exact hi)] at e
    rw [e,List.all_eq_true]
    intro q hq
    obtain ⟨c,hc,rfl⟩:=List.mem_map.1 hq
    exact HK.out i hi c (List.mem_range.1 hc)
   have her:er=0:=by rw [← vU.out,if_pos hall]
   have hmv:bQ wo (.slice (some ⟨vb.heap.size,0,none⟩) na na) MM.fr:=by
    have e1:MM.fr.length=na:=by unfold RM.fr;rw [List.length_map];exact Gn.out
    have:bQ wo (.slice (some ⟨vb.heap.size,0,none⟩) MM.fr.length MM.fr.length) MM.fr:=by
     refine fK.Cy ?_ zo
     rw [e1]
     obtain ⟨arr,k1,k2,k3⟩:=HM.out
     refine ⟨arr,k1,k2,fun i hi=>?_⟩
     have e2:MM.fr.getD i []=((List.range n).map (E i)).map Fr.of:=by
      rw [← JM.out i hi]
      simp [RM.fr,show i<List.length MM by rw [Gn.out];exact hi]
     show ∃ v,arr[i]? =some v∧jL wo 36 v (MM.fr.getD i [])
     rw [e2]
     exact k3 i hi
    rw [e1] at this
    exact this
   have vT:=zh hmv
   have Xg:=zh her
   clear hall hmv her
   go_wp2_with fail
   go_ret2
   rw [Xg.out]
   exact aQ.yes (Bt hwb hb) vT.out
end Go.Proofs.matrix
